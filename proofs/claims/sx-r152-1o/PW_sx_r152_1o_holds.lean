import PyProof.Rows.All
import Open.Row
import PyProof.StationsW
import PyProof.Rows.PlainStore
import PyProof.TupleIter
import PyProof.Seq
import PyProof.Rows.Exc
import PyProof.Rows.Frame
import PyProof.StrReplace2
import Wide.FinOn
import OpenK.Peek
import Open.Line
import PyProof.Rows.Nodes
import PyProof.Rows.Chain
import PyProof.Rows.News
import PyProof.PureInt
import PyProof.RulesTry
import PyProof.ForAppend
import PyProof.Rows.Catch
import PyProof.ExcFactsAll.ValueError
import PyProof.ExcAttrAll.ValueError
import PyProof.Rows.CatchBare
import PyProof.Rows.BootFacts
import PyProof.Rows.TupAssign
import KE.KBytesWalk
import PyProof.WalksMore
import PyProof.ForRange
import PyProof.CompUse
import Wide.All
import OpenK.AllK
import KE.KxBytes
import KE.BytesMulAny
import KE.KIsBytes
import KE.KTypeOf
import KE.BytesMake
import PyProof.TypeOfCall
import PyProof.Rows.Range3
import PyProof.CompFree
import PyProof.Cells
import PyProof.Rows.SortWalk
import PyProof.RangeFor
import PyProof.TableCode
import PySem.Challenge.RW_sx_r152_1o
set_option Elab.async false
set_option maxRecDepth 100000
set_option linter.all false
namespace Mine
open PySem
inductive PV where
 | none
 | bool (b:Bool)
 | int (i:Int)
 | flt (x:UInt64)
 | str (s:List Nat)
 | bytes (l:List Int)
 | tuple (l:List PV)
 | list (l:List PV)
 | dict0
 deriving Inhabited
inductive Res (α:Type) where
 | ok (a:α)
 | exc
 | stuck
noncomputable def Res.bind {α β:Type}:Res α→(α→Res β)→Res β
 | .ok a,f=>f a
 | .exc,_=>.exc
 | .stuck,_=>.stuck
noncomputable def lim:Nat:=1048576
inductive BOp | add | sub | mul | fdiv | mod
inductive COp | eq | ne | lt | le | gt | ge | is_ | isNot | in_ | notIn
inductive Ty | bytes | int | list | tuple
noncomputable def and2:Option Bool→Option Bool→Option Bool
 | some x,some y=>some (x && y)
 | some _,none=>none
 | none,_=>none
mutual
noncomputable def eqD:Nat→PV→PV→Option Bool
 | _,.none,y=>@PV.casesOn (fun _=>Option Bool) y (some true) (fun _=>none) (fun _=>none) (fun _=>none) (fun _=>none) (fun _=>none) (fun _=>none) (fun _=>none) none
 | _,.bool a,y=>@PV.casesOn (fun _=>Option Bool) y none (fun b=>some (a == b)) (fun _=>none) (fun _=>none) (fun _=>none) (fun _=>none) (fun _=>none) (fun _=>none) none
 | _,.int a,y=>@PV.casesOn (fun _=>Option Bool) y none (fun _=>none) (fun b=>some (a == b)) (fun _=>none) (fun _=>none) (fun _=>none) (fun _=>none) (fun _=>none) none
 | _,.flt _,_=>none
 | _,.str a,y=>@PV.casesOn (fun _=>Option Bool) y none (fun _=>none) (fun _=>none) (fun _=>none) (fun b=>some (a == b)) (fun _=>none) (fun _=>none) (fun _=>none) none
 | _,.bytes a,y=>@PV.casesOn (fun _=>Option Bool) y none (fun _=>none) (fun _=>none) (fun _=>none) (fun _=>none) (fun b=>some (a == b)) (fun _=>none) (fun _=>none) none
 | n,.tuple a,y=>@PV.casesOn (fun _=>Option Bool) y none (fun _=>none) (fun _=>none) (fun _=>none) (fun _=>none) (fun _=>none) (fun b=>match n with | 0=>none | n+1=>eqDs n a b) (fun _=>none) none
 | n,.list a,y=>@PV.casesOn (fun _=>Option Bool) y none (fun _=>none) (fun _=>none) (fun _=>none) (fun _=>none) (fun _=>none) (fun _=>none) (fun b=>match n with | 0=>none | n+1=>if a.length == b.length then eqDs n a b else some false) none
 | _,.dict0,_=>none
noncomputable def eqDs:Nat→List PV→List PV→Option Bool
 | _,[],y=>match y with | []=>some true | _::_=>some false
 | n,a::r,y=>match y with | []=>some false | b::t=>and2 (eqD n a b) (eqDs n r t)
end
noncomputable def onI {α:Type} (y:PV) (f:Int→Res α):Res α:=@PV.casesOn (fun _=>Res α) y .stuck (fun _=>.stuck) f (fun _=>.stuck) (fun _=>.stuck) (fun _=>.stuck) (fun _=>.stuck) (fun _=>.stuck) .stuck
noncomputable def onB {α:Type} (y:PV) (f:List Int→Res α):Res α:=@PV.casesOn (fun _=>Res α) y .stuck (fun _=>.stuck) (fun _=>.stuck) (fun _=>.stuck) (fun _=>.stuck) f (fun _=>.stuck) (fun _=>.stuck) .stuck
noncomputable def onL {α:Type} (y:PV) (f:List PV→Res α):Res α:=@PV.casesOn (fun _=>Res α) y .stuck (fun _=>.stuck) (fun _=>.stuck) (fun _=>.stuck) (fun _=>.stuck) (fun _=>.stuck) (fun _=>.stuck) f .stuck
noncomputable def onN {α:Type} (y:PV) (r:Res α):Res α:=@PV.casesOn (fun _=>Res α) y r (fun _=>.stuck) (fun _=>.stuck) (fun _=>.stuck) (fun _=>.stuck) (fun _=>.stuck) (fun _=>.stuck) (fun _=>.stuck) .stuck
section
variable {α:Type} {Z:Res α→Prop} {P:PV→Prop} (hz:Z .stuck→False) {y:PV}
include hz
theorem onI_k {f:Int→Res α} (h:Z (onI y f)) (k:∀ i,Z (f i)→P (.int i)):P y:=@PV.casesOn (fun y=>Z (onI y f)→P y) y (fun h=>(hz h).elim) (fun _ h=>(hz h).elim) k (fun _ h=>(hz h).elim) (fun _ h=>(hz h).elim) (fun _ h=>(hz h).elim) (fun _ h=>(hz h).elim) (fun _ h=>(hz h).elim) (fun h=>(hz h).elim) h
theorem onB_k {f:List Int→Res α} (h:Z (onB y f)) (k:∀ i,Z (f i)→P (.bytes i)):P y:=@PV.casesOn (fun y=>Z (onB y f)→P y) y (fun h=>(hz h).elim) (fun _ h=>(hz h).elim) (fun _ h=>(hz h).elim) (fun _ h=>(hz h).elim) (fun _ h=>(hz h).elim) k (fun _ h=>(hz h).elim) (fun _ h=>(hz h).elim) (fun h=>(hz h).elim) h
theorem onL_k {f:List PV→Res α} (h:Z (onL y f)) (k:∀ i,Z (f i)→P (.list i)):P y:=@PV.casesOn (fun y=>Z (onL y f)→P y) y (fun h=>(hz h).elim) (fun _ h=>(hz h).elim) (fun _ h=>(hz h).elim) (fun _ h=>(hz h).elim) (fun _ h=>(hz h).elim) (fun _ h=>(hz h).elim) (fun _ h=>(hz h).elim) k (fun h=>(hz h).elim) h
theorem onN_k {r:Res α} (h:Z (onN y r)) (k:Z r→P .none):P y:=@PV.casesOn (fun y=>Z (onN y r)→P y) y k (fun _ h=>(hz h).elim) (fun _ h=>(hz h).elim) (fun _ h=>(hz h).elim) (fun _ h=>(hz h).elim) (fun _ h=>(hz h).elim) (fun _ h=>(hz h).elim) (fun _ h=>(hz h).elim) (fun h=>(hz h).elim) h
theorem when_k {c:Prop} [Decidable c] {r:Res α} {p:Prop} (h:Z (if c then r else .stuck)) (k:c→Z r→p):p:=by
 by_cases hc:c
 ·rw [if_pos hc] at h; exact k hc h
 ·rw [if_neg hc] at h; exact (hz h).elim
end
noncomputable def addP (x y:PV):Res PV:=@PV.casesOn (fun _=>Res PV) x .stuck (fun _=>.stuck) (fun a=>onI y fun b=>.ok (.int (a+b))) (fun _=>.stuck) (fun _=>.stuck)
 (fun a=>onB y fun b=>if a.length+b.length≤lim then .ok (.bytes (a++b)) else .stuck) (fun _=>.stuck)
 (fun a=>onL y fun b=>if a.length+b.length≤lim then .ok (.list (a++b)) else .stuck) .stuck
noncomputable def mulP (x y:PV):Res PV:=@PV.casesOn (fun _=>Res PV) x .stuck (fun _=>.stuck) (fun a=>onI y fun b=>if a.natAbs≤4294967296∧b.natAbs≤4294967296 then .ok (.int (a * b)) else .stuck) (fun _=>.stuck) (fun _=>.stuck)
 (fun a=>onI y fun n=>if a≠[]∧a.length≤16∧-(lim:Int)≤n∧n≤lim∧a.length * n.toNat≤lim then .ok (.bytes (List.replicate n.toNat a).flatten) else .stuck) (fun _=>.stuck) (fun _=>.stuck) .stuck
noncomputable def binP:BOp→PV→PV→Res PV
 | .add,x,y=>addP x y
 | .sub,x,y=>onI x fun a=>onI y fun b=>.ok (.int (a - b))
 | .mul,x,y=>mulP x y
 | .fdiv,x,y=>onI x fun a=>onI y fun b=>if 0<b∧b<1073741824 then .ok (.int (a / b)) else .stuck
 | .mod,x,y=>onI x fun a=>onI y fun b=>if 0<b then .ok (.int (a % b)) else .stuck
noncomputable def augP:BOp→PV→PV→Res PV
 | .add,x,y=>onI x fun a=>onI y fun b=>.ok (.int (a+b))
 | .sub,_,_=>.stuck
 | .mul,_,_=>.stuck
 | .fdiv,_,_=>.stuck
 | .mod,_,_=>.stuck
noncomputable def ofO:Option Bool→Res Bool
 | some b=>.ok b
 | none=>.stuck
noncomputable def memD (n:Nat) (x:PV):List PV→Option Bool
 | []=>some false
 | y::r=>match eqD n y x,memD n x r with
  | some a,some b=>some (a || b)
  | _,_=>none
noncomputable def isNone:PV→Bool
 | .none=>true
 | _=>false
noncomputable def neOk:PV→PV→Bool
 | .none,.none=>true
 | .bool _,.bool _=>true
 | .int _,.int _=>true
 | .str _,.str _=>true
 | .bytes _,.bytes _=>true
 | .tuple _,.tuple _=>true
 | .list _,.list _=>true
 | _,_=>false
noncomputable def inP (f:Option Bool→Option Bool) (x y:PV):Res Bool:=@PV.casesOn (fun _=>Res Bool) y .stuck (fun _=>.stuck) (fun _=>.stuck) (fun _=>.stuck) (fun _=>.stuck)
 (fun l=>onI x fun n=>if 0≤n∧n<256 then ofO (f (some (decide (n∈l)))) else .stuck) (fun l=>ofO (f (memD 12 x l))) (fun l=>ofO (f (memD 12 x l))) .stuck
noncomputable def cmpP:COp→PV→PV→Res Bool
 | .eq,a,b=>ofO (eqD 12 a b)
 | .ne,a,b=>if neOk a b then ofO ((eqD 12 a b).map (!·)) else .stuck
 | .lt,x,y=>onI x fun a=>onI y fun b=>.ok (decide (a<b))
 | .le,x,y=>onI x fun a=>onI y fun b=>.ok (decide (a≤b))
 | .gt,x,y=>onI x fun a=>onI y fun b=>.ok (decide (b<a))
 | .ge,x,y=>onI x fun a=>onI y fun b=>.ok (decide (b≤a))
 | .is_,a,y=>onN y (.ok (isNone a))
 | .isNot,a,y=>onN y (.ok (!isNone a))
 | .in_,x,y=>inP id x y
 | .notIn,x,y=>inP (·.map (!·)) x y
noncomputable def truP:PV→Res Bool
 | .none=>.ok false
 | .bool b=>.ok b
 | .int i=>.ok (i != 0)
 | _=>.stuck
noncomputable def ofI:Option PV→Res PV
 | some v=>.ok v
 | none=>.stuck
noncomputable def idxP (x y:PV):Res PV:=@PV.casesOn (fun _=>Res PV) x .stuck (fun _=>.stuck) (fun _=>.stuck) (fun _=>.stuck) (fun _=>.stuck) (fun l=>onI y fun i=>if 0≤i then ofI (l[i.toNat]?.map PV.int) else .stuck)
 (fun l=>onI y fun i=>if 0≤i then ofI l[i.toNat]? else .stuck) (fun l=>onI y fun i=>if 0≤i then ofI l[i.toNat]? else .stuck) .stuck
noncomputable def cutL {α:Type} (l:List α) (lo hi:Option Int):List α :=
 (match hi with | some h=>l.take h.toNat | none=>l).drop (match lo with | some a=>a.toNat | none=>0)
noncomputable def endP:Option PV→Res (Option Int)
 | none=>.ok none
 | some (.int i)=>if 0≤i then .ok (some i) else .stuck
 | _=>.stuck
noncomputable def slcP (a:PV) (lo hi:Option Int):Res PV :=
 match a with
 | .bytes l=>.ok (.bytes (cutL l lo hi))
 | .list l=>.ok (.list (cutL l lo hi))
 | _=>.stuck
noncomputable def lenP:PV→Res PV
 | .bytes l=>.ok (.int l.length)
 | .tuple l=>.ok (.int l.length)
 | .list l=>.ok (.int l.length)
 | _=>.stuck
noncomputable def isP (p:PV) (t:Ty):Bool:=@PV.casesOn (fun _=>Bool) p false (fun _=>false) (fun _=>@Ty.casesOn (fun _=>Bool) t false true false false) (fun _=>false) (fun _=>false) (fun _=>@Ty.casesOn (fun _=>Bool) t true false false false)
 (fun _=>@Ty.casesOn (fun _=>Bool) t false false false true) (fun _=>@Ty.casesOn (fun _=>Bool) t false false true false) false
noncomputable def isBool:PV→Bool
 | .bool _=>true
 | _=>false
noncomputable def intsOf:List PV→Option (List Int)
 | []=>some []
 | .int i::r=>(intsOf r).map (i::·)
 | _::_=>none
noncomputable def bytesP:PV→Res PV
 | .list l=>match intsOf l with
  | some ns=>if ∀ n∈ns,0≤n∧n<256 then .ok (.bytes ns) else .stuck
  | none=>.stuck
 | _=>.stuck
noncomputable def listP (x:PV):Res PV:=onL x fun l=>.ok (.list l)
noncomputable def boolsOf:List PV→Option (List Bool)
 | []=>some []
 | .bool b::r=>(boolsOf r).map (b::·)
 | _::_=>none
noncomputable def allP (x:PV):Res PV:=onL x fun l=>match boolsOf l with
 | some bs=>.ok (.bool (bs.all id))
 | none=>.stuck
noncomputable def chunksOf:List PV→Option (List (List Int))
 | []=>some []
 | .bytes b::r=>(chunksOf r).map (b::·)
 | _::_=>none
noncomputable def glue (sep:List Int):List (List Int)→List Int
 | []=>[]
 | [a]=>a
 | a::b::r=>a++sep++glue sep (b::r)
noncomputable def joinP (sep:PV) (a:PV):Res PV :=
 match sep,a with
 | .bytes s,.list l=>match chunksOf l with
  | some cs=>if l.length≤lim∧(glue s cs).length≤lim then .ok (.bytes (glue s cs)) else .stuck
  | none=>.stuck
 | _,_=>.stuck
set_option genInjectivity false in
set_option genSizeOfSpec false in
inductive CE where
 | lit (v:PV)
 | neg (n:Nat)
 | var (i:Nat)
 | glob (i:Nat)
 | strFlt (s:List Nat) (x:UInt64)
 | tup (l:List CE)
 | lst (l:List CE)
 | bin (o:BOp) (a b:CE)
 | cmp (o:COp) (a b:CE)
 | cmp2 (o p:COp) (a b c:CE)
 | and_ (l:List CE)
 | or_ (l:List CE)
 | not_ (a:CE)
 | ite (c a b:CE)
 | idx (a i:CE)
 | slc (a:CE) (lo hi:Option CE)
 | call (f:Nat) (args:List CE)
 | len (a:CE)
 | isin (a:CE) (ts:List Ty)
 | isin1 (a:CE) (t:Ty)
 | mkBytes (a:CE)
 | mkList (a:CE)
 | all_ (a:CE)
 | typeIs (a:CE) (t:Ty)
 | join (sep a:CE)
 | comp (elt src:CE) (cond:Option CE)
inductive Slot where
 | unset
 | val (v:PV)
 | own (l:List PV)
set_option genInjectivity false in
set_option genSizeOfSpec false in
inductive CS where
 | frz (i:Nat)
 | assign (i:Nat) (e:CE)
 | own (i:Nat) (l:List CE)
 | assignT (rev:Bool) (is:List Nat) (e:CE)
 | aug (i:Nat) (o:BOp) (e:CE)
 | app (i:Nat) (e:CE)
 | expr (e:CE)
 | ret (e:CE)
 | if_ (c:CE) (a b:List CS)
 | while_ (c:CE) (b:List CS)
 | for_ (i:Nat) (src:CE) (b:List CS)
 | forR (i:Nat) (n:CE) (b:List CS)
 | raise_
 | tryE (e:CE) (j:Nat) (v:PV)
 | brk
inductive Fl where
 | next
 | brk
 | ret (v:PV)
noncomputable def getS:List Slot→Nat→Slot
 | [],_=>.unset
 | s::_,0=>s
 | _::r,n+1=>getS r n
noncomputable def putS:List Slot→Nat→Slot→List Slot
 | [],_,_=>[]
 | _::r,0,v=>v::r
 | s::r,n+1,v=>s::putS r n v
noncomputable def itemsP:PV→Res (List PV)
 | .bytes l=>.ok (l.map PV.int)
 | .tuple l=>.ok l
 | .list l=>.ok l
 | _=>.stuck
noncomputable def putsS:List Slot→List Nat→List PV→List Slot
 | ρ,i::r,v::t=>putsS (putS ρ i (.val v)) r t
 | ρ,_,_=>ρ
noncomputable def unpackP (n:Nat):PV→Res (List PV)
 | .tuple l=>if l.length=n then .ok l else .stuck
 | _=>.stuck
noncomputable def mapR {α β:Type} (f:α→Res β):List α→Res (List β)
 | []=>.ok []
 | a::r=>(f a).bind fun b=>(mapR f r).bind fun bs=>.ok (b::bs)
section
variable (F:Nat→List PV→Res PV) (G:Nat→Res PV)
mutual
noncomputable def evE:CE→List Slot→Res PV
 | .lit v,_=>.ok v
 | .neg n,_=>.ok (.int (-(n:Int)))
 | .var i,ρ=>match getS ρ i with
  | .val v=>.ok v
  | _=>.stuck
 | .glob i,_=>G i
 | .strFlt s x,_=>.ok (.tuple [.str s,.flt x])
 | .tup l,ρ=>(evEs l ρ).bind fun vs=>if vs.length≤lim then .ok (.tuple vs) else .stuck
 | .lst l,ρ=>(evEs l ρ).bind fun vs=>if vs.length≤lim then .ok (.list vs) else .stuck
 | .bin o a b,ρ=>(evE a ρ).bind fun x=>(evE b ρ).bind fun y=>binP o x y
 | .cmp o a b,ρ=>(evE a ρ).bind fun x=>(evE b ρ).bind fun y=>(cmpP o x y).bind fun r=>.ok (.bool r)
 | .cmp2 o p a b c,ρ=>(evE a ρ).bind fun x=>(evE b ρ).bind fun y=>(cmpP o x y).bind fun r =>
   if r then (evE c ρ).bind fun z=>(cmpP p y z).bind fun q=>.ok (.bool q) else .ok (.bool false)
 | .and_ l,ρ=>evAnd l ρ
 | .or_ l,ρ=>evOr l ρ
 | .not_ a,ρ=>(evE a ρ).bind fun x=>(truP x).bind fun b=>.ok (.bool (!b))
 | .ite c a b,ρ=>(evE c ρ).bind fun x=>(truP x).bind fun t=>if t then evE a ρ else evE b ρ
 | .idx a i,ρ=>(evE a ρ).bind fun x=>(evE i ρ).bind fun y=>idxP x y
 | .slc a lo hi,ρ=>(evE a ρ).bind fun x=>(evO lo ρ).bind fun l=>(evO hi ρ).bind fun h =>
   (endP l).bind fun l'=>(endP h).bind fun h'=>slcP x l' h'
 | .call f args,ρ=>(evEs args ρ).bind fun vs=>F f vs
 | .len (.var i),ρ=>match getS ρ i with
  | .val v=>lenP v
  | .own l=>.ok (.int l.length)
  | .unset=>.stuck
 | .len a,ρ=>(evE a ρ).bind lenP
 | .isin a ts,ρ=>(evE a ρ).bind fun x=>if isBool x then .stuck else .ok (.bool (ts.any (isP x)))
 | .isin1 a t,ρ=>(evE a ρ).bind fun x=>if isBool x then .stuck else .ok (.bool (isP x t))
 | .mkBytes a,ρ=>(evE a ρ).bind bytesP
 | .mkList a,ρ=>(evE a ρ).bind listP
 | .all_ a,ρ=>(evE a ρ).bind allP
 | .typeIs a t,ρ=>(evE a ρ).bind fun x=>.ok (.bool (isP x t))
 | .join s a,ρ=>(evE s ρ).bind fun x=>(evE a ρ).bind fun y=>joinP x y
 | .comp elt src none,ρ=>(evE src ρ).bind fun x=>(itemsP x).bind fun l =>
   (mapR (fun v=>evE elt [.val v]) l).bind fun vs=>.ok (.list vs)
 | .comp _ _ (some _),_=>.stuck
noncomputable def evO:Option CE→List Slot→Res (Option PV)
 | none,_=>.ok none
 | some e,ρ=>(evE e ρ).bind fun v=>.ok (some v)
noncomputable def evEs:List CE→List Slot→Res (List PV)
 | [],_=>.ok []
 | e::r,ρ=>(evE e ρ).bind fun v=>(evEs r ρ).bind fun vs=>.ok (v::vs)
noncomputable def evAnd:List CE→List Slot→Res PV
 | [],_=>.stuck
 | [a],ρ=>evE a ρ
 | a::b::r,ρ=>(evE a ρ).bind fun x=>(truP x).bind fun t=>if t then evAnd (b::r) ρ else .ok x
noncomputable def evOr:List CE→List Slot→Res PV
 | [],_=>.stuck
 | [a],ρ=>evE a ρ
 | a::b::r,ρ=>(evE a ρ).bind fun x=>(truP x).bind fun t=>if t then .ok x else evOr (b::r) ρ
end
noncomputable def evB (c:CE) (ρ:List Slot):Res Bool:=(evE F G c ρ).bind truP
noncomputable def whileN (t:List Slot→Res Bool) (b:List Slot→Res (Fl × List Slot)):Nat→List Slot→Res (Fl × List Slot)
 | 0,_=>.stuck
 | n+1,ρ=>(t ρ).bind fun c=>if c then
   match b ρ with
   | .ok (.next,ρ')=>whileN t b n ρ'
   | .ok (.brk,ρ')=>.ok (.next,ρ')
   | .ok (.ret v,ρ')=>.ok (.ret v,ρ')
   | .exc=>.exc
   | .stuck=>.stuck
  else .ok (.next,ρ)
noncomputable def forN (set:List Slot→PV→Res (List Slot)) (b:List Slot→Res (Fl × List Slot)):List PV→List Slot→Res (Fl × List Slot)
 | [],ρ=>.ok (.next,ρ)
 | v::r,ρ=>(set ρ v).bind fun ρ' =>
   match b ρ' with
   | .ok (.next,ρ'')=>forN set b r ρ''
   | .ok (.brk,ρ'')=>.ok (.next,ρ'')
   | .ok (.ret v,ρ'')=>.ok (.ret v,ρ'')
   | .exc=>.exc
   | .stuck=>.stuck
noncomputable def rangeL (n:Int):List PV:=(List.range n.toNat).map fun (k:Nat)=>PV.int (k:Int)
variable (W:Nat)
mutual
noncomputable def evS:CS→List Slot→Res (Fl × List Slot)
 | .frz i,ρ=>match getS ρ i with
  | .own l=>.ok (.next,putS ρ i (.val (.list l)))
  | _=>.ok (.next,ρ)
 | .assign i e,ρ=>(evE F G e ρ).bind fun v=>.ok (.next,putS ρ i (.val v))
 | .own i l,ρ=>(evEs F G l ρ).bind fun vs=>if vs.length≤lim then .ok (.next,putS ρ i (.own vs)) else .stuck
 | .assignT rev is e,ρ=>if rev then .stuck else (evE F G e ρ).bind fun v=>(unpackP is.length v).bind fun vs=>.ok (.next,putsS ρ is vs)
 | .aug i o e,ρ=>match getS ρ i with
  | .val x=>(evE F G e ρ).bind fun y=>(augP o x y).bind fun v=>.ok (.next,putS ρ i (.val v))
  | _=>.stuck
 | .app i e,ρ=>match getS ρ i with
  | .own l=>(evE F G e ρ).bind fun v=>if l.length<lim then .ok (.next,putS ρ i (.own (l++[v]))) else .stuck
  | _=>.stuck
 | .expr e,ρ=>(evE F G e ρ).bind fun v=>if isNone v then .ok (.next,ρ) else .stuck
 | .ret e,ρ=>(evE F G e ρ).bind fun v=>.ok (.ret v,ρ)
 | .if_ c a b,ρ=>(evB F G c ρ).bind fun t=>if t then evSs a ρ else evSs b ρ
 | .while_ c b,ρ=>whileN (fun ρ=>evB F G c ρ) (fun ρ=>evSs b ρ) W ρ
 | .for_ i src b,ρ=>(evE F G src ρ).bind fun x=>(itemsP x).bind fun l =>
   forN (fun ρ v=>.ok (putS ρ i (.val v))) (fun ρ=>evSs b ρ) l ρ
 | .forR i n b,ρ=>(evE F G n ρ).bind fun x=>match x with
  | .int k=>if -(lim:Int)≤k∧k≤lim then forN (fun ρ v=>.ok (putS ρ i (.val v))) (fun ρ=>evSs b ρ) (rangeL k) ρ else .stuck
  | _=>.stuck
 | .raise_,_=>.exc
 | .tryE e j v,ρ=>match evE F G e ρ with
  | .ok _=>.ok (.next,ρ)
  | .exc=>.ok (.next,putS ρ j (.val v))
  | .stuck=>.stuck
 | .brk,ρ=>.ok (.brk,ρ)
noncomputable def evSs:List CS→List Slot→Res (Fl × List Slot)
 | [],ρ=>.ok (.next,ρ)
 | s::r,ρ=>match evS s ρ with
  | .ok (.next,ρ')=>evSs r ρ'
  | .ok (f,ρ')=>.ok (f,ρ')
  | .exc=>.exc
  | .stuck=>.stuck
end
end
inductive CF where
 | code (vars:List Str) (params:Nat) (body:List CS)
 | native (g:List PV→Res PV)
noncomputable def startS (n k:Nat) (args:List PV):List Slot:=args.map Slot.val++List.replicate (n - k) Slot.unset
noncomputable def outS:Res (Fl × List Slot)→Res PV
 | .ok (.ret v,_)=>.ok v
 | .ok (.next,_)=>.ok .none
 | .ok (.brk,_)=>.stuck
 | .exc=>.exc
 | .stuck=>.stuck
noncomputable def den (T:Nat→Option CF) (G:Nat→Res PV) (W:Nat):Nat→Nat→List PV→Res PV
 | 0,_,_=>.stuck
 | d+1,f,args=>match T f with
  | some (.code vars k body)=>if args.length=k then outS (evSs (den T G W d) G W body (startS vars.length k args)) else .stuck
  | some (.native g)=>g args
  | none=>.stuck
end Mine
namespace Mine
open PySem
noncomputable def opOf:BOp→Operator
 | .add=>.Add
 | .sub=>.Sub
 | .mul=>.Mult
 | .fdiv=>.FloorDiv
 | .mod=>.Mod
noncomputable def copOf:COp→CmpOp
 | .eq=>.Eq
 | .ne=>.NotEq
 | .lt=>.Lt
 | .le=>.LtE
 | .gt=>.Gt
 | .ge=>.GtE
 | .is_=>.Is
 | .isNot=>.IsNot
 | .in_=>.In
 | .notIn=>.NotIn
noncomputable def bopOk (op:Operator) (o:BOp):Bool:=decide (op=opOf o)
noncomputable def copOk (op:CmpOp) (o:COp):Bool:=decide (op=copOf o)
noncomputable def tyName:Ty→String
 | .bytes => "bytes"
 | .int => "int"
 | .list => "list"
 | .tuple => "tuple"
noncomputable def shortLit:PV→Bool
 | .bytes l=>decide (l.length≤1048576)
 | _=>true
structure Nm where
 names:List (Str × NameKind)
 vs:List Str
 fs:List Str
 gs:List Str
noncomputable def Nm.isGlob (N : Nm) (x : Str) : Bool := N.names.lookup x == some .globalImplicit && !(x == ("__debug__" : Str))
noncomputable def Nm.isVar (N : Nm) (x : Str) (i : Nat) : Bool := N.vs[i]? == some x && N.names.lookup x == some .local && !(x == ("__debug__" : Str))
noncomputable def Nm.isWord (N:Nm) (x:Str) (s:String):Bool:=x == Str.ofString s && N.isGlob x
noncomputable def Nm.isVarIn (_N : Nm) (sc : Scope) (x : Str) : Bool := sc.names.lookup x == some .local && !(x == ("__debug__" : Str))
noncomputable def compOk (sc:Scope):Bool :=
 sc.kind == .function && sc.names.all (fun p=>(p.2 == .local || p.2 == .globalImplicit) && (p.2 != .local || sc.names.lookup p.1 == some .local))
noncomputable def notStar (e:Expr):Bool:=@PySem.Expr.casesOn (fun _=>Bool) e (fun _ _ _=>true) (fun _ _ _=>true) (fun _ _ _ _=>true) (fun _ _ _=>true) (fun _ _ _ _=>true) (fun _ _ _ _=>true) (fun _ _ _=>true) (fun _ _ _=>true) (fun _ _ _ _=>true) (fun _ _ _ _=>true) (fun _ _ _ _ _=>true) (fun _ _ _ _=>true) (fun _ _=>true) (fun _ _=>true) (fun _ _=>true) (fun _ _ _ _=>true) (fun _ _ _ _=>true) (fun _ _ _ _=>true) (fun _ _=>true) (fun _ _ _=>true) (fun _ _ _=>true) (fun _ _ _=>true) (fun _ _=>false) (fun _ _=>true) (fun _ _=>true) (fun _ _ _=>true) (fun _ _ _ _=>true)
noncomputable def notSlice (e:Expr):Bool:=@PySem.Expr.casesOn (fun _=>Bool) e (fun _ _ _=>true) (fun _ _ _=>true) (fun _ _ _ _=>true) (fun _ _ _=>true) (fun _ _ _ _=>true) (fun _ _ _ _=>true) (fun _ _ _=>true) (fun _ _ _=>true) (fun _ _ _ _=>true) (fun _ _ _ _=>true) (fun _ _ _ _ _=>true) (fun _ _ _ _=>true) (fun _ _=>true) (fun _ _=>true) (fun _ _=>true) (fun _ _ _ _=>true) (fun _ _ _ _=>true) (fun _ _ _ _=>true) (fun _ _=>true) (fun _ _ _=>true) (fun _ _ _=>true) (fun _ _ _=>true) (fun _ _=>true) (fun _ _=>true) (fun _ _=>true) (fun _ _ _=>true) (fun _ _ _ _=>false)
noncomputable def notSet (e:Expr):Bool:=@PySem.Expr.casesOn (fun _=>Bool) e (fun _ _ _=>true) (fun _ _ _=>true) (fun _ _ _ _=>true) (fun _ _ _=>true) (fun _ _ _ _=>true) (fun _ _ _ _=>true) (fun _ _ _=>true) (fun _ _ _=>false) (fun _ _ _ _=>true) (fun _ _ _ _=>true) (fun _ _ _ _ _=>true) (fun _ _ _ _=>true) (fun _ _=>true) (fun _ _=>true) (fun _ _=>true) (fun _ _ _ _=>true) (fun _ _ _ _=>true) (fun _ _ _ _=>true) (fun _ _=>true) (fun _ _ _=>true) (fun _ _ _=>true) (fun _ _ _=>true) (fun _ _=>true) (fun _ _=>true) (fun _ _=>true) (fun _ _ _=>true) (fun _ _ _ _=>true)
theorem ff {p:Prop} (h:false=true):p:=nomatch h
theorem aL {a b:Bool} (h:(a && b)=true):a=true:=(Bool.and_eq_true_iff.1 h).1
theorem aR {a b:Bool} (h:(a && b)=true):b=true:=(Bool.and_eq_true_iff.1 h).2
noncomputable def onConstant (e:PySem.Expr) (f:Const→Nat→Pos→Bool):Bool:=@PySem.Expr.casesOn (fun _=>Bool) e (fun _ _ _=>false) (fun _ _ _=>false) (fun _ _ _ _=>false) (fun _ _ _=>false) (fun _ _ _ _=>false) (fun _ _ _ _=>false) (fun _ _ _=>false) (fun _ _ _=>false) (fun _ _ _ _=>false) (fun _ _ _ _=>false) (fun _ _ _ _ _=>false) (fun _ _ _ _=>false) (fun _ _=>false) (fun _ _=>false) (fun _ _=>false) (fun _ _ _ _=>false) (fun _ _ _ _=>false) (fun _ _ _ _=>false) (fun _ _=>false) f (fun _ _ _=>false) (fun _ _ _=>false) (fun _ _=>false) (fun _ _=>false) (fun _ _=>false) (fun _ _ _=>false) (fun _ _ _ _=>false)
theorem onConstant_k {P:PySem.Expr→Prop} {e:PySem.Expr} {f:Const→Nat→Pos→Bool} (h:onConstant e f=true) (k:∀ a0 a1 a2,f a0 a1 a2=true→P (.Constant a0 a1 a2)):P e :=
 @PySem.Expr.casesOn (fun e=>onConstant e f=true→P e) e (fun _ _ _=>ff) (fun _ _ _=>ff) (fun _ _ _ _=>ff) (fun _ _ _=>ff) (fun _ _ _ _=>ff) (fun _ _ _ _=>ff) (fun _ _ _=>ff) (fun _ _ _=>ff) (fun _ _ _ _=>ff) (fun _ _ _ _=>ff) (fun _ _ _ _ _=>ff) (fun _ _ _ _=>ff) (fun _ _=>ff) (fun _ _=>ff) (fun _ _=>ff) (fun _ _ _ _=>ff) (fun _ _ _ _=>ff) (fun _ _ _ _=>ff) (fun _ _=>ff) k (fun _ _ _=>ff) (fun _ _ _=>ff) (fun _ _=>ff) (fun _ _=>ff) (fun _ _=>ff) (fun _ _ _=>ff) (fun _ _ _ _=>ff) h
noncomputable def onUnaryOp (e:PySem.Expr) (f:UnaryOp→Expr→Pos→Bool):Bool:=@PySem.Expr.casesOn (fun _=>Bool) e (fun _ _ _=>false) (fun _ _ _=>false) (fun _ _ _ _=>false) f (fun _ _ _ _=>false) (fun _ _ _ _=>false) (fun _ _ _=>false) (fun _ _ _=>false) (fun _ _ _ _=>false) (fun _ _ _ _=>false) (fun _ _ _ _ _=>false) (fun _ _ _ _=>false) (fun _ _=>false) (fun _ _=>false) (fun _ _=>false) (fun _ _ _ _=>false) (fun _ _ _ _=>false) (fun _ _ _ _=>false) (fun _ _=>false) (fun _ _ _=>false) (fun _ _ _=>false) (fun _ _ _=>false) (fun _ _=>false) (fun _ _=>false) (fun _ _=>false) (fun _ _ _=>false) (fun _ _ _ _=>false)
theorem onUnaryOp_k {P:PySem.Expr→Prop} {e:PySem.Expr} {f:UnaryOp→Expr→Pos→Bool} (h:onUnaryOp e f=true) (k:∀ a0 a1 a2,f a0 a1 a2=true→P (.UnaryOp a0 a1 a2)):P e :=
 @PySem.Expr.casesOn (fun e=>onUnaryOp e f=true→P e) e (fun _ _ _=>ff) (fun _ _ _=>ff) (fun _ _ _ _=>ff) k (fun _ _ _ _=>ff) (fun _ _ _ _=>ff) (fun _ _ _=>ff) (fun _ _ _=>ff) (fun _ _ _ _=>ff) (fun _ _ _ _=>ff) (fun _ _ _ _ _=>ff) (fun _ _ _ _=>ff) (fun _ _=>ff) (fun _ _=>ff) (fun _ _=>ff) (fun _ _ _ _=>ff) (fun _ _ _ _=>ff) (fun _ _ _ _=>ff) (fun _ _=>ff) (fun _ _ _=>ff) (fun _ _ _=>ff) (fun _ _ _=>ff) (fun _ _=>ff) (fun _ _=>ff) (fun _ _=>ff) (fun _ _ _=>ff) (fun _ _ _ _=>ff) h
noncomputable def onName (e:PySem.Expr) (f:Str→Pos→Bool):Bool:=@PySem.Expr.casesOn (fun _=>Bool) e (fun _ _ _=>false) (fun _ _ _=>false) (fun _ _ _ _=>false) (fun _ _ _=>false) (fun _ _ _ _=>false) (fun _ _ _ _=>false) (fun _ _ _=>false) (fun _ _ _=>false) (fun _ _ _ _=>false) (fun _ _ _ _=>false) (fun _ _ _ _ _=>false) (fun _ _ _ _=>false) (fun _ _=>false) (fun _ _=>false) (fun _ _=>false) (fun _ _ _ _=>false) (fun _ _ _ _=>false) (fun _ _ _ _=>false) (fun _ _=>false) (fun _ _ _=>false) (fun _ _ _=>false) (fun _ _ _=>false) (fun _ _=>false) f (fun _ _=>false) (fun _ _ _=>false) (fun _ _ _ _=>false)
theorem onName_k {P:PySem.Expr→Prop} {e:PySem.Expr} {f:Str→Pos→Bool} (h:onName e f=true) (k:∀ a0 a1,f a0 a1=true→P (.Name a0 a1)):P e :=
 @PySem.Expr.casesOn (fun e=>onName e f=true→P e) e (fun _ _ _=>ff) (fun _ _ _=>ff) (fun _ _ _ _=>ff) (fun _ _ _=>ff) (fun _ _ _ _=>ff) (fun _ _ _ _=>ff) (fun _ _ _=>ff) (fun _ _ _=>ff) (fun _ _ _ _=>ff) (fun _ _ _ _=>ff) (fun _ _ _ _ _=>ff) (fun _ _ _ _=>ff) (fun _ _=>ff) (fun _ _=>ff) (fun _ _=>ff) (fun _ _ _ _=>ff) (fun _ _ _ _=>ff) (fun _ _ _ _=>ff) (fun _ _=>ff) (fun _ _ _=>ff) (fun _ _ _=>ff) (fun _ _ _=>ff) (fun _ _=>ff) k (fun _ _=>ff) (fun _ _ _=>ff) (fun _ _ _ _=>ff) h
noncomputable def onTuple (e:PySem.Expr) (f:(List Expr)→Nat→Pos→Bool):Bool:=@PySem.Expr.casesOn (fun _=>Bool) e (fun _ _ _=>false) (fun _ _ _=>false) (fun _ _ _ _=>false) (fun _ _ _=>false) (fun _ _ _ _=>false) (fun _ _ _ _=>false) (fun _ _ _=>false) (fun _ _ _=>false) (fun _ _ _ _=>false) (fun _ _ _ _=>false) (fun _ _ _ _ _=>false) (fun _ _ _ _=>false) (fun _ _=>false) (fun _ _=>false) (fun _ _=>false) (fun _ _ _ _=>false) (fun _ _ _ _=>false) (fun _ _ _ _=>false) (fun _ _=>false) (fun _ _ _=>false) (fun _ _ _=>false) (fun _ _ _=>false) (fun _ _=>false) (fun _ _=>false) (fun _ _=>false) f (fun _ _ _ _=>false)
theorem onTuple_k {P:PySem.Expr→Prop} {e:PySem.Expr} {f:(List Expr)→Nat→Pos→Bool} (h:onTuple e f=true) (k:∀ a0 a1 a2,f a0 a1 a2=true→P (.Tuple a0 a1 a2)):P e :=
 @PySem.Expr.casesOn (fun e=>onTuple e f=true→P e) e (fun _ _ _=>ff) (fun _ _ _=>ff) (fun _ _ _ _=>ff) (fun _ _ _=>ff) (fun _ _ _ _=>ff) (fun _ _ _ _=>ff) (fun _ _ _=>ff) (fun _ _ _=>ff) (fun _ _ _ _=>ff) (fun _ _ _ _=>ff) (fun _ _ _ _ _=>ff) (fun _ _ _ _=>ff) (fun _ _=>ff) (fun _ _=>ff) (fun _ _=>ff) (fun _ _ _ _=>ff) (fun _ _ _ _=>ff) (fun _ _ _ _=>ff) (fun _ _=>ff) (fun _ _ _=>ff) (fun _ _ _=>ff) (fun _ _ _=>ff) (fun _ _=>ff) (fun _ _=>ff) (fun _ _=>ff) k (fun _ _ _ _=>ff) h
noncomputable def onList (e:PySem.Expr) (f:(List Expr)→Pos→Bool):Bool:=@PySem.Expr.casesOn (fun _=>Bool) e (fun _ _ _=>false) (fun _ _ _=>false) (fun _ _ _ _=>false) (fun _ _ _=>false) (fun _ _ _ _=>false) (fun _ _ _ _=>false) (fun _ _ _=>false) (fun _ _ _=>false) (fun _ _ _ _=>false) (fun _ _ _ _=>false) (fun _ _ _ _ _=>false) (fun _ _ _ _=>false) (fun _ _=>false) (fun _ _=>false) (fun _ _=>false) (fun _ _ _ _=>false) (fun _ _ _ _=>false) (fun _ _ _ _=>false) (fun _ _=>false) (fun _ _ _=>false) (fun _ _ _=>false) (fun _ _ _=>false) (fun _ _=>false) (fun _ _=>false) f (fun _ _ _=>false) (fun _ _ _ _=>false)
theorem onList_k {P:PySem.Expr→Prop} {e:PySem.Expr} {f:(List Expr)→Pos→Bool} (h:onList e f=true) (k:∀ a0 a1,f a0 a1=true→P (.List a0 a1)):P e :=
 @PySem.Expr.casesOn (fun e=>onList e f=true→P e) e (fun _ _ _=>ff) (fun _ _ _=>ff) (fun _ _ _ _=>ff) (fun _ _ _=>ff) (fun _ _ _ _=>ff) (fun _ _ _ _=>ff) (fun _ _ _=>ff) (fun _ _ _=>ff) (fun _ _ _ _=>ff) (fun _ _ _ _=>ff) (fun _ _ _ _ _=>ff) (fun _ _ _ _=>ff) (fun _ _=>ff) (fun _ _=>ff) (fun _ _=>ff) (fun _ _ _ _=>ff) (fun _ _ _ _=>ff) (fun _ _ _ _=>ff) (fun _ _=>ff) (fun _ _ _=>ff) (fun _ _ _=>ff) (fun _ _ _=>ff) (fun _ _=>ff) (fun _ _=>ff) k (fun _ _ _=>ff) (fun _ _ _ _=>ff) h
noncomputable def onBinOp (e:PySem.Expr) (f:Expr→Operator→Expr→Pos→Bool):Bool:=@PySem.Expr.casesOn (fun _=>Bool) e (fun _ _ _=>false) (fun _ _ _=>false) f (fun _ _ _=>false) (fun _ _ _ _=>false) (fun _ _ _ _=>false) (fun _ _ _=>false) (fun _ _ _=>false) (fun _ _ _ _=>false) (fun _ _ _ _=>false) (fun _ _ _ _ _=>false) (fun _ _ _ _=>false) (fun _ _=>false) (fun _ _=>false) (fun _ _=>false) (fun _ _ _ _=>false) (fun _ _ _ _=>false) (fun _ _ _ _=>false) (fun _ _=>false) (fun _ _ _=>false) (fun _ _ _=>false) (fun _ _ _=>false) (fun _ _=>false) (fun _ _=>false) (fun _ _=>false) (fun _ _ _=>false) (fun _ _ _ _=>false)
theorem onBinOp_k {P:PySem.Expr→Prop} {e:PySem.Expr} {f:Expr→Operator→Expr→Pos→Bool} (h:onBinOp e f=true) (k:∀ a0 a1 a2 a3,f a0 a1 a2 a3=true→P (.BinOp a0 a1 a2 a3)):P e :=
 @PySem.Expr.casesOn (fun e=>onBinOp e f=true→P e) e (fun _ _ _=>ff) (fun _ _ _=>ff) k (fun _ _ _=>ff) (fun _ _ _ _=>ff) (fun _ _ _ _=>ff) (fun _ _ _=>ff) (fun _ _ _=>ff) (fun _ _ _ _=>ff) (fun _ _ _ _=>ff) (fun _ _ _ _ _=>ff) (fun _ _ _ _=>ff) (fun _ _=>ff) (fun _ _=>ff) (fun _ _=>ff) (fun _ _ _ _=>ff) (fun _ _ _ _=>ff) (fun _ _ _ _=>ff) (fun _ _=>ff) (fun _ _ _=>ff) (fun _ _ _=>ff) (fun _ _ _=>ff) (fun _ _=>ff) (fun _ _=>ff) (fun _ _=>ff) (fun _ _ _=>ff) (fun _ _ _ _=>ff) h
noncomputable def onCompare (e:PySem.Expr) (f:Expr→(List CmpOp)→(List Expr)→Pos→Bool):Bool:=@PySem.Expr.casesOn (fun _=>Bool) e (fun _ _ _=>false) (fun _ _ _=>false) (fun _ _ _ _=>false) (fun _ _ _=>false) (fun _ _ _ _=>false) (fun _ _ _ _=>false) (fun _ _ _=>false) (fun _ _ _=>false) (fun _ _ _ _=>false) (fun _ _ _ _=>false) (fun _ _ _ _ _=>false) (fun _ _ _ _=>false) (fun _ _=>false) (fun _ _=>false) (fun _ _=>false) f (fun _ _ _ _=>false) (fun _ _ _ _=>false) (fun _ _=>false) (fun _ _ _=>false) (fun _ _ _=>false) (fun _ _ _=>false) (fun _ _=>false) (fun _ _=>false) (fun _ _=>false) (fun _ _ _=>false) (fun _ _ _ _=>false)
theorem onCompare_k {P:PySem.Expr→Prop} {e:PySem.Expr} {f:Expr→(List CmpOp)→(List Expr)→Pos→Bool} (h:onCompare e f=true) (k:∀ a0 a1 a2 a3,f a0 a1 a2 a3=true→P (.Compare a0 a1 a2 a3)):P e :=
 @PySem.Expr.casesOn (fun e=>onCompare e f=true→P e) e (fun _ _ _=>ff) (fun _ _ _=>ff) (fun _ _ _ _=>ff) (fun _ _ _=>ff) (fun _ _ _ _=>ff) (fun _ _ _ _=>ff) (fun _ _ _=>ff) (fun _ _ _=>ff) (fun _ _ _ _=>ff) (fun _ _ _ _=>ff) (fun _ _ _ _ _=>ff) (fun _ _ _ _=>ff) (fun _ _=>ff) (fun _ _=>ff) (fun _ _=>ff) k (fun _ _ _ _=>ff) (fun _ _ _ _=>ff) (fun _ _=>ff) (fun _ _ _=>ff) (fun _ _ _=>ff) (fun _ _ _=>ff) (fun _ _=>ff) (fun _ _=>ff) (fun _ _=>ff) (fun _ _ _=>ff) (fun _ _ _ _=>ff) h
noncomputable def onBoolOp (e:PySem.Expr) (f:BoolOp→(List Expr)→Pos→Bool):Bool:=@PySem.Expr.casesOn (fun _=>Bool) e f (fun _ _ _=>false) (fun _ _ _ _=>false) (fun _ _ _=>false) (fun _ _ _ _=>false) (fun _ _ _ _=>false) (fun _ _ _=>false) (fun _ _ _=>false) (fun _ _ _ _=>false) (fun _ _ _ _=>false) (fun _ _ _ _ _=>false) (fun _ _ _ _=>false) (fun _ _=>false) (fun _ _=>false) (fun _ _=>false) (fun _ _ _ _=>false) (fun _ _ _ _=>false) (fun _ _ _ _=>false) (fun _ _=>false) (fun _ _ _=>false) (fun _ _ _=>false) (fun _ _ _=>false) (fun _ _=>false) (fun _ _=>false) (fun _ _=>false) (fun _ _ _=>false) (fun _ _ _ _=>false)
theorem onBoolOp_k {P:PySem.Expr→Prop} {e:PySem.Expr} {f:BoolOp→(List Expr)→Pos→Bool} (h:onBoolOp e f=true) (k:∀ a0 a1 a2,f a0 a1 a2=true→P (.BoolOp a0 a1 a2)):P e :=
 @PySem.Expr.casesOn (fun e=>onBoolOp e f=true→P e) e k (fun _ _ _=>ff) (fun _ _ _ _=>ff) (fun _ _ _=>ff) (fun _ _ _ _=>ff) (fun _ _ _ _=>ff) (fun _ _ _=>ff) (fun _ _ _=>ff) (fun _ _ _ _=>ff) (fun _ _ _ _=>ff) (fun _ _ _ _ _=>ff) (fun _ _ _ _=>ff) (fun _ _=>ff) (fun _ _=>ff) (fun _ _=>ff) (fun _ _ _ _=>ff) (fun _ _ _ _=>ff) (fun _ _ _ _=>ff) (fun _ _=>ff) (fun _ _ _=>ff) (fun _ _ _=>ff) (fun _ _ _=>ff) (fun _ _=>ff) (fun _ _=>ff) (fun _ _=>ff) (fun _ _ _=>ff) (fun _ _ _ _=>ff) h
noncomputable def onIfExp (e:PySem.Expr) (f:Expr→Expr→Expr→Pos→Bool):Bool:=@PySem.Expr.casesOn (fun _=>Bool) e (fun _ _ _=>false) (fun _ _ _=>false) (fun _ _ _ _=>false) (fun _ _ _=>false) (fun _ _ _ _=>false) f (fun _ _ _=>false) (fun _ _ _=>false) (fun _ _ _ _=>false) (fun _ _ _ _=>false) (fun _ _ _ _ _=>false) (fun _ _ _ _=>false) (fun _ _=>false) (fun _ _=>false) (fun _ _=>false) (fun _ _ _ _=>false) (fun _ _ _ _=>false) (fun _ _ _ _=>false) (fun _ _=>false) (fun _ _ _=>false) (fun _ _ _=>false) (fun _ _ _=>false) (fun _ _=>false) (fun _ _=>false) (fun _ _=>false) (fun _ _ _=>false) (fun _ _ _ _=>false)
theorem onIfExp_k {P:PySem.Expr→Prop} {e:PySem.Expr} {f:Expr→Expr→Expr→Pos→Bool} (h:onIfExp e f=true) (k:∀ a0 a1 a2 a3,f a0 a1 a2 a3=true→P (.IfExp a0 a1 a2 a3)):P e :=
 @PySem.Expr.casesOn (fun e=>onIfExp e f=true→P e) e (fun _ _ _=>ff) (fun _ _ _=>ff) (fun _ _ _ _=>ff) (fun _ _ _=>ff) (fun _ _ _ _=>ff) k (fun _ _ _=>ff) (fun _ _ _=>ff) (fun _ _ _ _=>ff) (fun _ _ _ _=>ff) (fun _ _ _ _ _=>ff) (fun _ _ _ _=>ff) (fun _ _=>ff) (fun _ _=>ff) (fun _ _=>ff) (fun _ _ _ _=>ff) (fun _ _ _ _=>ff) (fun _ _ _ _=>ff) (fun _ _=>ff) (fun _ _ _=>ff) (fun _ _ _=>ff) (fun _ _ _=>ff) (fun _ _=>ff) (fun _ _=>ff) (fun _ _=>ff) (fun _ _ _=>ff) (fun _ _ _ _=>ff) h
noncomputable def onSubscript (e:PySem.Expr) (f:Expr→Expr→Pos→Bool):Bool:=@PySem.Expr.casesOn (fun _=>Bool) e (fun _ _ _=>false) (fun _ _ _=>false) (fun _ _ _ _=>false) (fun _ _ _=>false) (fun _ _ _ _=>false) (fun _ _ _ _=>false) (fun _ _ _=>false) (fun _ _ _=>false) (fun _ _ _ _=>false) (fun _ _ _ _=>false) (fun _ _ _ _ _=>false) (fun _ _ _ _=>false) (fun _ _=>false) (fun _ _=>false) (fun _ _=>false) (fun _ _ _ _=>false) (fun _ _ _ _=>false) (fun _ _ _ _=>false) (fun _ _=>false) (fun _ _ _=>false) (fun _ _ _=>false) f (fun _ _=>false) (fun _ _=>false) (fun _ _=>false) (fun _ _ _=>false) (fun _ _ _ _=>false)
theorem onSubscript_k {P:PySem.Expr→Prop} {e:PySem.Expr} {f:Expr→Expr→Pos→Bool} (h:onSubscript e f=true) (k:∀ a0 a1 a2,f a0 a1 a2=true→P (.Subscript a0 a1 a2)):P e :=
 @PySem.Expr.casesOn (fun e=>onSubscript e f=true→P e) e (fun _ _ _=>ff) (fun _ _ _=>ff) (fun _ _ _ _=>ff) (fun _ _ _=>ff) (fun _ _ _ _=>ff) (fun _ _ _ _=>ff) (fun _ _ _=>ff) (fun _ _ _=>ff) (fun _ _ _ _=>ff) (fun _ _ _ _=>ff) (fun _ _ _ _ _=>ff) (fun _ _ _ _=>ff) (fun _ _=>ff) (fun _ _=>ff) (fun _ _=>ff) (fun _ _ _ _=>ff) (fun _ _ _ _=>ff) (fun _ _ _ _=>ff) (fun _ _=>ff) (fun _ _ _=>ff) (fun _ _ _=>ff) k (fun _ _=>ff) (fun _ _=>ff) (fun _ _=>ff) (fun _ _ _=>ff) (fun _ _ _ _=>ff) h
noncomputable def onSlice (e:PySem.Expr) (f:(Option Expr)→(Option Expr)→(Option Expr)→Pos→Bool):Bool:=@PySem.Expr.casesOn (fun _=>Bool) e (fun _ _ _=>false) (fun _ _ _=>false) (fun _ _ _ _=>false) (fun _ _ _=>false) (fun _ _ _ _=>false) (fun _ _ _ _=>false) (fun _ _ _=>false) (fun _ _ _=>false) (fun _ _ _ _=>false) (fun _ _ _ _=>false) (fun _ _ _ _ _=>false) (fun _ _ _ _=>false) (fun _ _=>false) (fun _ _=>false) (fun _ _=>false) (fun _ _ _ _=>false) (fun _ _ _ _=>false) (fun _ _ _ _=>false) (fun _ _=>false) (fun _ _ _=>false) (fun _ _ _=>false) (fun _ _ _=>false) (fun _ _=>false) (fun _ _=>false) (fun _ _=>false) (fun _ _ _=>false) f
theorem onSlice_k {P:PySem.Expr→Prop} {e:PySem.Expr} {f:(Option Expr)→(Option Expr)→(Option Expr)→Pos→Bool} (h:onSlice e f=true) (k:∀ a0 a1 a2 a3,f a0 a1 a2 a3=true→P (.Slice a0 a1 a2 a3)):P e :=
 @PySem.Expr.casesOn (fun e=>onSlice e f=true→P e) e (fun _ _ _=>ff) (fun _ _ _=>ff) (fun _ _ _ _=>ff) (fun _ _ _=>ff) (fun _ _ _ _=>ff) (fun _ _ _ _=>ff) (fun _ _ _=>ff) (fun _ _ _=>ff) (fun _ _ _ _=>ff) (fun _ _ _ _=>ff) (fun _ _ _ _ _=>ff) (fun _ _ _ _=>ff) (fun _ _=>ff) (fun _ _=>ff) (fun _ _=>ff) (fun _ _ _ _=>ff) (fun _ _ _ _=>ff) (fun _ _ _ _=>ff) (fun _ _=>ff) (fun _ _ _=>ff) (fun _ _ _=>ff) (fun _ _ _=>ff) (fun _ _=>ff) (fun _ _=>ff) (fun _ _=>ff) (fun _ _ _=>ff) k h
noncomputable def onCall (e:PySem.Expr) (f:Expr→(List Expr)→(List Keyword)→Pos→Bool):Bool:=@PySem.Expr.casesOn (fun _=>Bool) e (fun _ _ _=>false) (fun _ _ _=>false) (fun _ _ _ _=>false) (fun _ _ _=>false) (fun _ _ _ _=>false) (fun _ _ _ _=>false) (fun _ _ _=>false) (fun _ _ _=>false) (fun _ _ _ _=>false) (fun _ _ _ _=>false) (fun _ _ _ _ _=>false) (fun _ _ _ _=>false) (fun _ _=>false) (fun _ _=>false) (fun _ _=>false) (fun _ _ _ _=>false) f (fun _ _ _ _=>false) (fun _ _=>false) (fun _ _ _=>false) (fun _ _ _=>false) (fun _ _ _=>false) (fun _ _=>false) (fun _ _=>false) (fun _ _=>false) (fun _ _ _=>false) (fun _ _ _ _=>false)
theorem onCall_k {P:PySem.Expr→Prop} {e:PySem.Expr} {f:Expr→(List Expr)→(List Keyword)→Pos→Bool} (h:onCall e f=true) (k:∀ a0 a1 a2 a3,f a0 a1 a2 a3=true→P (.Call a0 a1 a2 a3)):P e :=
 @PySem.Expr.casesOn (fun e=>onCall e f=true→P e) e (fun _ _ _=>ff) (fun _ _ _=>ff) (fun _ _ _ _=>ff) (fun _ _ _=>ff) (fun _ _ _ _=>ff) (fun _ _ _ _=>ff) (fun _ _ _=>ff) (fun _ _ _=>ff) (fun _ _ _ _=>ff) (fun _ _ _ _=>ff) (fun _ _ _ _ _=>ff) (fun _ _ _ _=>ff) (fun _ _=>ff) (fun _ _=>ff) (fun _ _=>ff) (fun _ _ _ _=>ff) k (fun _ _ _ _=>ff) (fun _ _=>ff) (fun _ _ _=>ff) (fun _ _ _=>ff) (fun _ _ _=>ff) (fun _ _=>ff) (fun _ _=>ff) (fun _ _=>ff) (fun _ _ _=>ff) (fun _ _ _ _=>ff) h
noncomputable def onAttribute (e:PySem.Expr) (f:Expr→Str→Pos→Bool):Bool:=@PySem.Expr.casesOn (fun _=>Bool) e (fun _ _ _=>false) (fun _ _ _=>false) (fun _ _ _ _=>false) (fun _ _ _=>false) (fun _ _ _ _=>false) (fun _ _ _ _=>false) (fun _ _ _=>false) (fun _ _ _=>false) (fun _ _ _ _=>false) (fun _ _ _ _=>false) (fun _ _ _ _ _=>false) (fun _ _ _ _=>false) (fun _ _=>false) (fun _ _=>false) (fun _ _=>false) (fun _ _ _ _=>false) (fun _ _ _ _=>false) (fun _ _ _ _=>false) (fun _ _=>false) (fun _ _ _=>false) f (fun _ _ _=>false) (fun _ _=>false) (fun _ _=>false) (fun _ _=>false) (fun _ _ _=>false) (fun _ _ _ _=>false)
theorem onAttribute_k {P:PySem.Expr→Prop} {e:PySem.Expr} {f:Expr→Str→Pos→Bool} (h:onAttribute e f=true) (k:∀ a0 a1 a2,f a0 a1 a2=true→P (.Attribute a0 a1 a2)):P e :=
 @PySem.Expr.casesOn (fun e=>onAttribute e f=true→P e) e (fun _ _ _=>ff) (fun _ _ _=>ff) (fun _ _ _ _=>ff) (fun _ _ _=>ff) (fun _ _ _ _=>ff) (fun _ _ _ _=>ff) (fun _ _ _=>ff) (fun _ _ _=>ff) (fun _ _ _ _=>ff) (fun _ _ _ _=>ff) (fun _ _ _ _ _=>ff) (fun _ _ _ _=>ff) (fun _ _=>ff) (fun _ _=>ff) (fun _ _=>ff) (fun _ _ _ _=>ff) (fun _ _ _ _=>ff) (fun _ _ _ _=>ff) (fun _ _=>ff) (fun _ _ _=>ff) k (fun _ _ _=>ff) (fun _ _=>ff) (fun _ _=>ff) (fun _ _=>ff) (fun _ _ _=>ff) (fun _ _ _ _=>ff) h
noncomputable def onListComp (e:PySem.Expr) (f:Expr→(List Comprehension)→Scope→Pos→Bool):Bool:=@PySem.Expr.casesOn (fun _=>Bool) e (fun _ _ _=>false) (fun _ _ _=>false) (fun _ _ _ _=>false) (fun _ _ _=>false) (fun _ _ _ _=>false) (fun _ _ _ _=>false) (fun _ _ _=>false) (fun _ _ _=>false) f (fun _ _ _ _=>false) (fun _ _ _ _ _=>false) (fun _ _ _ _=>false) (fun _ _=>false) (fun _ _=>false) (fun _ _=>false) (fun _ _ _ _=>false) (fun _ _ _ _=>false) (fun _ _ _ _=>false) (fun _ _=>false) (fun _ _ _=>false) (fun _ _ _=>false) (fun _ _ _=>false) (fun _ _=>false) (fun _ _=>false) (fun _ _=>false) (fun _ _ _=>false) (fun _ _ _ _=>false)
theorem onListComp_k {P:PySem.Expr→Prop} {e:PySem.Expr} {f:Expr→(List Comprehension)→Scope→Pos→Bool} (h:onListComp e f=true) (k:∀ a0 a1 a2 a3,f a0 a1 a2 a3=true→P (.ListComp a0 a1 a2 a3)):P e :=
 @PySem.Expr.casesOn (fun e=>onListComp e f=true→P e) e (fun _ _ _=>ff) (fun _ _ _=>ff) (fun _ _ _ _=>ff) (fun _ _ _=>ff) (fun _ _ _ _=>ff) (fun _ _ _ _=>ff) (fun _ _ _=>ff) (fun _ _ _=>ff) k (fun _ _ _ _=>ff) (fun _ _ _ _ _=>ff) (fun _ _ _ _=>ff) (fun _ _=>ff) (fun _ _=>ff) (fun _ _=>ff) (fun _ _ _ _=>ff) (fun _ _ _ _=>ff) (fun _ _ _ _=>ff) (fun _ _=>ff) (fun _ _ _=>ff) (fun _ _ _=>ff) (fun _ _ _=>ff) (fun _ _=>ff) (fun _ _=>ff) (fun _ _=>ff) (fun _ _ _=>ff) (fun _ _ _ _=>ff) h
noncomputable def onint (e:PySem.Const) (f:Int→Bool):Bool:=@PySem.Const.casesOn (fun _=>Bool) e false (fun _=>false) f (fun _=>false) (fun _ _=>false) (fun _=>false) (fun _=>false) false
theorem onint_k {P:PySem.Const→Prop} {e:PySem.Const} {f:Int→Bool} (h:onint e f=true) (k:∀ a0,f a0=true→P (.int a0)):P e :=
 @PySem.Const.casesOn (fun e=>onint e f=true→P e) e ff (fun _=>ff) k (fun _=>ff) (fun _ _=>ff) (fun _=>ff) (fun _=>ff) ff h
noncomputable def onstr (e:PySem.Const) (f:Str→Bool):Bool:=@PySem.Const.casesOn (fun _=>Bool) e false (fun _=>false) (fun _=>false) (fun _=>false) (fun _ _=>false) f (fun _=>false) false
theorem onstr_k {P:PySem.Const→Prop} {e:PySem.Const} {f:Str→Bool} (h:onstr e f=true) (k:∀ a0,f a0=true→P (.str a0)):P e :=
 @PySem.Const.casesOn (fun e=>onstr e f=true→P e) e ff (fun _=>ff) (fun _=>ff) (fun _=>ff) (fun _ _=>ff) k (fun _=>ff) ff h
noncomputable def onfloat (e:PySem.Const) (f:UInt64→Bool):Bool:=@PySem.Const.casesOn (fun _=>Bool) e false (fun _=>false) (fun _=>false) f (fun _ _=>false) (fun _=>false) (fun _=>false) false
theorem onfloat_k {P:PySem.Const→Prop} {e:PySem.Const} {f:UInt64→Bool} (h:onfloat e f=true) (k:∀ a0,f a0=true→P (.float a0)):P e :=
 @PySem.Const.casesOn (fun e=>onfloat e f=true→P e) e ff (fun _=>ff) (fun _=>ff) k (fun _ _=>ff) (fun _=>ff) (fun _=>ff) ff h
noncomputable def onbytes (e:PySem.Const) (f:(List UInt8)→Bool):Bool:=@PySem.Const.casesOn (fun _=>Bool) e false (fun _=>false) (fun _=>false) (fun _=>false) (fun _ _=>false) (fun _=>false) f false
theorem onbytes_k {P:PySem.Const→Prop} {e:PySem.Const} {f:(List UInt8)→Bool} (h:onbytes e f=true) (k:∀ a0,f a0=true→P (.bytes a0)):P e :=
 @PySem.Const.casesOn (fun e=>onbytes e f=true→P e) e ff (fun _=>ff) (fun _=>ff) (fun _=>ff) (fun _ _=>ff) (fun _=>ff) k ff h
noncomputable def onUSub (e:PySem.UnaryOp) (b:Bool):Bool:=@PySem.UnaryOp.casesOn (fun _=>Bool) e false false false b
theorem onUSub_k {P:PySem.UnaryOp→Prop} {e:PySem.UnaryOp} {b:Bool} (h:onUSub e b=true) (k:b=true→P .USub):P e :=
 @PySem.UnaryOp.casesOn (fun e=>onUSub e b=true→P e) e ff ff ff k h
noncomputable def onNot (e:PySem.UnaryOp) (b:Bool):Bool:=@PySem.UnaryOp.casesOn (fun _=>Bool) e false b false false
theorem onNot_k {P:PySem.UnaryOp→Prop} {e:PySem.UnaryOp} {b:Bool} (h:onNot e b=true) (k:b=true→P .Not):P e :=
 @PySem.UnaryOp.casesOn (fun e=>onNot e b=true→P e) e ff k ff ff h
noncomputable def onAnd (e:PySem.BoolOp) (b:Bool):Bool:=@PySem.BoolOp.casesOn (fun _=>Bool) e b false
theorem onAnd_k {P:PySem.BoolOp→Prop} {e:PySem.BoolOp} {b:Bool} (h:onAnd e b=true) (k:b=true→P .And):P e :=
 @PySem.BoolOp.casesOn (fun e=>onAnd e b=true→P e) e k ff h
noncomputable def onOr (e:PySem.BoolOp) (b:Bool):Bool:=@PySem.BoolOp.casesOn (fun _=>Bool) e false b
theorem onOr_k {P:PySem.BoolOp→Prop} {e:PySem.BoolOp} {b:Bool} (h:onOr e b=true) (k:b=true→P .Or):P e :=
 @PySem.BoolOp.casesOn (fun e=>onOr e b=true→P e) e ff k h
noncomputable def onIs (e:PySem.CmpOp) (b:Bool):Bool:=@PySem.CmpOp.casesOn (fun _=>Bool) e false false false false false false b false false false
theorem onIs_k {P:PySem.CmpOp→Prop} {e:PySem.CmpOp} {b:Bool} (h:onIs e b=true) (k:b=true→P .Is):P e :=
 @PySem.CmpOp.casesOn (fun e=>onIs e b=true→P e) e ff ff ff ff ff ff k ff ff ff h
noncomputable def onAssign (e:PySem.Stmt) (f:(List Expr)→Expr→Pos→Bool):Bool:=@PySem.Stmt.casesOn (fun _=>Bool) e (fun _ _ _ _ _ _ _ _ _ _=>false) (fun _ _ _ _ _ _ _ _ _ _=>false) (fun _ _ _ _ _ _ _ _ _ _ _=>false) (fun _ _=>false) (fun _ _=>false) f (fun _ _ _ _ _ _ _=>false) (fun _ _ _ _=>false) (fun _ _ _ _ _=>false) (fun _ _ _ _ _=>false) (fun _ _ _ _ _=>false) (fun _ _ _ _=>false) (fun _ _ _ _=>false) (fun _ _ _=>false) (fun _ _ _=>false) (fun _ _ _=>false) (fun _ _ _=>false) (fun _ _ _ _ _=>false) (fun _ _ _ _ _=>false) (fun _ _ _=>false) (fun _ _=>false) (fun _ _ _ _=>false) (fun _ _=>false) (fun _ _=>false) (fun _ _=>false) (fun _=>false) (fun _=>false) (fun _=>false)
theorem onAssign_k {P:PySem.Stmt→Prop} {e:PySem.Stmt} {f:(List Expr)→Expr→Pos→Bool} (h:onAssign e f=true) (k:∀ a0 a1 a2,f a0 a1 a2=true→P (.Assign a0 a1 a2)):P e :=
 @PySem.Stmt.casesOn (fun e=>onAssign e f=true→P e) e (fun _ _ _ _ _ _ _ _ _ _=>ff) (fun _ _ _ _ _ _ _ _ _ _=>ff) (fun _ _ _ _ _ _ _ _ _ _ _=>ff) (fun _ _=>ff) (fun _ _=>ff) k (fun _ _ _ _ _ _ _=>ff) (fun _ _ _ _=>ff) (fun _ _ _ _ _=>ff) (fun _ _ _ _ _=>ff) (fun _ _ _ _ _=>ff) (fun _ _ _ _=>ff) (fun _ _ _ _=>ff) (fun _ _ _=>ff) (fun _ _ _=>ff) (fun _ _ _=>ff) (fun _ _ _=>ff) (fun _ _ _ _ _=>ff) (fun _ _ _ _ _=>ff) (fun _ _ _=>ff) (fun _ _=>ff) (fun _ _ _ _=>ff) (fun _ _=>ff) (fun _ _=>ff) (fun _ _=>ff) (fun _=>ff) (fun _=>ff) (fun _=>ff) h
noncomputable def onAugAssign (e:PySem.Stmt) (f:Expr→Operator→Expr→Pos→Bool):Bool:=@PySem.Stmt.casesOn (fun _=>Bool) e (fun _ _ _ _ _ _ _ _ _ _=>false) (fun _ _ _ _ _ _ _ _ _ _=>false) (fun _ _ _ _ _ _ _ _ _ _ _=>false) (fun _ _=>false) (fun _ _=>false) (fun _ _ _=>false) (fun _ _ _ _ _ _ _=>false) f (fun _ _ _ _ _=>false) (fun _ _ _ _ _=>false) (fun _ _ _ _ _=>false) (fun _ _ _ _=>false) (fun _ _ _ _=>false) (fun _ _ _=>false) (fun _ _ _=>false) (fun _ _ _=>false) (fun _ _ _=>false) (fun _ _ _ _ _=>false) (fun _ _ _ _ _=>false) (fun _ _ _=>false) (fun _ _=>false) (fun _ _ _ _=>false) (fun _ _=>false) (fun _ _=>false) (fun _ _=>false) (fun _=>false) (fun _=>false) (fun _=>false)
theorem onAugAssign_k {P:PySem.Stmt→Prop} {e:PySem.Stmt} {f:Expr→Operator→Expr→Pos→Bool} (h:onAugAssign e f=true) (k:∀ a0 a1 a2 a3,f a0 a1 a2 a3=true→P (.AugAssign a0 a1 a2 a3)):P e :=
 @PySem.Stmt.casesOn (fun e=>onAugAssign e f=true→P e) e (fun _ _ _ _ _ _ _ _ _ _=>ff) (fun _ _ _ _ _ _ _ _ _ _=>ff) (fun _ _ _ _ _ _ _ _ _ _ _=>ff) (fun _ _=>ff) (fun _ _=>ff) (fun _ _ _=>ff) (fun _ _ _ _ _ _ _=>ff) k (fun _ _ _ _ _=>ff) (fun _ _ _ _ _=>ff) (fun _ _ _ _ _=>ff) (fun _ _ _ _=>ff) (fun _ _ _ _=>ff) (fun _ _ _=>ff) (fun _ _ _=>ff) (fun _ _ _=>ff) (fun _ _ _=>ff) (fun _ _ _ _ _=>ff) (fun _ _ _ _ _=>ff) (fun _ _ _=>ff) (fun _ _=>ff) (fun _ _ _ _=>ff) (fun _ _=>ff) (fun _ _=>ff) (fun _ _=>ff) (fun _=>ff) (fun _=>ff) (fun _=>ff) h
noncomputable def onExpr (e:PySem.Stmt) (f:Expr→Pos→Bool):Bool:=@PySem.Stmt.casesOn (fun _=>Bool) e (fun _ _ _ _ _ _ _ _ _ _=>false) (fun _ _ _ _ _ _ _ _ _ _=>false) (fun _ _ _ _ _ _ _ _ _ _ _=>false) (fun _ _=>false) (fun _ _=>false) (fun _ _ _=>false) (fun _ _ _ _ _ _ _=>false) (fun _ _ _ _=>false) (fun _ _ _ _ _=>false) (fun _ _ _ _ _=>false) (fun _ _ _ _ _=>false) (fun _ _ _ _=>false) (fun _ _ _ _=>false) (fun _ _ _=>false) (fun _ _ _=>false) (fun _ _ _=>false) (fun _ _ _=>false) (fun _ _ _ _ _=>false) (fun _ _ _ _ _=>false) (fun _ _ _=>false) (fun _ _=>false) (fun _ _ _ _=>false) (fun _ _=>false) (fun _ _=>false) f (fun _=>false) (fun _=>false) (fun _=>false)
theorem onExpr_k {P:PySem.Stmt→Prop} {e:PySem.Stmt} {f:Expr→Pos→Bool} (h:onExpr e f=true) (k:∀ a0 a1,f a0 a1=true→P (.Expr a0 a1)):P e :=
 @PySem.Stmt.casesOn (fun e=>onExpr e f=true→P e) e (fun _ _ _ _ _ _ _ _ _ _=>ff) (fun _ _ _ _ _ _ _ _ _ _=>ff) (fun _ _ _ _ _ _ _ _ _ _ _=>ff) (fun _ _=>ff) (fun _ _=>ff) (fun _ _ _=>ff) (fun _ _ _ _ _ _ _=>ff) (fun _ _ _ _=>ff) (fun _ _ _ _ _=>ff) (fun _ _ _ _ _=>ff) (fun _ _ _ _ _=>ff) (fun _ _ _ _=>ff) (fun _ _ _ _=>ff) (fun _ _ _=>ff) (fun _ _ _=>ff) (fun _ _ _=>ff) (fun _ _ _=>ff) (fun _ _ _ _ _=>ff) (fun _ _ _ _ _=>ff) (fun _ _ _=>ff) (fun _ _=>ff) (fun _ _ _ _=>ff) (fun _ _=>ff) (fun _ _=>ff) k (fun _=>ff) (fun _=>ff) (fun _=>ff) h
noncomputable def onReturn (e:PySem.Stmt) (f:(Option Expr)→Pos→Bool):Bool:=@PySem.Stmt.casesOn (fun _=>Bool) e (fun _ _ _ _ _ _ _ _ _ _=>false) (fun _ _ _ _ _ _ _ _ _ _=>false) (fun _ _ _ _ _ _ _ _ _ _ _=>false) f (fun _ _=>false) (fun _ _ _=>false) (fun _ _ _ _ _ _ _=>false) (fun _ _ _ _=>false) (fun _ _ _ _ _=>false) (fun _ _ _ _ _=>false) (fun _ _ _ _ _=>false) (fun _ _ _ _=>false) (fun _ _ _ _=>false) (fun _ _ _=>false) (fun _ _ _=>false) (fun _ _ _=>false) (fun _ _ _=>false) (fun _ _ _ _ _=>false) (fun _ _ _ _ _=>false) (fun _ _ _=>false) (fun _ _=>false) (fun _ _ _ _=>false) (fun _ _=>false) (fun _ _=>false) (fun _ _=>false) (fun _=>false) (fun _=>false) (fun _=>false)
theorem onReturn_k {P:PySem.Stmt→Prop} {e:PySem.Stmt} {f:(Option Expr)→Pos→Bool} (h:onReturn e f=true) (k:∀ a0 a1,f a0 a1=true→P (.Return a0 a1)):P e :=
 @PySem.Stmt.casesOn (fun e=>onReturn e f=true→P e) e (fun _ _ _ _ _ _ _ _ _ _=>ff) (fun _ _ _ _ _ _ _ _ _ _=>ff) (fun _ _ _ _ _ _ _ _ _ _ _=>ff) k (fun _ _=>ff) (fun _ _ _=>ff) (fun _ _ _ _ _ _ _=>ff) (fun _ _ _ _=>ff) (fun _ _ _ _ _=>ff) (fun _ _ _ _ _=>ff) (fun _ _ _ _ _=>ff) (fun _ _ _ _=>ff) (fun _ _ _ _=>ff) (fun _ _ _=>ff) (fun _ _ _=>ff) (fun _ _ _=>ff) (fun _ _ _=>ff) (fun _ _ _ _ _=>ff) (fun _ _ _ _ _=>ff) (fun _ _ _=>ff) (fun _ _=>ff) (fun _ _ _ _=>ff) (fun _ _=>ff) (fun _ _=>ff) (fun _ _=>ff) (fun _=>ff) (fun _=>ff) (fun _=>ff) h
noncomputable def onIf (e:PySem.Stmt) (f:Expr→(List Stmt)→(List Stmt)→Pos→Bool):Bool:=@PySem.Stmt.casesOn (fun _=>Bool) e (fun _ _ _ _ _ _ _ _ _ _=>false) (fun _ _ _ _ _ _ _ _ _ _=>false) (fun _ _ _ _ _ _ _ _ _ _ _=>false) (fun _ _=>false) (fun _ _=>false) (fun _ _ _=>false) (fun _ _ _ _ _ _ _=>false) (fun _ _ _ _=>false) (fun _ _ _ _ _=>false) (fun _ _ _ _ _=>false) (fun _ _ _ _ _=>false) (fun _ _ _ _=>false) f (fun _ _ _=>false) (fun _ _ _=>false) (fun _ _ _=>false) (fun _ _ _=>false) (fun _ _ _ _ _=>false) (fun _ _ _ _ _=>false) (fun _ _ _=>false) (fun _ _=>false) (fun _ _ _ _=>false) (fun _ _=>false) (fun _ _=>false) (fun _ _=>false) (fun _=>false) (fun _=>false) (fun _=>false)
theorem onIf_k {P:PySem.Stmt→Prop} {e:PySem.Stmt} {f:Expr→(List Stmt)→(List Stmt)→Pos→Bool} (h:onIf e f=true) (k:∀ a0 a1 a2 a3,f a0 a1 a2 a3=true→P (.If a0 a1 a2 a3)):P e :=
 @PySem.Stmt.casesOn (fun e=>onIf e f=true→P e) e (fun _ _ _ _ _ _ _ _ _ _=>ff) (fun _ _ _ _ _ _ _ _ _ _=>ff) (fun _ _ _ _ _ _ _ _ _ _ _=>ff) (fun _ _=>ff) (fun _ _=>ff) (fun _ _ _=>ff) (fun _ _ _ _ _ _ _=>ff) (fun _ _ _ _=>ff) (fun _ _ _ _ _=>ff) (fun _ _ _ _ _=>ff) (fun _ _ _ _ _=>ff) (fun _ _ _ _=>ff) k (fun _ _ _=>ff) (fun _ _ _=>ff) (fun _ _ _=>ff) (fun _ _ _=>ff) (fun _ _ _ _ _=>ff) (fun _ _ _ _ _=>ff) (fun _ _ _=>ff) (fun _ _=>ff) (fun _ _ _ _=>ff) (fun _ _=>ff) (fun _ _=>ff) (fun _ _=>ff) (fun _=>ff) (fun _=>ff) (fun _=>ff) h
noncomputable def onWhile (e:PySem.Stmt) (f:Expr→(List Stmt)→(List Stmt)→Pos→Bool):Bool:=@PySem.Stmt.casesOn (fun _=>Bool) e (fun _ _ _ _ _ _ _ _ _ _=>false) (fun _ _ _ _ _ _ _ _ _ _=>false) (fun _ _ _ _ _ _ _ _ _ _ _=>false) (fun _ _=>false) (fun _ _=>false) (fun _ _ _=>false) (fun _ _ _ _ _ _ _=>false) (fun _ _ _ _=>false) (fun _ _ _ _ _=>false) (fun _ _ _ _ _=>false) (fun _ _ _ _ _=>false) f (fun _ _ _ _=>false) (fun _ _ _=>false) (fun _ _ _=>false) (fun _ _ _=>false) (fun _ _ _=>false) (fun _ _ _ _ _=>false) (fun _ _ _ _ _=>false) (fun _ _ _=>false) (fun _ _=>false) (fun _ _ _ _=>false) (fun _ _=>false) (fun _ _=>false) (fun _ _=>false) (fun _=>false) (fun _=>false) (fun _=>false)
theorem onWhile_k {P:PySem.Stmt→Prop} {e:PySem.Stmt} {f:Expr→(List Stmt)→(List Stmt)→Pos→Bool} (h:onWhile e f=true) (k:∀ a0 a1 a2 a3,f a0 a1 a2 a3=true→P (.While a0 a1 a2 a3)):P e :=
 @PySem.Stmt.casesOn (fun e=>onWhile e f=true→P e) e (fun _ _ _ _ _ _ _ _ _ _=>ff) (fun _ _ _ _ _ _ _ _ _ _=>ff) (fun _ _ _ _ _ _ _ _ _ _ _=>ff) (fun _ _=>ff) (fun _ _=>ff) (fun _ _ _=>ff) (fun _ _ _ _ _ _ _=>ff) (fun _ _ _ _=>ff) (fun _ _ _ _ _=>ff) (fun _ _ _ _ _=>ff) (fun _ _ _ _ _=>ff) k (fun _ _ _ _=>ff) (fun _ _ _=>ff) (fun _ _ _=>ff) (fun _ _ _=>ff) (fun _ _ _=>ff) (fun _ _ _ _ _=>ff) (fun _ _ _ _ _=>ff) (fun _ _ _=>ff) (fun _ _=>ff) (fun _ _ _ _=>ff) (fun _ _=>ff) (fun _ _=>ff) (fun _ _=>ff) (fun _=>ff) (fun _=>ff) (fun _=>ff) h
noncomputable def onFor (e:PySem.Stmt) (f:Expr→Expr→(List Stmt)→(List Stmt)→Pos→Bool):Bool:=@PySem.Stmt.casesOn (fun _=>Bool) e (fun _ _ _ _ _ _ _ _ _ _=>false) (fun _ _ _ _ _ _ _ _ _ _=>false) (fun _ _ _ _ _ _ _ _ _ _ _=>false) (fun _ _=>false) (fun _ _=>false) (fun _ _ _=>false) (fun _ _ _ _ _ _ _=>false) (fun _ _ _ _=>false) (fun _ _ _ _ _=>false) f (fun _ _ _ _ _=>false) (fun _ _ _ _=>false) (fun _ _ _ _=>false) (fun _ _ _=>false) (fun _ _ _=>false) (fun _ _ _=>false) (fun _ _ _=>false) (fun _ _ _ _ _=>false) (fun _ _ _ _ _=>false) (fun _ _ _=>false) (fun _ _=>false) (fun _ _ _ _=>false) (fun _ _=>false) (fun _ _=>false) (fun _ _=>false) (fun _=>false) (fun _=>false) (fun _=>false)
theorem onFor_k {P:PySem.Stmt→Prop} {e:PySem.Stmt} {f:Expr→Expr→(List Stmt)→(List Stmt)→Pos→Bool} (h:onFor e f=true) (k:∀ a0 a1 a2 a3 a4,f a0 a1 a2 a3 a4=true→P (.For a0 a1 a2 a3 a4)):P e :=
 @PySem.Stmt.casesOn (fun e=>onFor e f=true→P e) e (fun _ _ _ _ _ _ _ _ _ _=>ff) (fun _ _ _ _ _ _ _ _ _ _=>ff) (fun _ _ _ _ _ _ _ _ _ _ _=>ff) (fun _ _=>ff) (fun _ _=>ff) (fun _ _ _=>ff) (fun _ _ _ _ _ _ _=>ff) (fun _ _ _ _=>ff) (fun _ _ _ _ _=>ff) k (fun _ _ _ _ _=>ff) (fun _ _ _ _=>ff) (fun _ _ _ _=>ff) (fun _ _ _=>ff) (fun _ _ _=>ff) (fun _ _ _=>ff) (fun _ _ _=>ff) (fun _ _ _ _ _=>ff) (fun _ _ _ _ _=>ff) (fun _ _ _=>ff) (fun _ _=>ff) (fun _ _ _ _=>ff) (fun _ _=>ff) (fun _ _=>ff) (fun _ _=>ff) (fun _=>ff) (fun _=>ff) (fun _=>ff) h
noncomputable def onRaise (e:PySem.Stmt) (f:(Option Expr)→(Option Expr)→Pos→Bool):Bool:=@PySem.Stmt.casesOn (fun _=>Bool) e (fun _ _ _ _ _ _ _ _ _ _=>false) (fun _ _ _ _ _ _ _ _ _ _=>false) (fun _ _ _ _ _ _ _ _ _ _ _=>false) (fun _ _=>false) (fun _ _=>false) (fun _ _ _=>false) (fun _ _ _ _ _ _ _=>false) (fun _ _ _ _=>false) (fun _ _ _ _ _=>false) (fun _ _ _ _ _=>false) (fun _ _ _ _ _=>false) (fun _ _ _ _=>false) (fun _ _ _ _=>false) (fun _ _ _=>false) (fun _ _ _=>false) (fun _ _ _=>false) f (fun _ _ _ _ _=>false) (fun _ _ _ _ _=>false) (fun _ _ _=>false) (fun _ _=>false) (fun _ _ _ _=>false) (fun _ _=>false) (fun _ _=>false) (fun _ _=>false) (fun _=>false) (fun _=>false) (fun _=>false)
theorem onRaise_k {P:PySem.Stmt→Prop} {e:PySem.Stmt} {f:(Option Expr)→(Option Expr)→Pos→Bool} (h:onRaise e f=true) (k:∀ a0 a1 a2,f a0 a1 a2=true→P (.Raise a0 a1 a2)):P e :=
 @PySem.Stmt.casesOn (fun e=>onRaise e f=true→P e) e (fun _ _ _ _ _ _ _ _ _ _=>ff) (fun _ _ _ _ _ _ _ _ _ _=>ff) (fun _ _ _ _ _ _ _ _ _ _ _=>ff) (fun _ _=>ff) (fun _ _=>ff) (fun _ _ _=>ff) (fun _ _ _ _ _ _ _=>ff) (fun _ _ _ _=>ff) (fun _ _ _ _ _=>ff) (fun _ _ _ _ _=>ff) (fun _ _ _ _ _=>ff) (fun _ _ _ _=>ff) (fun _ _ _ _=>ff) (fun _ _ _=>ff) (fun _ _ _=>ff) (fun _ _ _=>ff) k (fun _ _ _ _ _=>ff) (fun _ _ _ _ _=>ff) (fun _ _ _=>ff) (fun _ _=>ff) (fun _ _ _ _=>ff) (fun _ _=>ff) (fun _ _=>ff) (fun _ _=>ff) (fun _=>ff) (fun _=>ff) (fun _=>ff) h
noncomputable def onTry (e:PySem.Stmt) (f:(List Stmt)→(List ExceptHandler)→(List Stmt)→(List Stmt)→Pos→Bool):Bool:=@PySem.Stmt.casesOn (fun _=>Bool) e (fun _ _ _ _ _ _ _ _ _ _=>false) (fun _ _ _ _ _ _ _ _ _ _=>false) (fun _ _ _ _ _ _ _ _ _ _ _=>false) (fun _ _=>false) (fun _ _=>false) (fun _ _ _=>false) (fun _ _ _ _ _ _ _=>false) (fun _ _ _ _=>false) (fun _ _ _ _ _=>false) (fun _ _ _ _ _=>false) (fun _ _ _ _ _=>false) (fun _ _ _ _=>false) (fun _ _ _ _=>false) (fun _ _ _=>false) (fun _ _ _=>false) (fun _ _ _=>false) (fun _ _ _=>false) f (fun _ _ _ _ _=>false) (fun _ _ _=>false) (fun _ _=>false) (fun _ _ _ _=>false) (fun _ _=>false) (fun _ _=>false) (fun _ _=>false) (fun _=>false) (fun _=>false) (fun _=>false)
theorem onTry_k {P:PySem.Stmt→Prop} {e:PySem.Stmt} {f:(List Stmt)→(List ExceptHandler)→(List Stmt)→(List Stmt)→Pos→Bool} (h:onTry e f=true) (k:∀ a0 a1 a2 a3 a4,f a0 a1 a2 a3 a4=true→P (.Try a0 a1 a2 a3 a4)):P e :=
 @PySem.Stmt.casesOn (fun e=>onTry e f=true→P e) e (fun _ _ _ _ _ _ _ _ _ _=>ff) (fun _ _ _ _ _ _ _ _ _ _=>ff) (fun _ _ _ _ _ _ _ _ _ _ _=>ff) (fun _ _=>ff) (fun _ _=>ff) (fun _ _ _=>ff) (fun _ _ _ _ _ _ _=>ff) (fun _ _ _ _=>ff) (fun _ _ _ _ _=>ff) (fun _ _ _ _ _=>ff) (fun _ _ _ _ _=>ff) (fun _ _ _ _=>ff) (fun _ _ _ _=>ff) (fun _ _ _=>ff) (fun _ _ _=>ff) (fun _ _ _=>ff) (fun _ _ _=>ff) k (fun _ _ _ _ _=>ff) (fun _ _ _=>ff) (fun _ _=>ff) (fun _ _ _ _=>ff) (fun _ _=>ff) (fun _ _=>ff) (fun _ _=>ff) (fun _=>ff) (fun _=>ff) (fun _=>ff) h
noncomputable def onBreak (e:PySem.Stmt) (f:Pos→Bool):Bool:=@PySem.Stmt.casesOn (fun _=>Bool) e (fun _ _ _ _ _ _ _ _ _ _=>false) (fun _ _ _ _ _ _ _ _ _ _=>false) (fun _ _ _ _ _ _ _ _ _ _ _=>false) (fun _ _=>false) (fun _ _=>false) (fun _ _ _=>false) (fun _ _ _ _ _ _ _=>false) (fun _ _ _ _=>false) (fun _ _ _ _ _=>false) (fun _ _ _ _ _=>false) (fun _ _ _ _ _=>false) (fun _ _ _ _=>false) (fun _ _ _ _=>false) (fun _ _ _=>false) (fun _ _ _=>false) (fun _ _ _=>false) (fun _ _ _=>false) (fun _ _ _ _ _=>false) (fun _ _ _ _ _=>false) (fun _ _ _=>false) (fun _ _=>false) (fun _ _ _ _=>false) (fun _ _=>false) (fun _ _=>false) (fun _ _=>false) (fun _=>false) f (fun _=>false)
theorem onBreak_k {P:PySem.Stmt→Prop} {e:PySem.Stmt} {f:Pos→Bool} (h:onBreak e f=true) (k:∀ a0,f a0=true→P (.Break a0)):P e :=
 @PySem.Stmt.casesOn (fun e=>onBreak e f=true→P e) e (fun _ _ _ _ _ _ _ _ _ _=>ff) (fun _ _ _ _ _ _ _ _ _ _=>ff) (fun _ _ _ _ _ _ _ _ _ _ _=>ff) (fun _ _=>ff) (fun _ _=>ff) (fun _ _ _=>ff) (fun _ _ _ _ _ _ _=>ff) (fun _ _ _ _=>ff) (fun _ _ _ _ _=>ff) (fun _ _ _ _ _=>ff) (fun _ _ _ _ _=>ff) (fun _ _ _ _=>ff) (fun _ _ _ _=>ff) (fun _ _ _=>ff) (fun _ _ _=>ff) (fun _ _ _=>ff) (fun _ _ _=>ff) (fun _ _ _ _ _=>ff) (fun _ _ _ _ _=>ff) (fun _ _ _=>ff) (fun _ _=>ff) (fun _ _ _ _=>ff) (fun _ _=>ff) (fun _ _=>ff) (fun _ _=>ff) (fun _=>ff) k (fun _=>ff) h
noncomputable def onExceptHandler (e:PySem.ExceptHandler) (f:(Option Expr)→(Option Str)→(List Stmt)→Pos→Bool):Bool:=@PySem.ExceptHandler.casesOn (fun _=>Bool) e f
theorem onExceptHandler_k {P:PySem.ExceptHandler→Prop} {e:PySem.ExceptHandler} {f:(Option Expr)→(Option Str)→(List Stmt)→Pos→Bool} (h:onExceptHandler e f=true) (k:∀ a0 a1 a2 a3,f a0 a1 a2 a3=true→P (.ExceptHandler a0 a1 a2 a3)):P e :=
 @PySem.ExceptHandler.casesOn (fun e=>onExceptHandler e f=true→P e) e k h
noncomputable def onL0 {α:Type} (e:List α) (b:Bool):Bool:=@List.casesOn α (fun _=>Bool) e b fun _ _=>false
theorem onL0_k {α:Type} {P:List α→Prop} {e:List α} {b:Bool} (h:onL0 e b=true) (k:b=true→P []):P e :=
 @List.casesOn α (fun e=>onL0 e b=true→P e) e k (fun _ _=>ff) h
noncomputable def onL1 {α:Type} (e:List α) (f:α→Bool):Bool:=@List.casesOn α (fun _=>Bool) e false fun a r=>onL0 r (f a)
theorem onL1_k {α:Type} {P:List α→Prop} {e:List α} {f:α→Bool} (h:onL1 e f=true) (k:∀ a,f a=true→P [a]):P e :=
 @List.casesOn α (fun e=>onL1 e f=true→P e) e ff (fun a r h=>onL0_k (P:=fun r=>P (a::r)) h (k a)) h
noncomputable def onL2 {α:Type} (e:List α) (f:α→α→Bool):Bool:=@List.casesOn α (fun _=>Bool) e false fun a r=>onL1 r (f a)
theorem onL2_k {α:Type} {P:List α→Prop} {e:List α} {f:α→α→Bool} (h:onL2 e f=true) (k:∀ a b,f a b=true→P [a,b]):P e :=
 @List.casesOn α (fun e=>onL2 e f=true→P e) e ff (fun a r h=>onL1_k (P:=fun r=>P (a::r)) h (k a)) h
noncomputable def onNone {α:Type} (e:Option α) (b:Bool):Bool:=@Option.casesOn α (fun _=>Bool) e b fun _=>false
theorem onNone_k {α:Type} {P:Option α→Prop} {e:Option α} {b:Bool} (h:onNone e b=true) (k:b=true→P none):P e :=
 @Option.casesOn α (fun e=>onNone e b=true→P e) e k (fun _=>ff) h
noncomputable def onSome {α:Type} (e:Option α) (f:α→Bool):Bool:=@Option.casesOn α (fun _=>Bool) e false f
theorem onSome_k {α:Type} {P:Option α→Prop} {e:Option α} {f:α→Bool} (h:onSome e f=true) (k:∀ a,f a=true→P (some a)):P e :=
 @Option.casesOn α (fun e=>onSome e f=true→P e) e ff k h
noncomputable def onZero (e:Int) (b:Bool):Bool:=decide (e=0) && b
theorem onZero_k {P:Int→Prop} {e:Int} {b:Bool} (h:onZero e b=true) (k:b=true→P 0):P e:=of_decide_eq_true (aL h) ▸ k (aR h)
noncomputable def onGen (e:Comprehension) (f:PySem.Expr→PySem.Expr→List PySem.Expr→Int→Bool):Bool:=f e.target e.iter e.ifs e.is_async
theorem onGen_k {P:Comprehension→Prop} {e:Comprehension} {f:PySem.Expr→PySem.Expr→List PySem.Expr→Int→Bool} (h:onGen e f=true) (k:∀ a b c d,f a b c d=true→P ⟨a,b,c,d⟩):P e:=by cases e; exact k _ _ _ _ h
noncomputable def onLitB (e:CE) (f:List Int→Bool):Bool:=match e with | .lit v=>(match v with | .bytes l=>f l | _=>false) | _=>false
theorem onLitB_k {P:CE→Prop} {e:CE} {f:List Int→Bool} (h:onLitB e f=true) (k:∀ l,f l=true→P (.lit (.bytes l))):P e:=by
 cases e with
 | lit v=>cases v <;> first | exact k _ h | exact ff h
 | _=>exact ff h
noncomputable def litOk (c:Const):PV→Bool
 | .none=>decide (c=.none)
 | .bool b=>decide (c=.bool b)
 | .int i=>decide (c=.int i)
 | .str s=>onstr c fun a=>a.cps.toList == s
 | .bytes l=>onbytes c fun a=>(a.map fun c=>(c.toNat:Int)) == l
 | .flt _=>false
 | .tuple _=>false
 | .list _=>false
 | .dict0=>false
noncomputable def chkTs (N:Nm) (es:List Expr):List Ty→Bool
 | []=>onL0 es true
 | t::u=>match es with
  | []=>false
  | e::r=>onName e fun y _=>N.isWord y (tyName t) && chkTs N r u
mutual
noncomputable def chkE (N:Nm) (e:Expr):CE→Bool
 | .lit v=>(onConstant e fun c k p=>(litOk c v && shortLit v))
 | .neg n=>(onUnaryOp e fun z1 z2 q=>(onUSub z1 (onConstant z2 fun z3 k p=>(onint z3 fun i=>((i == (n:Int)))))))
 | .var i=>(onName e fun x p=>(N.isVar x i))
 | .glob i=>(onName e fun x p=>((N.gs[i]? == some x) && N.isGlob x))
 | .strFlt s x=>(onTuple e fun z4 k3 p3=>(onL2 z4 fun z5 z6=>(onConstant z5 fun z7 k p=>(onstr z7 fun a=>(onConstant z6 fun z8 k2 p2=>(onfloat z8 fun b=>((a.cps.toList == s) && (b == x))))))))
 | .tup l=>(onTuple e fun es k p=>(chkEs N es l))
 | .lst l=>(onList e fun es p=>(chkEs N es l))
 | .bin o a b=>(onBinOp e fun l op r p=>(bopOk op o && chkE N l a && chkE N r b))
 | .cmp o a b=>(onCompare e fun l z9 z10 p=>(onL1 z9 fun op=>(onL1 z10 fun r=>(copOk op o && chkE N l a && chkE N r b && (!behindInMarks op r)))))
 | .cmp2 o p a b c=>(onCompare e fun l z11 z12 ps=>(onL2 z11 fun op oq=>(onL2 z12 fun r q=>(copOk op o && copOk oq p && chkE N l a && chkE N r b && chkE N q c && (!behindInMarks oq q)))))
 | .and_ l=>(onBoolOp e fun z13 es p=>(onAnd z13 (chkEs N es l)))
 | .or_ l=>(onBoolOp e fun z14 es p=>(onOr z14 (chkEs N es l)))
 | .not_ a=>(onUnaryOp e fun z15 x p=>(onNot z15 (chkE N x a)))
 | .ite c x y=>(onIfExp e fun t b o p=>(chkE N t c && chkE N b x && chkE N o y))
 | .slc a l u=>(onSubscript e fun v z16 q=>(onSlice z16 fun lo hi z17 p=>(onNone z17 (chkE N v a && chkO N lo l && chkO N hi u))))
 | .idx a j=>(onSubscript e fun v i p=>(chkE N v a && chkE N i j && notSlice i))
 | .len a => (onCall e fun z18 z19 z20 p => (onName z18 fun x xp => (onL1 z19 fun e1 => (onL0 z20 (N.isWord x "len" && chkE N e1 a && notStar e1)))))
 | .isin a l => (onCall e fun z21 z22 z23 q => (onName z21 fun x xp => (onL2 z22 fun e1 z24 => (onTuple z24 fun ts k p => (onL0 z23 (N.isWord x "isinstance" && chkE N e1 a && chkTs N ts l && decide (l.length ≤ 1048576) && notStar e1))))))
 | .isin1 a t => (onCall e fun z25 z26 z27 q => (onName z25 fun x xp => (onL2 z26 fun e1 z28 => (onName z28 fun y p => (onL0 z27 (N.isWord x "isinstance" && chkE N e1 a && N.isWord y (tyName t) && notStar e1))))))
 | .mkBytes a => (onCall e fun z29 z30 z31 p => (onName z29 fun x xp => (onL1 z30 fun e1 => (onL0 z31 (N.isWord x "bytes" && chkE N e1 a && notStar e1)))))
 | .mkList a => (onCall e fun z32 z33 z34 p => (onName z32 fun x xp => (onL1 z33 fun e1 => (onL0 z34 (N.isWord x "list" && chkE N e1 a && notStar e1)))))
 | .all_ a => (onCall e fun z35 z36 z37 p => (onName z35 fun x xp => (onL1 z36 fun e1 => (onL0 z37 (N.isWord x "all" && chkE N e1 a && notStar e1)))))
 | .typeIs a t => (onCompare e fun z32 z33 z34 r => (onCall z32 fun z35 z36 z37 p => (onName z35 fun x xp => (onL1 z36 fun e1 => (onL0 z37 (onL1 z33 fun z38 => (onIs z38 (onL1 z34 fun z39 => (onName z39 fun y q => (N.isWord x "type" && chkE N e1 a && N.isWord y (tyName t) && notStar e1))))))))))
 | .call f args=>(onCall e fun z40 es z41 p=>(onName z40 fun x xp=>(onL0 z41 ((N.fs[f]? == some x) && N.isGlob x && chkEs N es args && (!es.isEmpty)))))
 | .join s a => (onLitB s fun l => (onCall e fun z42 z43 z44 q => (onAttribute z42 fun z45 m ap => (onConstant z45 fun z46 k p => (onbytes z46 fun b => (onL1 z43 fun e1 => (onL0 z44 ((m == Str.ofString "join") && litOk (.bytes b) (.bytes l) && chkE N e1 a && (ap.endLine == q.line) && notStar e1))))))))
 | .comp e1 src cond=>(onNone cond (onListComp e fun elt z47 sc q=>(onL1 z47 fun z48=>(onGen z48 fun z49 it z50 z51=>(onName z49 fun x p=>(onL0 z50 (onZero z51 (chkE N it src && compOk sc && N.isVarIn sc x && chkE ⟨sc.names,[x],N.fs,N.gs⟩ elt e1 && notSet it))))))))
noncomputable def chkO (N:Nm) (e:Option Expr):Option CE→Bool
 | none=>onNone e true
 | some c=>onSome e fun x=>chkE N x c
noncomputable def chkEs (N:Nm) (es:List Expr):List CE→Bool
 | []=>onL0 es true
 | c::t=>match es with
  | []=>false
  | e::r=>chkE N e c && notStar e && chkEs N r t
end
noncomputable def chkNs (N:Nm) (es:List Expr):List Nat→Bool
 | []=>onL0 es true
 | i::t=>match es with
  | []=>false
  | e::r=>onName e fun x _=>N.isVar x i && chkNs N r t
noncomputable def notComp (e:Expr):Bool:=@PySem.Expr.casesOn (fun _=>Bool) e (fun _ _ _=>true) (fun _ _ _=>true) (fun _ _ _ _=>true) (fun _ _ _=>true) (fun _ _ _ _=>true) (fun _ _ _ _=>true) (fun _ _ _=>true) (fun _ _ _=>true) (fun _ _ _ _=>false) (fun _ _ _ _=>false) (fun _ _ _ _ _=>false) (fun _ _ _ _=>true) (fun _ _=>true) (fun _ _=>true) (fun _ _=>true) (fun _ _ _ _=>true) (fun _ _ _ _=>true) (fun _ _ _ _=>true) (fun _ _=>true) (fun _ _ _=>true) (fun _ _ _=>true) (fun _ _ _=>true) (fun _ _=>true) (fun _ _=>true) (fun _ _=>true) (fun _ _ _=>true) (fun _ _ _ _=>true)
noncomputable def swP (loc:Str→Bool) (fn:Bool) (targets:List Expr) (value:Expr):Option (Option (List Str)) :=
 match (match targets,value with
  | [.Tuple ts _ _],.Tuple vs _ _ | [.List ts _],.Tuple vs _ _=>some (ts,vs)
  | _,_=>none) with
 | none=>some none
 | some (ts,vs) =>
  if !(ts.length == 2 || ts.length == 3) || vs.length != ts.length || !fn then some none
  else if vs.any (fun | .Starred ..=>true | _=>false) then some none
  else
   let line:=(ts.head?.map (·.pos.line)).getD 0
   let names:=ts.filterMap fun
    | .Name id pos=>if loc id && pos.line == line then some id else none
    | _=>none
   if names.length != ts.length || names.eraseDups.length != names.length then some none
   else if vs.all (foldedForSure 8) then some none
   else if vs.all (constantsAlone 8) then none
   else some (some names)
noncomputable def swOk (N:Nm) (rev:Bool) (targets:List Expr) (value:Expr) (is:List Nat):Bool :=
 match swP (fun x=>N.names.lookup x == some .local) true targets value with
 | some none=>!rev
 | some (some ns)=>rev && ns.map some == is.map (fun i=>N.vs[i]?)
 | none=>false
noncomputable def compLine (x:Str) (tp:Pos) (e:Expr):Bool:=onListComp e fun _ _ sc p=>tp.line == p.line && !(sc.names.any fun q=>q.1 == x && (q.2 == .local || q.2 == .cell))
mutual
noncomputable def chkS (N:Nm) (e:Stmt):CS→Bool
 | .assign i c=>(onAssign e fun z1 v p=>(onL1 z1 fun z2=>(onName z2 fun x tp=>(N.isVar x i && chkE N v c && (notComp v || compLine x tp v)))))
 | .own i l=>(onAssign e fun z3 z4 p=>(onL1 z3 fun z5=>(onName z5 fun x tp=>(onList z4 fun es lp=>(N.isVar x i && chkEs N es l)))))
 | .assignT rev is c=>(onAssign e fun z6 v p=>(onL1 z6 fun z7=>(onTuple z7 fun ts k tp=>(chkNs N ts is && chkE N v c && notComp v && swOk N rev [.Tuple ts k tp] v is))))
 | .aug i o c=>(onAugAssign e fun z8 op v p=>(onName z8 fun x tp=>(N.isVar x i && bopOk op o && chkE N v c)))
 | .app i c => (onExpr e fun z9 p => (onCall z9 fun z10 z11 z12 q => (onAttribute z10 fun z13 m ap => (onName z13 fun x xp => (onL1 z11 fun v => (onL0 z12 (N.isVar x i && (m == Str.ofString "append") && chkE N v c && (ap.endLine == q.line) && notStar v)))))))
 | .expr c=>(onExpr e fun v p=>(chkE N v c && notComp v))
 | .ret c=>(onReturn e fun z14 p=>(onSome z14 fun v=>(chkE N v c)))
 | .if_ c x y=>(onIf e fun t b o p=>(chkE N t c && chkSs N b x && chkSs N o y))
 | .while_ c x=>(onWhile e fun t b z15 p=>(onL0 z15 (chkE N t c && chkSs N b x)))
 | .forR i c y => (onFor e fun z16 z17 b z18 p => (onName z16 fun x xp => (onCall z17 fun z19 z20 z21 q => (onName z19 fun r rp => (onL1 z20 fun v => (onL0 z21 (onL0 z18 (N.isVar x i && N.isWord r "range" && chkE N v c && chkSs N b y && notStar v))))))))
 | .for_ i c y=>(onFor e fun z22 v b z23 p=>(onName z22 fun x xp=>(onL0 z23 (N.isVar x i && chkE N v c && chkSs N b y && notSet v))))
 | .tryE c j w => (onTry e fun z42 z43 z44 z45 p => (onL1 z42 fun z46 => (onExpr z46 fun v ap => (onL1 z43 fun z47 => (onExceptHandler z47 fun z48 z49 z50 hp => (onSome z48 fun z51 => (onName z51 fun n np => (onNone z49 (onL1 z50 fun z52 => (onAssign z52 fun z53 z54 bp => (onL1 z53 fun z55 => (onName z55 fun y yp => (onConstant z54 fun k kk kp => (onL0 z44 (onL0 z45 (chkE N v c && notComp v && N.isWord n "ValueError" && N.isVar y j && litOk k w && shortLit w))))))))))))))))
 | .raise_ => (onRaise e fun z42 z43 p => (onSome z42 fun z44 => (onCall z44 fun z45 z46 z47 q => (onName z45 fun x xp => (onL1 z46 fun z48 => (onConstant z48 fun z49 kk kp => (onstr z49 fun t => (onL0 z47 (onNone z43 (N.isWord x "ValueError"))))))))))
 | .brk=>onBreak e fun _=>true
 | .frz _=>false
noncomputable def chkSs (N:Nm) (ss:List Stmt):List CS→Bool
 | []=>onL0 ss true
 | c::t=>(match c with
  | .frz i=>decide (i<N.vs.length) && chkSs N ss t
  | c=>match ss with
   | []=>false
   | s::r=>chkS N s c && chkSs N r t)
end
end Mine
namespace Mine
open PySem
noncomputable def digR:Nat→Nat→List Int
 | 0,_=>[]
 | k+1,n=>if n=0 then [] else ((48+n % 10:Nat):Int)::digR k (n / 10)
noncomputable def decD (n:Nat):List Int:=if n=0 then [48] else (digR (n+1) n).reverse
noncomputable def nf_decimal:List PV→Res PV
 | [.int n]=>if 0≤n∧n<4294967296 then .ok (.bytes (decD n.toNat)) else .stuck
 | _=>.stuck
noncomputable def vf_need : List Str := [Str.ofString "condition"]
noncomputable def cf_need:List CS:=[.if_ (.not_ (.var 0)) [.raise_] []]
noncomputable def vf_is_digit : List Str := [Str.ofString "x"]
noncomputable def cf_is_digit:List CS:=[.ret (.cmp2 .le .le (.lit (.int 48)) (.var 0) (.lit (.int 57)))]
noncomputable def vf_is_letter : List Str := [Str.ofString "x"]
noncomputable def cf_is_letter:List CS:=[.if_ (.cmp2 .le .le (.lit (.int 65)) (.var 0) (.lit (.int 90))) [.ret (.lit (.bool true))] [],.ret (.cmp2 .le .le (.lit (.int 97)) (.var 0) (.lit (.int 122)))]
noncomputable def vf_is_tag_char : List Str := [Str.ofString "x"]
noncomputable def cf_is_tag_char:List CS:=[.if_ (.call 2 [(.var 0)]) [.ret (.lit (.bool true))] [],.if_ (.call 1 [(.var 0)]) [.ret (.lit (.bool true))] [],.ret (.cmp .eq (.var 0) (.lit (.int 45)))]
noncomputable def vf_is_atom_char : List Str := [Str.ofString "x"]
noncomputable def cf_is_atom_char:List CS:=[.if_ (.or_ [(.cmp .lt (.var 0) (.lit (.int 33))),(.cmp .gt (.var 0) (.lit (.int 126)))]) [.ret (.lit (.bool false))] [],.ret (.cmp .notIn (.var 0) (.tup [(.lit (.int 34)),(.lit (.int 37)),(.lit (.int 40)),(.lit (.int 41)),(.lit (.int 42)),(.lit (.int 92)),(.lit (.int 93)),(.lit (.int 123))]))]
noncomputable def vf_all_digits : List Str := [Str.ofString "b",Str.ofString "x"]
noncomputable def cf_all_digits:List CS:=[.if_ (.cmp .eq (.len (.var 0)) (.lit (.int 0))) [.ret (.lit (.bool false))] [],.for_ 1 (.var 0) [.if_ (.not_ (.call 1 [(.var 1)])) [.ret (.lit (.bool false))] []],.ret (.lit (.bool true))]
noncomputable def vf_digits_value : List Str := [Str.ofString "b",Str.ofString "n",Str.ofString "x"]
noncomputable def cf_digits_value:List CS:=[.assign 1 (.lit (.int 0)),.for_ 2 (.var 0) [.assign 1 (.bin .add (.bin .mul (.var 1) (.lit (.int 10))) (.bin .sub (.var 2) (.lit (.int 48)))),.if_ (.cmp .ge (.var 1) (.glob 0)) [.assign 1 (.glob 0)] []],.ret (.var 1)]
noncomputable def vf_upper : List Str := [Str.ofString "b"]
noncomputable def cf_upper:List CS:=[.ret (.mkBytes (.comp (.ite (.cmp2 .le .le (.lit (.int 97)) (.var 0) (.lit (.int 122))) (.bin .sub (.var 0) (.lit (.int 32))) (.var 0)) (.var 0) none))]
noncomputable def vf_is_tag : List Str := [Str.ofString "t",Str.ofString "x"]
noncomputable def cf_is_tag:List CS:=[.if_ (.not_ (.isin1 (.var 0) .bytes)) [.ret (.lit (.bool false))] [],.if_ (.cmp .eq (.len (.var 0)) (.lit (.int 0))) [.ret (.lit (.bool false))] [],.for_ 1 (.var 0) [.if_ (.not_ (.call 3 [(.var 1)])) [.ret (.lit (.bool false))] []],.ret (.lit (.bool true))]
noncomputable def vf_is_name : List Str := [Str.ofString "n",Str.ofString "x"]
noncomputable def cf_is_name:List CS:=[.if_ (.not_ (.isin1 (.var 0) .bytes)) [.ret (.lit (.bool false))] [],.if_ (.cmp .eq (.len (.var 0)) (.lit (.int 0))) [.ret (.lit (.bool false))] [],.for_ 1 (.var 0) [.if_ (.not_ (.call 2 [(.var 1)])) [.ret (.lit (.bool false))] []],.ret (.lit (.bool true))]
noncomputable def vf_read_run : List Str := [Str.ofString "data",Str.ofString "at",Str.ofString "letters_only",Str.ofString "size",Str.ofString "q",Str.ofString "x",Str.ofString "ok"]
noncomputable def cf_read_run:List CS:=[.assign 3 (.len (.var 0)),.assign 4 (.var 1),.while_ (.cmp .lt (.var 4) (.var 3)) [.assign 5 (.idx (.var 0) (.var 4)),.if_ (.var 2) [.assign 6 (.call 2 [(.var 5)])] [.assign 6 (.call 3 [(.var 5)])],.if_ (.not_ (.var 6)) [.brk] [],.aug 4 .add (.lit (.int 1))],.if_ (.cmp .eq (.var 4) (.var 3)) [.ret (.lit .none)] [],.expr (.call 0 [(.cmp .gt (.var 4) (.var 1))]),.ret (.tup [(.slc (.var 0) (some (.var 1)) (some (.var 4))),(.var 4)])]
noncomputable def vf_read_crlf : List Str := [Str.ofString "data",Str.ofString "at",Str.ofString "t"]
noncomputable def cf_read_crlf:List CS:=[.assign 2 (.slc (.var 0) (some (.var 1)) (some (.bin .add (.var 1) (.lit (.int 2))))),.expr (.call 0 [(.cmp .eq (.var 2) (.slc (.lit (.bytes [13,10])) none (some (.len (.var 2)))))]),.if_ (.cmp .lt (.len (.var 2)) (.lit (.int 2))) [.ret (.lit .none)] [],.ret (.bin .add (.var 1) (.lit (.int 2)))]
noncomputable def vf_is_atom_text : List Str := [Str.ofString "b",Str.ofString "i"]
noncomputable def cf_is_atom_text:List CS:=[.assign 1 (.lit (.int 0)),.if_ (.and_ [(.cmp .gt (.len (.var 0)) (.lit (.int 0))),(.cmp .eq (.idx (.var 0) (.lit (.int 0))) (.lit (.int 92)))]) [.assign 1 (.lit (.int 1))] [],.if_ (.cmp .ge (.var 1) (.len (.var 0))) [.ret (.lit (.bool false))] [],.while_ (.cmp .lt (.var 1) (.len (.var 0))) [.if_ (.not_ (.call 4 [(.idx (.var 0) (.var 1))])) [.ret (.lit (.bool false))] [],.aug 1 .add (.lit (.int 1))],.ret (.lit (.bool true))]
noncomputable def vf_quotable : List Str := [Str.ofString "b",Str.ofString "x"]
noncomputable def cf_quotable:List CS:=[.if_ (.cmp .gt (.len (.var 0)) (.lit (.int 40))) [.ret (.lit (.bool false))] [],.for_ 1 (.var 0) [.if_ (.or_ [(.cmp .eq (.var 1) (.lit (.int 0))),(.cmp .eq (.var 1) (.lit (.int 10))),(.cmp .eq (.var 1) (.lit (.int 13))),(.cmp .gt (.var 1) (.lit (.int 127)))]) [.ret (.lit (.bool false))] []],.ret (.lit (.bool true))]
noncomputable def vf_quote : List Str := [Str.ofString "b",Str.ofString "out",Str.ofString "x"]
noncomputable def cf_quote:List CS:=[.own 1 [(.lit (.int 34))],.for_ 2 (.var 0) [.if_ (.or_ [(.cmp .eq (.var 2) (.lit (.int 34))),(.cmp .eq (.var 2) (.lit (.int 92)))]) [.app 1 (.lit (.int 92))] [],.app 1 (.var 2)],.app 1 (.lit (.int 34)),.frz 1,.ret (.mkBytes (.var 1))]
noncomputable def vf_write_value : List Str := [Str.ofString "value",Str.ofString "kind",Str.ofString "content",Str.ofString "parts"]
noncomputable def cf_write_value:List CS:=[.expr (.call 0 [(.and_ [(.isin (.var 0) [.tuple,.list]),(.cmp .ge (.len (.var 0)) (.lit (.int 1)))])]),.assign 1 (.idx (.var 0) (.lit (.int 0))),.if_ (.cmp .eq (.var 1) (.lit (.str [110,105,108]))) [.expr (.call 0 [(.cmp .eq (.len (.var 0)) (.lit (.int 1)))]),.ret (.lit (.bytes [78,73,76]))] [],.expr (.call 0 [(.cmp .eq (.len (.var 0)) (.lit (.int 2)))]),.assign 2 (.idx (.var 0) (.lit (.int 1))),.if_ (.cmp .eq (.var 1) (.lit (.str [97,116,111,109]))) [.expr (.call 0 [(.isin1 (.var 2) .bytes)]),.expr (.call 0 [(.call 13 [(.var 2)])]),.expr (.call 0 [(.cmp .ne (.call 8 [(.var 2)]) (.lit (.bytes [78,73,76])))]),.expr (.call 0 [(.not_ (.call 5 [(.var 2)]))]),.ret (.var 2)] [],.if_ (.cmp .eq (.var 1) (.lit (.str [110,117,109,98,101,114]))) [.expr (.call 0 [(.isin1 (.var 2) .int)]),.expr (.call 0 [(.cmp2 .le .lt (.lit (.int 0)) (.var 2) (.glob 0))]),.ret (.call 7 [(.var 2)])] [],.if_ (.cmp .eq (.var 1) (.lit (.str [115,116,114,105,110,103]))) [.expr (.call 0 [(.isin1 (.var 2) .bytes)]),.expr (.call 0 [(.cmp .notIn (.lit (.int 0)) (.var 2))]),.if_ (.call 14 [(.var 2)]) [.ret (.call 15 [(.var 2)])] [],.ret (.bin .add (.bin .add (.bin .add (.lit (.bytes [123])) (.call 7 [(.len (.var 2))])) (.lit (.bytes [125,13,10]))) (.var 2))] [],.if_ (.cmp .eq (.var 1) (.lit (.str [108,105,115,116]))) [.expr (.call 0 [(.isin (.var 2) [.list,.tuple])]),.assign 3 (.comp (.call 16 [(.var 0)]) (.var 2) none),.ret (.bin .add (.bin .add (.lit (.bytes [40])) (.join (.lit (.bytes [32])) (.var 3))) (.lit (.bytes [41])))] [],.raise_]
noncomputable def vf_read_list : List Str := [Str.ofString "data",Str.ofString "p",Str.ofString "depth",Str.ofString "size",Str.ofString "items",Str.ofString "r"]
noncomputable def cf_read_list:List CS:=[.expr (.call 0 [(.cmp .gt (.var 2) (.lit (.int 0)))]),.assign 3 (.len (.var 0)),.own 4 [],.if_ (.cmp .ge (.var 1) (.var 3)) [.ret (.lit .none)] [],.if_ (.cmp .eq (.idx (.var 0) (.var 1)) (.lit (.int 41))) [.frz 4,.ret (.tup [(.tup [(.lit (.str [108,105,115,116])),(.var 4)]),(.bin .add (.var 1) (.lit (.int 1)))])] [],.while_ (.lit (.bool true)) [.assign 5 (.call 21 [(.var 0),(.var 1),(.bin .sub (.var 2) (.lit (.int 1)))]),.if_ (.cmp .is_ (.var 5) (.lit .none)) [.ret (.lit .none)] [],.app 4 (.idx (.var 5) (.lit (.int 0))),.assign 1 (.idx (.var 5) (.lit (.int 1))),.if_ (.cmp .ge (.var 1) (.var 3)) [.ret (.lit .none)] [],.if_ (.cmp .eq (.idx (.var 0) (.var 1)) (.lit (.int 41))) [.frz 4,.ret (.tup [(.tup [(.lit (.str [108,105,115,116])),(.var 4)]),(.bin .add (.var 1) (.lit (.int 1)))])] [],.expr (.call 0 [(.cmp .eq (.idx (.var 0) (.var 1)) (.lit (.int 32)))]),.aug 1 .add (.lit (.int 1))]]
noncomputable def vf_read_quoted : List Str := [Str.ofString "data",Str.ofString "p",Str.ofString "size",Str.ofString "out",Str.ofString "x"]
noncomputable def cf_read_quoted:List CS:=[.assign 2 (.len (.var 0)),.own 3 [],.while_ (.lit (.bool true)) [.if_ (.cmp .ge (.var 1) (.var 2)) [.ret (.lit .none)] [],.assign 4 (.idx (.var 0) (.var 1)),.aug 1 .add (.lit (.int 1)),.if_ (.cmp .eq (.var 4) (.lit (.int 34))) [.frz 3,.ret (.tup [(.tup [(.lit (.str [115,116,114,105,110,103])),(.mkBytes (.var 3))]),(.var 1)])] [],.if_ (.cmp .eq (.var 4) (.lit (.int 92))) [.if_ (.cmp .ge (.var 1) (.var 2)) [.ret (.lit .none)] [],.expr (.call 0 [(.or_ [(.cmp .eq (.idx (.var 0) (.var 1)) (.lit (.int 34))),(.cmp .eq (.idx (.var 0) (.var 1)) (.lit (.int 92)))])]),.assign 4 (.idx (.var 0) (.var 1)),.aug 1 .add (.lit (.int 1))] [.expr (.call 0 [(.and_ [(.cmp2 .lt .lt (.lit (.int 0)) (.var 4) (.lit (.int 128))),(.cmp .ne (.var 4) (.lit (.int 10))),(.cmp .ne (.var 4) (.lit (.int 13)))])])],.app 3 (.var 4)]]
noncomputable def vf_read_literal : List Str := [Str.ofString "data",Str.ofString "p",Str.ofString "size",Str.ofString "q",Str.ofString "n",Str.ofString "t",Str.ofString "body"]
noncomputable def cf_read_literal:List CS:=[.assign 2 (.len (.var 0)),.assign 3 (.var 1),.assign 4 (.lit (.int 0)),.while_ (.and_ [(.cmp .lt (.var 3) (.var 2)),(.call 1 [(.idx (.var 0) (.var 3))])]) [.assign 4 (.bin .add (.bin .mul (.var 4) (.lit (.int 10))) (.bin .sub (.idx (.var 0) (.var 3)) (.lit (.int 48)))),.if_ (.cmp .ge (.var 4) (.glob 0)) [.assign 4 (.glob 0)] [],.aug 3 .add (.lit (.int 1))],.expr (.call 0 [(.cmp .lt (.var 4) (.glob 0))]),.assign 5 (.slc (.var 0) (some (.var 3)) (some (.bin .add (.var 3) (.lit (.int 3))))),.expr (.call 0 [(.cmp .eq (.var 5) (.slc (.lit (.bytes [125,13,10])) none (some (.len (.var 5)))))]),.expr (.call 0 [(.or_ [(.cmp .gt (.var 3) (.var 1)),(.cmp .eq (.len (.var 5)) (.lit (.int 0)))])]),.assign 6 (.slc (.var 0) (some (.bin .add (.var 3) (.lit (.int 3)))) (some (.bin .add (.bin .add (.var 3) (.lit (.int 3))) (.var 4)))),.expr (.call 0 [(.cmp .notIn (.lit (.int 0)) (.var 6))]),.if_ (.or_ [(.cmp .lt (.len (.var 5)) (.lit (.int 3))),(.cmp .lt (.len (.var 6)) (.var 4))]) [.ret (.lit .none)] [],.ret (.tup [(.tup [(.lit (.str [115,116,114,105,110,103])),(.var 6)]),(.bin .add (.bin .add (.var 3) (.lit (.int 3))) (.var 4))])]
noncomputable def vf_read_word : List Str := [Str.ofString "data",Str.ofString "p",Str.ofString "size",Str.ofString "q",Str.ofString "w",Str.ofString "n"]
noncomputable def cf_read_word:List CS:=[.assign 2 (.len (.var 0)),.assign 3 (.var 1),.if_ (.and_ [(.cmp .lt (.var 3) (.var 2)),(.cmp .eq (.idx (.var 0) (.var 3)) (.lit (.int 92)))]) [.aug 3 .add (.lit (.int 1))] [],.while_ (.and_ [(.cmp .lt (.var 3) (.var 2)),(.call 4 [(.idx (.var 0) (.var 3))])]) [.aug 3 .add (.lit (.int 1))],.if_ (.cmp .eq (.var 3) (.var 2)) [.ret (.lit .none)] [],.assign 4 (.slc (.var 0) (some (.var 1)) (some (.var 3))),.expr (.call 0 [(.and_ [(.cmp .ne (.var 4) (.lit (.bytes []))),(.cmp .ne (.var 4) (.lit (.bytes [92])))])]),.if_ (.and_ [(.cmp .eq (.len (.var 4)) (.lit (.int 3))),(.cmp .eq (.call 8 [(.var 4)]) (.lit (.bytes [78,73,76])))]) [.ret (.tup [(.tup [(.lit (.str [110,105,108]))]),(.var 3)])] [],.if_ (.call 5 [(.var 4)]) [.assign 5 (.call 6 [(.var 4)]),.expr (.call 0 [(.cmp .lt (.var 5) (.glob 0))]),.ret (.tup [(.tup [(.lit (.str [110,117,109,98,101,114])),(.var 5)]),(.var 3)])] [],.ret (.tup [(.tup [(.lit (.str [97,116,111,109])),(.var 4)]),(.var 3)])]
noncomputable def vf_read_value : List Str := [Str.ofString "data",Str.ofString "at",Str.ofString "depth",Str.ofString "c"]
noncomputable def cf_read_value:List CS:=[.if_ (.cmp .ge (.var 1) (.len (.var 0))) [.ret (.lit .none)] [],.assign 3 (.idx (.var 0) (.var 1)),.if_ (.cmp .eq (.var 3) (.lit (.int 40))) [.ret (.call 17 [(.var 0),(.bin .add (.var 1) (.lit (.int 1))),(.var 2)])] [],.if_ (.cmp .eq (.var 3) (.lit (.int 34))) [.ret (.call 18 [(.var 0),(.bin .add (.var 1) (.lit (.int 1)))])] [],.if_ (.cmp .eq (.var 3) (.lit (.int 123))) [.ret (.call 19 [(.var 0),(.bin .add (.var 1) (.lit (.int 1)))])] [],.ret (.call 20 [(.var 0),(.var 1)])]
noncomputable def vf_check_text : List Str := [Str.ofString "t",Str.ofString "x"]
noncomputable def cf_check_text:List CS:=[.expr (.call 0 [(.and_ [(.isin1 (.var 0) .bytes),(.cmp .gt (.len (.var 0)) (.lit (.int 0)))])]),.expr (.call 0 [(.cmp .ne (.idx (.var 0) (.lit (.int 0))) (.lit (.int 91)))]),.for_ 1 (.var 0) [.expr (.call 0 [(.and_ [(.cmp .ne (.var 1) (.lit (.int 10))),(.cmp .ne (.var 1) (.lit (.int 13))),(.cmp .ne (.var 1) (.lit (.int 0)))])])],.ret (.var 0)]
noncomputable def vf_write_line : List Str := [Str.ofString "line",Str.ofString "kind",Str.ofString "tag",Str.ofString "word",Str.ofString "code",Str.ofString "text",Str.ofString "head",Str.ofString "middle",Str.ofString "values",Str.ofString "first",Str.ofString "parts"]
noncomputable def cf_write_line:List CS:=[.expr (.call 0 [(.and_ [(.isin (.var 0) [.tuple,.list]),(.cmp .ge (.len (.var 0)) (.lit (.int 1)))])]),.assign 1 (.idx (.var 0) (.lit (.int 0))),.if_ (.cmp .eq (.var 1) (.lit (.str [99,111,110,116,105,110,117,101]))) [.expr (.call 0 [(.cmp .eq (.len (.var 0)) (.lit (.int 2)))]),.ret (.bin .add (.bin .add (.lit (.bytes [43,32])) (.call 22 [(.idx (.var 0) (.lit (.int 1)))])) (.lit (.bytes [13,10])))] [],.if_ (.cmp .eq (.var 1) (.lit (.str [100,97,116,97]))) [.expr (.call 0 [(.cmp .eq (.len (.var 0)) (.lit (.int 2)))]),.assign 8 (.idx (.var 0) (.lit (.int 1))),.expr (.call 0 [(.and_ [(.isin (.var 8) [.list,.tuple]),(.cmp .gt (.len (.var 8)) (.lit (.int 0)))])]),.assign 9 (.idx (.var 8) (.lit (.int 0))),.if_ (.and_ [(.isin (.var 9) [.tuple,.list]),(.cmp .ge (.len (.var 9)) (.lit (.int 2)))]) [.if_ (.and_ [(.cmp .eq (.idx (.var 9) (.lit (.int 0))) (.lit (.str [97,116,111,109]))),(.isin1 (.idx (.var 9) (.lit (.int 1))) .bytes)]) [.expr (.call 0 [(.cmp .notIn (.call 8 [(.idx (.var 9) (.lit (.int 1)))]) (.glob 1))])] []] [],.assign 10 (.comp (.call 16 [(.var 0)]) (.var 8) none),.ret (.bin .add (.bin .add (.lit (.bytes [42,32])) (.join (.lit (.bytes [32])) (.var 10))) (.lit (.bytes [13,10])))] [],.expr (.call 0 [(.and_ [(.cmp .eq (.var 1) (.lit (.str [115,116,97,116,117,115]))),(.cmp .eq (.len (.var 0)) (.lit (.int 5)))])]),.assign 2 (.idx (.var 0) (.lit (.int 1))),.assign 3 (.idx (.var 0) (.lit (.int 2))),.assign 4 (.idx (.var 0) (.lit (.int 3))),.assign 5 (.idx (.var 0) (.lit (.int 4))),.expr (.call 0 [(.cmp .in_ (.var 3) (.glob 1))]),.expr (.call 0 [(.or_ [(.cmp .eq (.var 2) (.lit (.bytes []))),(.call 9 [(.var 2)])])]),.assign 6 (.lit (.bytes [42])),.if_ (.cmp .ne (.var 2) (.lit (.bytes []))) [.assign 6 (.var 2)] [],.assign 7 (.lit (.bytes [])),.if_ (.cmp .isNot (.var 4) (.lit .none)) [.expr (.call 0 [(.and_ [(.isin (.var 4) [.list,.tuple]),(.cmp .gt (.len (.var 4)) (.lit (.int 0)))])]),.assign 10 (.comp (.call 16 [(.var 0)]) (.var 4) none),.assign 7 (.bin .add (.bin .add (.lit (.bytes [91])) (.join (.lit (.bytes [32])) (.var 10))) (.lit (.bytes [93,32])))] [],.ret (.bin .add (.bin .add (.bin .add (.bin .add (.bin .add (.bin .add (.var 6) (.lit (.bytes [32]))) (.var 3)) (.lit (.bytes [32]))) (.var 7)) (.call 22 [(.var 5)])) (.lit (.bytes [13,10])))]
noncomputable def vf_read_text : List Str := [Str.ofString "data",Str.ofString "p",Str.ofString "size",Str.ofString "e",Str.ofString "text",Str.ofString "r"]
noncomputable def cf_read_text:List CS:=[.assign 2 (.len (.var 0)),.assign 3 (.var 1),.while_ (.and_ [(.cmp .lt (.var 3) (.var 2)),(.cmp .ne (.idx (.var 0) (.var 3)) (.lit (.int 10))),(.cmp .ne (.idx (.var 0) (.var 3)) (.lit (.int 13))),(.cmp .ne (.idx (.var 0) (.var 3)) (.lit (.int 0)))]) [.aug 3 .add (.lit (.int 1))],.if_ (.cmp .lt (.var 3) (.var 2)) [.expr (.call 0 [(.cmp .eq (.idx (.var 0) (.var 3)) (.lit (.int 13)))])] [],.assign 4 (.slc (.var 0) (some (.var 1)) (some (.var 3))),.if_ (.cmp .gt (.len (.var 4)) (.lit (.int 0))) [.expr (.call 0 [(.cmp .ne (.idx (.var 4) (.lit (.int 0))) (.lit (.int 91)))])] [.if_ (.cmp .lt (.var 3) (.var 2)) [.raise_] []],.if_ (.cmp .eq (.var 3) (.var 2)) [.ret (.lit .none)] [],.assign 5 (.call 12 [(.var 0),(.var 3)]),.if_ (.cmp .is_ (.var 5) (.lit .none)) [.ret (.lit .none)] [],.ret (.tup [(.var 4),(.var 5)])]
noncomputable def vf_status_word : List Str := [Str.ofString "data",Str.ofString "p",Str.ofString "w",Str.ofString "n",Str.ofString "piece"]
noncomputable def cf_status_word:List CS:=[.for_ 2 (.glob 1) [.assign 3 (.len (.var 2)),.assign 4 (.slc (.var 0) (some (.var 1)) (some (.bin .add (.bin .add (.var 1) (.var 3)) (.lit (.int 1))))),.if_ (.and_ [(.cmp .eq (.len (.var 4)) (.bin .add (.var 3) (.lit (.int 1)))),(.cmp .eq (.call 8 [(.var 4)]) (.bin .add (.var 2) (.lit (.bytes [32]))))]) [.ret (.var 2)] []],.ret (.lit .none)]
noncomputable def vf_read_line : List Str := [Str.ofString "data",Str.ofString "depth",Str.ofString "size",Str.ofString "p",Str.ofString "word",Str.ofString "values",Str.ofString "r",Str.ofString "tag",Str.ofString "code",Str.ofString "rest",Str.ofString "w",Str.ofString "e",Str.ofString "full"]
noncomputable def cf_read_line:List CS:=[.assign 2 (.len (.var 0)),.if_ (.and_ [(.cmp .gt (.var 2) (.lit (.int 0))),(.cmp .eq (.idx (.var 0) (.lit (.int 0))) (.lit (.int 43)))]) [.if_ (.cmp .lt (.var 2) (.lit (.int 2))) [.ret (.lit .none)] [],.expr (.call 0 [(.cmp .eq (.idx (.var 0) (.lit (.int 1))) (.lit (.int 32)))]),.assign 6 (.call 24 [(.var 0),(.lit (.int 2))]),.if_ (.cmp .is_ (.var 6) (.lit .none)) [.ret (.lit .none)] [],.ret (.tup [(.tup [(.lit (.str [99,111,110,116,105,110,117,101])),(.idx (.var 6) (.lit (.int 0)))]),(.idx (.var 6) (.lit (.int 1)))])] [],.if_ (.and_ [(.cmp .gt (.var 2) (.lit (.int 0))),(.cmp .eq (.idx (.var 0) (.lit (.int 0))) (.lit (.int 42)))]) [.assign 7 (.lit (.bytes [])),.assign 3 (.lit (.int 1))] [.assign 6 (.call 11 [(.var 0),(.lit (.int 0)),(.lit (.bool false))]),.if_ (.cmp .is_ (.var 6) (.lit .none)) [.ret (.lit .none)] [],.assign 7 (.idx (.var 6) (.lit (.int 0))),.assign 3 (.idx (.var 6) (.lit (.int 1)))],.if_ (.cmp .ge (.var 3) (.var 2)) [.ret (.lit .none)] [],.expr (.call 0 [(.cmp .eq (.idx (.var 0) (.var 3)) (.lit (.int 32)))]),.aug 3 .add (.lit (.int 1)),.assign 4 (.call 25 [(.var 0),(.var 3)]),.if_ (.cmp .isNot (.var 4) (.lit .none)) [.assign 3 (.bin .add (.bin .add (.var 3) (.len (.var 4))) (.lit (.int 1))),.assign 8 (.lit .none),.if_ (.cmp .ge (.var 3) (.var 2)) [.ret (.lit .none)] [],.if_ (.cmp .eq (.idx (.var 0) (.var 3)) (.lit (.int 91))) [.aug 3 .add (.lit (.int 1)),.own 8 [],.while_ (.lit (.bool true)) [.assign 6 (.call 21 [(.var 0),(.var 3),(.var 1)]),.if_ (.cmp .is_ (.var 6) (.lit .none)) [.ret (.lit .none)] [],.app 8 (.idx (.var 6) (.lit (.int 0))),.assign 3 (.idx (.var 6) (.lit (.int 1))),.if_ (.cmp .ge (.var 3) (.var 2)) [.ret (.lit .none)] [],.if_ (.cmp .eq (.idx (.var 0) (.var 3)) (.lit (.int 93))) [.aug 3 .add (.lit (.int 1)),.brk] [],.expr (.call 0 [(.cmp .eq (.idx (.var 0) (.var 3)) (.lit (.int 32)))]),.aug 3 .add (.lit (.int 1))],.if_ (.cmp .ge (.var 3) (.var 2)) [.ret (.lit .none)] [],.expr (.call 0 [(.cmp .eq (.idx (.var 0) (.var 3)) (.lit (.int 32)))]),.aug 3 .add (.lit (.int 1))] [],.assign 6 (.call 24 [(.var 0),(.var 3)]),.if_ (.cmp .is_ (.var 6) (.lit .none)) [.ret (.lit .none)] [],.frz 8,.ret (.tup [(.tup [(.lit (.str [115,116,97,116,117,115])),(.var 7),(.var 4),(.var 8),(.idx (.var 6) (.lit (.int 0)))]),(.idx (.var 6) (.lit (.int 1)))])] [],.if_ (.cmp .ne (.var 7) (.lit (.bytes []))) [.if_ (.cmp .le (.bin .sub (.var 2) (.var 3)) (.lit (.int 4))) [.assign 9 (.call 8 [(.slc (.var 0) (some (.var 3)) none)]),.for_ 10 (.glob 1) [.assign 12 (.bin .add (.var 10) (.lit (.bytes [32]))),.if_ (.cmp .eq (.slc (.var 12) none (some (.len (.var 9)))) (.var 9)) [.ret (.lit .none)] []]] [],.raise_] [],.own 5 [],.while_ (.lit (.bool true)) [.assign 6 (.call 21 [(.var 0),(.var 3),(.var 1)]),.if_ (.cmp .is_ (.var 6) (.lit .none)) [.ret (.lit .none)] [],.if_ (.and_ [(.cmp .eq (.len (.var 5)) (.lit (.int 0))),(.cmp .eq (.idx (.idx (.var 6) (.lit (.int 0))) (.lit (.int 0))) (.lit (.str [97,116,111,109])))]) [.expr (.call 0 [(.cmp .notIn (.call 8 [(.idx (.idx (.var 6) (.lit (.int 0))) (.lit (.int 1)))]) (.glob 1))])] [],.app 5 (.idx (.var 6) (.lit (.int 0))),.assign 3 (.idx (.var 6) (.lit (.int 1))),.if_ (.cmp .ge (.var 3) (.var 2)) [.ret (.lit .none)] [],.if_ (.cmp .ne (.idx (.var 0) (.var 3)) (.lit (.int 32))) [.assign 11 (.call 12 [(.var 0),(.var 3)]),.if_ (.cmp .is_ (.var 11) (.lit .none)) [.ret (.lit .none)] [],.frz 5,.ret (.tup [(.tup [(.lit (.str [100,97,116,97])),(.var 5)]),(.var 11)])] [],.aug 3 .add (.lit (.int 1))]]
noncomputable def vf_write_command : List Str := [Str.ofString "command",Str.ofString "tag",Str.ofString "name",Str.ofString "values",Str.ofString "parts",Str.ofString "value"]
noncomputable def cf_write_command:List CS:=[.expr (.call 0 [(.and_ [(.isin (.var 0) [.tuple,.list]),(.cmp .eq (.len (.var 0)) (.lit (.int 3)))])]),.assign 1 (.idx (.var 0) (.lit (.int 0))),.assign 2 (.idx (.var 0) (.lit (.int 1))),.assign 3 (.idx (.var 0) (.lit (.int 2))),.expr (.call 0 [(.and_ [(.call 9 [(.var 1)]),(.call 10 [(.var 2)])])]),.expr (.call 0 [(.isin (.var 3) [.list,.tuple])]),.own 4 [(.var 1),(.var 2)],.for_ 5 (.var 3) [.app 4 (.call 16 [(.var 5)])],.frz 4,.ret (.bin .add (.join (.lit (.bytes [32])) (.var 4)) (.lit (.bytes [13,10])))]
noncomputable def vf_read_command : List Str := [Str.ofString "data",Str.ofString "depth",Str.ofString "r",Str.ofString "tag",Str.ofString "p",Str.ofString "name",Str.ofString "size",Str.ofString "values",Str.ofString "e"]
noncomputable def cf_read_command:List CS:=[.assign 2 (.call 11 [(.var 0),(.lit (.int 0)),(.lit (.bool false))]),.if_ (.cmp .is_ (.var 2) (.lit .none)) [.ret (.lit .none)] [],.assign 3 (.idx (.var 2) (.lit (.int 0))),.assign 4 (.idx (.var 2) (.lit (.int 1))),.expr (.call 0 [(.cmp .eq (.idx (.var 0) (.var 4)) (.lit (.int 32)))]),.assign 2 (.call 11 [(.var 0),(.bin .add (.var 4) (.lit (.int 1))),(.lit (.bool true))]),.if_ (.cmp .is_ (.var 2) (.lit .none)) [.ret (.lit .none)] [],.assign 5 (.idx (.var 2) (.lit (.int 0))),.assign 4 (.idx (.var 2) (.lit (.int 1))),.assign 6 (.len (.var 0)),.own 7 [],.while_ (.lit (.bool true)) [.if_ (.cmp .ge (.var 4) (.var 6)) [.ret (.lit .none)] [],.if_ (.cmp .ne (.idx (.var 0) (.var 4)) (.lit (.int 32))) [.assign 8 (.call 12 [(.var 0),(.var 4)]),.if_ (.cmp .is_ (.var 8) (.lit .none)) [.ret (.lit .none)] [],.frz 7,.ret (.tup [(.tup [(.var 3),(.call 8 [(.var 5)]),(.var 7)]),(.var 8)])] [],.assign 2 (.call 21 [(.var 0),(.bin .add (.var 4) (.lit (.int 1))),(.var 1)]),.if_ (.cmp .is_ (.var 2) (.lit .none)) [.ret (.lit .none)] [],.app 7 (.idx (.var 2) (.lit (.int 0))),.assign 4 (.idx (.var 2) (.lit (.int 1)))]]
structure Lib (T:Nat→Option CF) (G:Nat→Res PV):Prop where
 t0:T 0=some (.code vf_need 1 cf_need)
 t1:T 1=some (.code vf_is_digit 1 cf_is_digit)
 t2:T 2=some (.code vf_is_letter 1 cf_is_letter)
 t3:T 3=some (.code vf_is_tag_char 1 cf_is_tag_char)
 t4:T 4=some (.code vf_is_atom_char 1 cf_is_atom_char)
 t5:T 5=some (.code vf_all_digits 1 cf_all_digits)
 t6:T 6=some (.code vf_digits_value 1 cf_digits_value)
 t7:T 7=some (.native nf_decimal)
 t8:T 8=some (.code vf_upper 1 cf_upper)
 t9:T 9=some (.code vf_is_tag 1 cf_is_tag)
 t10:T 10=some (.code vf_is_name 1 cf_is_name)
 t11:T 11=some (.code vf_read_run 3 cf_read_run)
 t12:T 12=some (.code vf_read_crlf 2 cf_read_crlf)
 t13:T 13=some (.code vf_is_atom_text 1 cf_is_atom_text)
 t14:T 14=some (.code vf_quotable 1 cf_quotable)
 t15:T 15=some (.code vf_quote 1 cf_quote)
 t16:T 16=some (.code vf_write_value 1 cf_write_value)
 t17:T 17=some (.code vf_read_list 3 cf_read_list)
 t18:T 18=some (.code vf_read_quoted 2 cf_read_quoted)
 t19:T 19=some (.code vf_read_literal 2 cf_read_literal)
 t20:T 20=some (.code vf_read_word 2 cf_read_word)
 t21:T 21=some (.code vf_read_value 3 cf_read_value)
 t22:T 22=some (.code vf_check_text 1 cf_check_text)
 t23:T 23=some (.code vf_write_line 1 cf_write_line)
 t24:T 24=some (.code vf_read_text 2 cf_read_text)
 t25:T 25=some (.code vf_status_word 2 cf_status_word)
 t26:T 26=some (.code vf_read_line 2 cf_read_line)
 t27:T 27=some (.code vf_write_command 1 cf_write_command)
 t28:T 28=some (.code vf_read_command 2 cf_read_command)
 g0:G 0=.ok (.int 4294967296)
 g1:G 1=.ok (.tuple [.bytes [79,75],.bytes [78,79],.bytes [66,65,68],.bytes [66,89,69]])
end Mine
namespace Mine
open PySem
namespace L1
noncomputable def vf_number_text : List Str := [Str.ofString "n"]
noncomputable def cf_number_text:List CS:=[.if_ (.cmp .eq (.var 0) (.lit (.int 0))) [.ret (.lit (.bytes [42]))] [],.ret (.call 7 [(.var 0)])]
noncomputable def vf_write_set : List Str := [Str.ofString "pairs",Str.ofString "pair",Str.ofString "parts",Str.ofString "n",Str.ofString "a",Str.ofString "b"]
noncomputable def cf_write_set:List CS:=[.expr (.call 0 [(.and_ [(.isin (.var 0) [.list,.tuple]),(.cmp .gt (.len (.var 0)) (.lit (.int 0)))])]),.for_ 1 (.var 0) [.expr (.call 0 [(.and_ [(.isin (.var 1) [.list,.tuple]),(.cmp .eq (.len (.var 1)) (.lit (.int 2)))])]),.for_ 3 (.var 1) [.expr (.call 0 [(.and_ [(.isin1 (.var 3) .int),(.cmp2 .le .lt (.lit (.int 0)) (.var 3) (.glob 0))])])]],.own 2 [],.for_ 1 (.var 0) [.assign 4 (.idx (.var 1) (.lit (.int 0))),.assign 5 (.idx (.var 1) (.lit (.int 1))),.if_ (.cmp .eq (.var 4) (.var 5)) [.app 2 (.call 29 [(.var 4)])] [.app 2 (.bin .add (.bin .add (.call 29 [(.var 4)]) (.lit (.bytes [58]))) (.call 29 [(.var 5)]))]],.frz 2,.ret (.join (.lit (.bytes [44])) (.var 2))]
noncomputable def vf_split_commas : List Str := [Str.ofString "text",Str.ofString "pieces",Str.ofString "start",Str.ofString "i"]
noncomputable def cf_split_commas:List CS:=[.own 1 [],.assign 2 (.lit (.int 0)),.forR 3 (.len (.var 0)) [.if_ (.cmp .eq (.idx (.var 0) (.var 3)) (.lit (.int 44))) [.app 1 (.slc (.var 0) (some (.var 2)) (some (.var 3))),.assign 2 (.bin .add (.var 3) (.lit (.int 1)))] []],.app 1 (.slc (.var 0) (some (.var 2)) none),.frz 1,.ret (.var 1)]
noncomputable def vf_read_number : List Str := [Str.ofString "b",Str.ofString "n",Str.ofString "x"]
noncomputable def cf_read_number:List CS:=[.if_ (.cmp .eq (.var 0) (.lit (.bytes [42]))) [.ret (.lit (.int 0))] [],.expr (.call 0 [(.and_ [(.cmp .gt (.len (.var 0)) (.lit (.int 0))),(.cmp2 .le .le (.lit (.int 49)) (.idx (.var 0) (.lit (.int 0))) (.lit (.int 57)))])]),.assign 1 (.lit (.int 0)),.for_ 2 (.var 0) [.expr (.call 0 [(.call 1 [(.var 2)])]),.assign 1 (.bin .add (.bin .mul (.var 1) (.lit (.int 10))) (.bin .sub (.var 2) (.lit (.int 48)))),.if_ (.cmp .ge (.var 1) (.glob 0)) [.assign 1 (.glob 0)] []],.expr (.call 0 [(.cmp .lt (.var 1) (.glob 0))]),.ret (.var 1)]
noncomputable def vf_read_set : List Str := [Str.ofString "text",Str.ofString "out",Str.ofString "piece",Str.ofString "colon",Str.ofString "i",Str.ofString "a",Str.ofString "b"]
noncomputable def cf_read_set:List CS:=[.expr (.call 0 [(.isin1 (.var 0) .bytes)]),.own 1 [],.for_ 2 (.call 31 [(.var 0)]) [.assign 3 (.neg 1),.forR 4 (.len (.var 2)) [.if_ (.cmp .eq (.idx (.var 2) (.var 4)) (.lit (.int 58))) [.assign 3 (.var 4),.brk] []],.if_ (.cmp .lt (.var 3) (.lit (.int 0))) [.assign 5 (.call 32 [(.var 2)]),.assign 6 (.var 5)] [.assign 5 (.call 32 [(.slc (.var 2) none (some (.var 3)))]),.assign 6 (.call 32 [(.slc (.var 2) (some (.bin .add (.var 3) (.lit (.int 1)))) none)])],.app 1 (.tup [(.var 5),(.var 6)])],.frz 1,.ret (.var 1)]
noncomputable def vf_sort_spans : List Str := [Str.ofString "spans",Str.ofString "mid",Str.ofString "left",Str.ofString "right",Str.ofString "merged",Str.ofString "i",Str.ofString "j"]
noncomputable def cf_sort_spans:List CS:=[.if_ (.cmp .le (.len (.var 0)) (.lit (.int 1))) [.ret (.mkList (.var 0))] [],.assign 1 (.bin .fdiv (.len (.var 0)) (.lit (.int 2))),.assign 2 (.call 34 [(.slc (.var 0) none (some (.var 1)))]),.assign 3 (.call 34 [(.slc (.var 0) (some (.var 1)) none)]),.own 4 [],.assign 5 (.lit (.int 0)),.assign 6 (.lit (.int 0)),.while_ (.and_ [(.cmp .lt (.var 5) (.len (.var 2))),(.cmp .lt (.var 6) (.len (.var 3)))]) [.if_ (.cmp .lt (.idx (.idx (.var 3) (.var 6)) (.lit (.int 0))) (.idx (.idx (.var 2) (.var 5)) (.lit (.int 0)))) [.app 4 (.idx (.var 3) (.var 6)),.aug 6 .add (.lit (.int 1))] [.app 4 (.idx (.var 2) (.var 5)),.aug 5 .add (.lit (.int 1))]],.while_ (.cmp .lt (.var 5) (.len (.var 2))) [.app 4 (.idx (.var 2) (.var 5)),.aug 5 .add (.lit (.int 1))],.while_ (.cmp .lt (.var 6) (.len (.var 3))) [.app 4 (.idx (.var 3) (.var 6)),.aug 6 .add (.lit (.int 1))],.frz 4,.ret (.var 4)]
noncomputable def vf_members : List Str := [Str.ofString "pairs",Str.ofString "last",Str.ofString "spans",Str.ofString "pair",Str.ofString "out",Str.ofString "have",Str.ofString "done",Str.ofString "span",Str.ofString "low",Str.ofString "high",Str.ofString "top",Str.ofString "start",Str.ofString "n",Str.ofString "a",Str.ofString "b"]
noncomputable def cf_members:List CS:=[.own 2 [],.for_ 3 (.var 0) [.assignT false [13,14] (.var 3),.if_ (.not_ (.var 13)) [.assign 13 (.var 1)] [],.if_ (.not_ (.var 14)) [.assign 14 (.var 1)] [],.assign 8 (.var 13),.assign 9 (.var 14),.if_ (.cmp .lt (.var 14) (.var 13)) [.assign 8 (.var 14),.assign 9 (.var 13)] [],.assign 10 (.var 9),.if_ (.cmp .lt (.var 1) (.var 9)) [.assign 10 (.var 1)] [],.if_ (.cmp .le (.var 8) (.var 10)) [.app 2 (.tup [(.var 8),(.var 10)])] []],.frz 2,.assign 2 (.call 34 [(.var 2)]),.own 4 [],.assign 5 (.lit (.bool false)),.assign 6 (.lit (.int 0)),.frz 2,.for_ 7 (.var 2) [.assign 8 (.idx (.var 7) (.lit (.int 0))),.assign 10 (.idx (.var 7) (.lit (.int 1))),.assign 11 (.var 8),.if_ (.and_ [(.var 5),(.cmp .le (.var 11) (.var 6))]) [.assign 11 (.bin .add (.var 6) (.lit (.int 1)))] [],.assign 12 (.var 11),.while_ (.cmp .le (.var 12) (.var 10)) [.app 4 (.var 12),.aug 12 .add (.lit (.int 1))],.if_ (.not_ (.var 5)) [.assign 6 (.var 10),.assign 5 (.lit (.bool true))] [.if_ (.cmp .gt (.var 10) (.var 6)) [.assign 6 (.var 10)] []]],.frz 4,.ret (.var 4)]
noncomputable def vf_law_body : List Str := [Str.ofString "mark",Str.ofString "b"]
noncomputable def cf_law_body:List CS:=[.ret (.idx (.tup [(.lit (.bytes [])),(.var 0),(.bin .add (.bin .add (.lit (.bytes [113])) (.var 0)) (.lit (.bytes [122]))),(.bin .add (.var 0) (.bin .mul (.lit (.bytes [109])) (.lit (.int 39)))),(.bin .add (.var 0) (.bin .mul (.lit (.bytes [109])) (.lit (.int 40))))]) (.bin .mod (.var 1) (.lit (.int 5))))]
noncomputable def vf_law_leaf : List Str := [Str.ofString "k",Str.ofString "a",Str.ofString "b",Str.ofString "mark",Str.ofString "shown",Str.ofString "body",Str.ofString "tail",Str.ofString "n",Str.ofString "digits",Str.ofString "atom"]
noncomputable def cf_law_leaf:List CS:=[.if_ (.cmp .eq (.bin .mod (.var 0) (.lit (.int 4))) (.lit (.int 0))) [.ret (.tup [(.tup [(.lit (.str [110,105,108]))]),(.lit (.bytes [78,73,76])),(.idx (.tup [(.lit (.bytes [110,105,108])),(.lit (.bytes [78,105,108])),(.lit (.bytes [110,73,76]))]) (.bin .mod (.var 1) (.lit (.int 3))))])] [],.if_ (.cmp .eq (.bin .mod (.var 0) (.lit (.int 4))) (.lit (.int 1))) [.assign 7 (.idx (.tup [(.lit (.int 0)),(.lit (.int 1)),(.lit (.int 9)),(.lit (.int 10)),(.lit (.int 4294967295)),(.lit (.int 20))]) (.bin .mod (.var 1) (.lit (.int 6)))),.assign 8 (.idx (.tup [(.lit (.bytes [48])),(.lit (.bytes [49])),(.lit (.bytes [57])),(.lit (.bytes [49,48])),(.lit (.bytes [52,50,57,52,57,54,55,50,57,53])),(.lit (.bytes [50,48]))]) (.bin .mod (.var 1) (.lit (.int 6)))),.ret (.tup [(.tup [(.lit (.str [110,117,109,98,101,114])),(.var 7)]),(.var 8),(.bin .add (.bin .mul (.lit (.bytes [48])) (.bin .mod (.var 2) (.lit (.int 3)))) (.var 8))])] [],.if_ (.cmp .eq (.bin .mod (.var 0) (.lit (.int 4))) (.lit (.int 2))) [.assign 9 (.bin .add (.bin .add (.idx (.tup [(.lit (.bytes [])),(.lit (.bytes [92])),(.lit (.bytes [55]))]) (.bin .mod (.var 2) (.lit (.int 3)))) (.mkBytes (.lst [(.idx (.glob 2) (.bin .mod (.var 1) (.lit (.int 16))))]))) (.idx (.tup [(.lit (.bytes [])),(.lit (.bytes [57])),(.lit (.bytes [107,57]))]) (.bin .mod (.bin .fdiv (.var 0) (.lit (.int 4))) (.lit (.int 3))))),.ret (.tup [(.tup [(.lit (.str [97,116,111,109])),(.var 9)]),(.var 9),(.var 9)])] [],.assign 3 (.mkBytes (.lst [(.idx (.glob 4) (.bin .mod (.var 1) (.lit (.int 12))))])),.assign 4 (.var 3),.if_ (.cmp .lt (.bin .mod (.var 1) (.lit (.int 12))) (.lit (.int 2))) [.assign 4 (.bin .add (.lit (.bytes [92])) (.var 3))] [],.assign 5 (.call 36 [(.var 3),(.var 2)]),.assign 6 (.bin .add (.bin .add (.idx (.tup [(.lit (.bytes [48])),(.lit (.bytes [49])),(.lit (.bytes [51])),(.lit (.bytes [52,48])),(.lit (.bytes [52,49]))]) (.bin .mod (.var 2) (.lit (.int 5)))) (.lit (.bytes [125,13,10]))) (.var 5)),.if_ (.or_ [(.cmp .eq (.bin .mod (.var 2) (.lit (.int 5))) (.lit (.int 4))),(.and_ [(.cmp .gt (.bin .mod (.var 1) (.lit (.int 12))) (.lit (.int 7))),(.cmp .gt (.bin .mod (.var 2) (.lit (.int 5))) (.lit (.int 0)))])]) [.ret (.tup [(.tup [(.lit (.str [115,116,114,105,110,103])),(.var 5)]),(.bin .add (.lit (.bytes [123])) (.var 6)),(.bin .add (.lit (.bytes [123,48])) (.var 6))])] [],.ret (.tup [(.tup [(.lit (.str [115,116,114,105,110,103])),(.var 5)]),(.bin .add (.bin .add (.lit (.bytes [34])) (.call 36 [(.var 4),(.var 2)])) (.lit (.bytes [34]))),(.bin .add (.lit (.bytes [123,48])) (.var 6))])]
noncomputable def vf_law_value : List Str := [Str.ofString "k",Str.ofString "x",Str.ofString "y",Str.ofString "inner"]
noncomputable def cf_law_value:List CS:=[.if_ (.cmp .eq (.bin .mod (.var 0) (.lit (.int 4))) (.lit (.int 0))) [.ret (.tup [(.idx (.var 1) (.lit (.int 0))),(.idx (.var 1) (.lit (.int 1))),(.idx (.var 1) (.lit (.int 2))),(.lit (.int 0))])] [],.if_ (.cmp .eq (.bin .mod (.var 0) (.lit (.int 4))) (.lit (.int 1))) [.ret (.tup [(.tup [(.lit (.str [108,105,115,116])),(.lst [])]),(.lit (.bytes [40,41])),(.lit (.bytes [40,41])),(.lit (.int 1))])] [],.if_ (.cmp .eq (.bin .mod (.var 0) (.lit (.int 4))) (.lit (.int 2))) [.ret (.tup [(.tup [(.lit (.str [108,105,115,116])),(.lst [(.idx (.var 1) (.lit (.int 0))),(.idx (.var 2) (.lit (.int 0)))])]),(.bin .add (.bin .add (.bin .add (.bin .add (.lit (.bytes [40])) (.idx (.var 1) (.lit (.int 1)))) (.lit (.bytes [32]))) (.idx (.var 2) (.lit (.int 1)))) (.lit (.bytes [41]))),(.bin .add (.bin .add (.bin .add (.bin .add (.lit (.bytes [40])) (.idx (.var 1) (.lit (.int 2)))) (.lit (.bytes [32]))) (.idx (.var 2) (.lit (.int 2)))) (.lit (.bytes [41]))),(.lit (.int 1))])] [],.assign 3 (.tup [(.lit (.str [108,105,115,116])),(.lst [(.idx (.var 2) (.lit (.int 0)))])]),.ret (.tup [(.tup [(.lit (.str [108,105,115,116])),(.lst [(.idx (.var 1) (.lit (.int 0))),(.var 3),(.idx (.var 2) (.lit (.int 0)))])]),(.bin .add (.bin .add (.bin .add (.bin .add (.bin .add (.bin .add (.lit (.bytes [40])) (.idx (.var 1) (.lit (.int 1)))) (.lit (.bytes [32,40]))) (.idx (.var 2) (.lit (.int 1)))) (.lit (.bytes [41,32]))) (.idx (.var 2) (.lit (.int 1)))) (.lit (.bytes [41]))),(.bin .add (.bin .add (.bin .add (.bin .add (.bin .add (.bin .add (.lit (.bytes [40])) (.idx (.var 1) (.lit (.int 2)))) (.lit (.bytes [32,40]))) (.idx (.var 2) (.lit (.int 2)))) (.lit (.bytes [41,32]))) (.idx (.var 2) (.lit (.int 2)))) (.lit (.bytes [41]))),(.lit (.int 2))])]
noncomputable def vf_law_pair : List Str := [Str.ofString "c",Str.ofString "d",Str.ofString "ends",Str.ofString "low",Str.ofString "high"]
noncomputable def cf_law_pair:List CS:=[.assign 2 (.tup [(.tup [(.lit (.int 0)),(.lit (.bytes [42]))]),(.tup [(.lit (.int 1)),(.lit (.bytes [49]))]),(.tup [(.lit (.int 2)),(.lit (.bytes [50]))]),(.tup [(.lit (.int 4)),(.lit (.bytes [52]))]),(.tup [(.lit (.int 5)),(.lit (.bytes [53]))]),(.tup [(.lit (.int 7)),(.lit (.bytes [55]))]),(.tup [(.lit (.int 9)),(.lit (.bytes [57]))]),(.tup [(.lit (.int 4294967295)),(.lit (.bytes [52,50,57,52,57,54,55,50,57,53]))])]),.assign 3 (.idx (.var 2) (.bin .mod (.var 0) (.lit (.int 8)))),.assign 4 (.idx (.var 2) (.bin .mod (.var 1) (.lit (.int 8)))),.if_ (.cmp .eq (.bin .mod (.var 0) (.lit (.int 8))) (.bin .mod (.var 1) (.lit (.int 8)))) [.ret (.tup [(.tup [(.idx (.var 3) (.lit (.int 0))),(.idx (.var 3) (.lit (.int 0)))]),(.idx (.var 3) (.lit (.int 1)))])] [],.ret (.tup [(.tup [(.idx (.var 3) (.lit (.int 0))),(.idx (.var 4) (.lit (.int 0)))]),(.bin .add (.bin .add (.idx (.var 3) (.lit (.int 1))) (.lit (.bytes [58]))) (.idx (.var 4) (.lit (.int 1))))])]
noncomputable def vf_law_items : List Str := [Str.ofString "f",Str.ofString "want",Str.ofString "v",Str.ofString "firsts",Str.ofString "numbers"]
noncomputable def cf_law_items:List CS:=[.assign 3 (.tup [(.tup [(.tup [(.lit (.str [97,116,111,109])),(.lit (.bytes [83,69,65,82,67,72]))]),(.lit (.bytes [83,69,65,82,67,72])),(.lit (.bytes [83,69,65,82,67,72]))]),(.tup [(.tup [(.lit (.str [97,116,111,109])),(.lit (.bytes [79,75,65,89]))]),(.lit (.bytes [79,75,65,89])),(.lit (.bytes [79,75,65,89]))]),(.tup [(.tup [(.lit (.str [97,116,111,109])),(.lit (.bytes [66,65]))]),(.lit (.bytes [66,65])),(.lit (.bytes [66,65]))]),(.tup [(.tup [(.lit (.str [115,116,114,105,110,103])),(.lit (.bytes [78,79]))]),(.lit (.bytes [34,78,79,34])),(.lit (.bytes [123,50,125,13,10,78,79]))]),(.tup [(.tup [(.lit (.str [110,117,109,98,101,114])),(.lit (.int 23))]),(.lit (.bytes [50,51])),(.lit (.bytes [48,50,51]))]),(.tup [(.tup [(.lit (.str [110,105,108]))]),(.lit (.bytes [78,73,76])),(.lit (.bytes [110,105,108]))])]),.assign 4 (.comp (.tup [(.tup [(.lit (.str [110,117,109,98,101,114])),(.var 0)]),(.mkBytes (.lst [(.bin .add (.lit (.int 48)) (.var 0))])),(.mkBytes (.lst [(.lit (.int 48)),(.bin .add (.lit (.int 48)) (.var 0))]))]) (.var 1) none),.ret (.bin .add (.bin .add (.lst [(.idx (.var 3) (.bin .mod (.var 0) (.lit (.int 6))))]) (.var 4)) (.lst [(.tup [(.tup [(.lit (.str [97,116,111,109])),(.lit (.bytes [66,121,101]))]),(.lit (.bytes [66,121,101])),(.lit (.bytes [66,121,101]))]),(.var 2)]))]
noncomputable def vf_law_line : List Str := [Str.ofString "k",Str.ofString "w",Str.ofString "said",Str.ofString "tag",Str.ofString "items",Str.ofString "values",Str.ofString "wire",Str.ofString "loose",Str.ofString "word",Str.ofString "head",Str.ofString "other",Str.ofString "mark"]
noncomputable def cf_law_line:List CS:=[.assign 5 (.comp (.idx (.var 0) (.lit (.int 0))) (.var 4) none),.assign 6 (.join (.lit (.bytes [32])) (.comp (.idx (.var 0) (.lit (.int 1))) (.var 4) none)),.assign 7 (.join (.lit (.bytes [32])) (.comp (.idx (.var 0) (.lit (.int 2))) (.var 4) none)),.if_ (.cmp .eq (.bin .mod (.var 0) (.lit (.int 6))) (.lit (.int 0))) [.ret (.tup [(.tup [(.lit (.str [99,111,110,116,105,110,117,101])),(.var 2)]),(.bin .add (.bin .add (.lit (.bytes [43,32])) (.var 2)) (.lit (.bytes [13,10]))),(.bin .add (.bin .add (.lit (.bytes [43,32])) (.var 2)) (.lit (.bytes [13,10])))])] [],.if_ (.cmp .eq (.bin .mod (.var 0) (.lit (.int 6))) (.lit (.int 1))) [.ret (.tup [(.tup [(.lit (.str [100,97,116,97])),(.var 5)]),(.bin .add (.bin .add (.lit (.bytes [42,32])) (.var 6)) (.lit (.bytes [13,10]))),(.bin .add (.bin .add (.lit (.bytes [42,32])) (.var 7)) (.lit (.bytes [13,10])))])] [],.assign 8 (.idx (.tup [(.lit (.bytes [79,75])),(.lit (.bytes [78,79])),(.lit (.bytes [66,65,68])),(.lit (.bytes [66,89,69]))]) (.bin .mod (.var 1) (.lit (.int 4)))),.assign 9 (.bin .add (.idx (.tup [(.var 3),(.lit (.bytes [42]))]) (.bin .mod (.var 0) (.lit (.int 2)))) (.lit (.bytes [32]))),.assign 10 (.bin .add (.bin .add (.var 9) (.idx (.tup [(.lit (.bytes [111,75])),(.lit (.bytes [110,111])),(.lit (.bytes [66,97,100])),(.lit (.bytes [98,89,69]))]) (.bin .mod (.var 1) (.lit (.int 4))))) (.lit (.bytes [32]))),.assign 9 (.bin .add (.bin .add (.var 9) (.var 8)) (.lit (.bytes [32]))),.assign 11 (.idx (.tup [(.var 3),(.lit (.bytes []))]) (.bin .mod (.var 0) (.lit (.int 2)))),.if_ (.cmp .lt (.bin .mod (.var 0) (.lit (.int 6))) (.lit (.int 4))) [.ret (.tup [(.tup [(.lit (.str [115,116,97,116,117,115])),(.var 11),(.var 8),(.lit .none),(.var 2)]),(.bin .add (.bin .add (.var 9) (.var 2)) (.lit (.bytes [13,10]))),(.bin .add (.bin .add (.var 10) (.var 2)) (.lit (.bytes [13,10])))])] [],.ret (.tup [(.tup [(.lit (.str [115,116,97,116,117,115])),(.var 11),(.var 8),(.var 5),(.var 2)]),(.bin .add (.bin .add (.bin .add (.bin .add (.bin .add (.var 9) (.lit (.bytes [91]))) (.var 6)) (.lit (.bytes [93,32]))) (.var 2)) (.lit (.bytes [13,10]))),(.bin .add (.bin .add (.bin .add (.bin .add (.bin .add (.var 10) (.lit (.bytes [91]))) (.var 7)) (.lit (.bytes [93,32]))) (.var 2)) (.lit (.bytes [13,10])))])]
noncomputable def vf_law_bad_value : List Str := [Str.ofString "r",Str.ofString "e",Str.ofString "rows"]
noncomputable def cf_law_bad_value:List CS:=[.assign 2 (.tup [(.tup [(.lit (.str [97,116,111,109])),(.bin .add (.bin .add (.lit (.bytes [97])) (.var 1)) (.lit (.bytes [122])))]),(.tup [(.lit (.str [97,116,111,109])),(.lit (.bytes []))]),(.tup [(.lit (.str [97,116,111,109])),(.lit (.bytes [92]))]),(.tup [(.lit (.str [97,116,111,109])),(.lit (.bytes [110,73,108]))]),(.tup [(.lit (.str [97,116,111,109])),(.lit (.bytes [57,48]))]),(.tup [(.lit (.str [97,116,111,109])),(.lst [(.lit (.int 97))])]),(.tup [(.lit (.str [110,117,109,98,101,114])),(.neg 1)]),(.tup [(.lit (.str [110,117,109,98,101,114])),(.lit (.int 4294967296))]),(.strFlt [110,117,109,98,101,114] 0),(.tup [(.lit (.str [115,116,114,105,110,103])),(.lit (.bytes [97,0,98]))]),(.tup [(.lit (.str [115,116,114,105,110,103])),(.lst [(.lit (.int 97))])]),(.tup [(.lit (.str [108,105,115,116])),(.lit (.bytes []))]),(.tup [(.lit (.str [110,105,108])),(.lit (.bytes [97]))]),(.tup [(.lit (.str [97,116,111,109])),(.lit (.bytes [97])),(.lit (.bytes [98]))]),(.tup []),(.tup [(.lit (.str [119,111,114,100])),(.lit (.bytes [97]))]),(.tup [(.lit (.str [108,105,115,116])),(.lst [(.tup [(.lit (.str [110,105,108]))]),(.tup [(.lit (.str [110,105,108])),(.lit (.int 0))])])]),(.lit (.int 7))]),.ret (.idx (.var 2) (.bin .mod (.var 0) (.len (.var 2))))]
noncomputable def vf_law_bad_command : List Str := [Str.ofString "r",Str.ofString "t",Str.ofString "rows"]
noncomputable def cf_law_bad_command:List CS:=[.assign 2 (.tup [(.tup [(.lit (.bytes [])),(.lit (.bytes [78,79,79,80])),(.lst [])]),(.tup [(.bin .add (.lit (.bytes [65])) (.var 1)),(.lit (.bytes [78,79,79,80])),(.lst [])]),(.tup [(.lit (.bytes [65,49])),(.lit (.bytes [])),(.lst [])]),(.tup [(.lit (.bytes [65,49])),(.bin .add (.lit (.bytes [78,79])) (.var 1)),(.lst [])]),(.tup [(.lit (.bytes [65,49])),(.lit (.bytes [78,79,49])),(.lst [])]),(.tup [(.lit (.bytes [65,49])),(.lit (.bytes [78,79,79,80]))]),(.tup [(.lit (.bytes [65,49])),(.lit (.bytes [78,79,79,80])),(.lit (.bytes []))]),(.tup [(.lst [(.lit (.int 65))]),(.lit (.bytes [78,79,79,80])),(.lst [])]),(.tup [(.lit (.bytes [65,49])),(.lst [(.lit (.int 65))]),(.lst [])]),(.tup [(.lit (.bytes [65,49])),(.lit (.bytes [78,79,79,80])),(.lst []),(.lst [])])]),.ret (.idx (.var 2) (.bin .mod (.var 0) (.len (.var 2))))]
noncomputable def vf_law_bad_line : List Str := [Str.ofString "r",Str.ofString "rows"]
noncomputable def cf_law_bad_line:List CS:=[.assign 1 (.tup [(.tup [(.lit (.str [99,111,110,116,105,110,117,101])),(.lit (.bytes []))]),(.tup [(.lit (.str [99,111,110,116,105,110,117,101])),(.lit (.bytes [91,120]))]),(.tup [(.lit (.str [99,111,110,116,105,110,117,101])),(.lit (.bytes [97,10,98]))]),(.tup [(.lit (.str [99,111,110,116,105,110,117,101])),(.lit (.bytes [97,13,98]))]),(.tup [(.lit (.str [99,111,110,116,105,110,117,101])),(.lit (.bytes [97,0,98]))]),(.tup [(.lit (.str [99,111,110,116,105,110,117,101])),(.lst [(.lit (.int 97))])]),(.tup [(.lit (.str [99,111,110,116,105,110,117,101])),(.lit (.bytes [97])),(.lit (.bytes [98]))]),(.tup [(.lit (.str [100,97,116,97])),(.lst [])]),(.tup [(.lit (.str [100,97,116,97])),(.lst [(.tup [(.lit (.str [97,116,111,109])),(.lit (.bytes [111,75]))]),(.tup [(.lit (.str [110,105,108]))])])]),(.tup [(.lit (.str [100,97,116,97])),(.lst [(.tup [(.lit (.str [97,116,111,109])),(.lit (.bytes [78,79]))])])]),(.tup [(.lit (.str [100,97,116,97])),(.lst [(.tup [(.lit (.str [97,116,111,109])),(.lit (.bytes [98,97,100]))])])]),(.tup [(.lit (.str [100,97,116,97])),(.lst [(.tup [(.lit (.str [97,116,111,109])),(.lit (.bytes [98,121,69]))])])]),(.tup [(.lit (.str [100,97,116,97])),(.lst [(.tup [(.lit (.str [110,105,108]))])]),(.lit (.int 1))]),(.tup [(.lit (.str [100,97,116,97])),(.lit (.bytes []))]),(.tup [(.lit (.str [115,116,97,116,117,115])),(.lit (.bytes [])),(.lit (.bytes [79,75,65,89])),(.lit .none),(.lit (.bytes [116]))]),(.tup [(.lit (.str [115,116,97,116,117,115])),(.lit (.bytes [97,32,98])),(.lit (.bytes [79,75])),(.lit .none),(.lit (.bytes [116]))]),(.tup [(.lit (.str [115,116,97,116,117,115])),(.lit (.bytes [])),(.lit (.bytes [79,75])),(.lst []),(.lit (.bytes [116]))]),(.tup [(.lit (.str [115,116,97,116,117,115])),(.lit (.bytes [])),(.lit (.bytes [79,75])),(.lit (.bytes [])),(.lit (.bytes [116]))]),(.tup [(.lit (.str [115,116,97,116,117,115])),(.lit (.bytes [])),(.lit (.bytes [79,75])),(.lit .none)]),(.tup [(.lit (.str [115,116,97,116,117,115])),(.lit (.bytes [])),(.lit (.bytes [79,75])),(.lit .none),(.lit (.bytes [116])),(.lit (.bytes [117]))]),(.tup [(.lit (.str [115,116,97,116,117,115])),(.lit (.bytes [])),(.lit (.bytes [78,79])),(.lit .none),(.lit (.bytes [91,116]))]),(.tup [(.lit (.str [111,116,104,101,114])),(.lit (.bytes [])),(.lit (.bytes [79,75])),(.lit .none),(.lit (.bytes [116]))]),(.tup [])]),.ret (.idx (.var 1) (.bin .mod (.var 0) (.len (.var 1))))]
noncomputable def vf_law_bad_piece : List Str := [Str.ofString "r",Str.ofString "e",Str.ofString "rows"]
noncomputable def cf_law_bad_piece:List CS:=[.assign 2 (.tup [(.lit (.bytes [])),(.bin .add (.bin .add (.lit (.bytes [97])) (.var 1)) (.lit (.bytes [122]))),(.lit (.bytes [34,97,0,122,34])),(.lit (.bytes [34,97,10,122,34])),(.lit (.bytes [34,97,13,122,34])),(.lit (.bytes [34,97,128,122,34])),(.lit (.bytes [34,97,92,122,34])),(.lit (.bytes [52,50,57,52,57,54,55,50,57,54])),(.lit (.bytes [123,52,50,57,52,57,54,55,50,57,54,125,13,10,97])),(.lit (.bytes [123,51,125,13,10,97,0,98])),(.lit (.bytes [123,125,13,10])),(.lit (.bytes [123,50,125,10,97,97])),(.lit (.bytes [123,49,13,10,97])),(.lit (.bytes [92])),(.lit (.bytes [92,92,97])),(.lit (.bytes [93])),(.lit (.bytes [40,32,97,41])),(.lit (.bytes [40,97,32,41])),(.lit (.bytes [40,97,32,32,98,41])),(.lit (.bytes [40,97,93,98,41]))]),.ret (.idx (.var 2) (.bin .mod (.var 0) (.len (.var 2))))]
noncomputable def vf_law_bad_head : List Str := [Str.ofString "r",Str.ofString "t",Str.ofString "rows"]
noncomputable def cf_law_bad_head:List CS:=[.assign 2 (.tup [(.bin .add (.bin .add (.lit (.bytes [65])) (.var 1)) (.lit (.bytes [78,79,79,80,32,76,79,71,73,78,32,120,13,10]))),(.lit (.bytes [32,78,79,79,80,32,120,13,10])),(.lit (.bytes [65,49,32,32,120,13,10])),(.bin .add (.bin .add (.lit (.bytes [65,49,32,78,79])) (.var 1)) (.lit (.bytes [79,80,32,120,13,10]))),(.lit (.bytes [65,49,32,78,79,49,80,32,120,13,10])),(.lit (.bytes [65,49,32,78,79,79,80,32,120,13,97,98])),(.lit (.bytes [65,49,32,78,79,79,80,32,120,10,97,98])),(.lit (.bytes [65,49,32,78,79,79,80,13,13,10,120])),(.lit (.bytes [65,49,32,78,79,79,80,32,13,10,120])),(.lit (.bytes [65,49,13,10,120]))]),.ret (.idx (.var 2) (.bin .mod (.var 0) (.len (.var 2))))]
noncomputable def vf_law_bad_wire : List Str := [Str.ofString "r",Str.ofString "t",Str.ofString "rows"]
noncomputable def cf_law_bad_wire:List CS:=[.assign 2 (.tup [(.lit (.bytes [43,120,32,103,111,13,10])),(.lit (.bytes [43,32,13,10,97,98])),(.lit (.bytes [43,32,91,120,13,10])),(.lit (.bytes [43,32,97,10,98,13,10])),(.lit (.bytes [43,32,97,0,98,13,10])),(.lit (.bytes [43,32,97,13,98,13,10])),(.lit (.bytes [42,45,79,75,32,97,13,10])),(.lit (.bytes [42,32,79,75,13,10,97,98])),(.lit (.bytes [42,32,98,97,100,13,10,97,98])),(.lit (.bytes [42,32,13,10,97,98])),(.lit (.bytes [42,32,97,32,32,98,13,10])),(.lit (.bytes [42,32,97,93,98,13,10])),(.lit (.bytes [65,49,32,79,75,65,89,32,120,13,10])),(.lit (.bytes [65,49,32,79,75,13,10,120,121,122])),(.lit (.bytes [65,49,32,79,75,65])),(.bin .add (.bin .add (.lit (.bytes [65])) (.var 1)) (.lit (.bytes [79,75,32,97,13,10]))),(.lit (.bytes [42,32,79,75,32,91,93,32,116,13,10])),(.lit (.bytes [42,32,79,75,32,91,97,93,45,116,13,10])),(.lit (.bytes [42,32,79,75,32,91,97,41,98,93,32,116,13,10])),(.lit (.bytes [42,32,79,75,32,91,97,32,32,98,93,32,116,13,10])),(.lit (.bytes [42,32,79,75,32,91,97,93,32,91,98,13,10])),(.lit (.bytes [42,32,79,75,32,13,10,97,98])),(.lit (.bytes [42,32,79,75,32,91,97,93,32,13,10,97,98])),(.lit (.bytes [32,79,75,32,97,13,10]))]),.ret (.idx (.var 2) (.bin .mod (.var 0) (.len (.var 2))))]
noncomputable def vf_law_bad_pairs : List Str := [Str.ofString "r",Str.ofString "pairs",Str.ofString "rows"]
noncomputable def cf_law_bad_pairs:List CS:=[.assign 2 (.tup [(.lst []),(.lit .none),(.bin .add (.var 1) (.lst [(.tup [(.lit (.int 3)),(.lit (.int 4294967296))])])),(.bin .add (.lst [(.tup [(.neg 1),(.lit (.int 3))])]) (.var 1)),(.bin .add (.var 1) (.lst [(.tup [(.lit (.int 1)),(.lit (.int 2)),(.lit (.int 3))])])),(.bin .add (.lst [(.tup [(.lit (.int 5))])]) (.var 1)),(.bin .add (.var 1) (.lst [(.tup [(.lit (.int 1)),(.lit (.bytes [50]))])])),(.bin .add (.var 1) (.lst [(.lit (.int 7))]))]),.ret (.idx (.var 2) (.bin .mod (.var 0) (.len (.var 2))))]
noncomputable def vf_law_bad_text : List Str := [Str.ofString "r",Str.ofString "text",Str.ofString "rows"]
noncomputable def cf_law_bad_text:List CS:=[.assign 2 (.tup [(.lit (.bytes [])),(.lst [(.lit (.int 53))]),(.bin .add (.lit (.bytes [48,44])) (.var 1)),(.bin .add (.lit (.bytes [48,53,44])) (.var 1)),(.bin .add (.lit (.bytes [49,58,44])) (.var 1)),(.bin .add (.lit (.bytes [58,49,44])) (.var 1)),(.bin .add (.lit (.bytes [49,58,58,50,44])) (.var 1)),(.bin .add (.lit (.bytes [49,58,50,58,51,44])) (.var 1)),(.bin .add (.lit (.bytes [52,50,57,52,57,54,55,50,57,54,44])) (.var 1)),(.bin .add (.lit (.bytes [49,97,44])) (.var 1)),(.bin .add (.lit (.bytes [51,44,44])) (.var 1)),(.bin .add (.var 1) (.lit (.bytes [44])))]),.ret (.idx (.var 2) (.bin .mod (.var 0) (.len (.var 2))))]
noncomputable def vf_law_unsent : List Str := [Str.ofString "command",Str.ofString "refused"]
noncomputable def cf_law_unsent:List CS:=[.assign 1 (.lit (.bool false)),.tryE (.call 27 [(.var 0)]) 1 (.bool true),.ret (.var 1)]
noncomputable def vf_law_unread : List Str := [Str.ofString "data",Str.ofString "depth",Str.ofString "refused"]
noncomputable def cf_law_unread:List CS:=[.assign 2 (.lit (.bool false)),.tryE (.call 28 [(.var 0),(.var 1)]) 2 (.bool true),.ret (.var 2)]
noncomputable def vf_law_line_unsent : List Str := [Str.ofString "line",Str.ofString "refused"]
noncomputable def cf_law_line_unsent:List CS:=[.assign 1 (.lit (.bool false)),.tryE (.call 23 [(.var 0)]) 1 (.bool true),.ret (.var 1)]
noncomputable def vf_law_line_unread : List Str := [Str.ofString "data",Str.ofString "refused"]
noncomputable def cf_law_line_unread:List CS:=[.assign 1 (.lit (.bool false)),.tryE (.call 26 [(.var 0),(.lit (.int 3))]) 1 (.bool true),.ret (.var 1)]
noncomputable def vf_law_set_unsent : List Str := [Str.ofString "pairs",Str.ofString "refused"]
noncomputable def cf_law_set_unsent:List CS:=[.assign 1 (.lit (.bool false)),.tryE (.call 30 [(.var 0)]) 1 (.bool true),.ret (.var 1)]
noncomputable def vf_law_set_unread : List Str := [Str.ofString "text",Str.ofString "refused"]
noncomputable def cf_law_set_unread:List CS:=[.assign 1 (.lit (.bool false)),.tryE (.call 33 [(.var 0)]) 1 (.bool true),.ret (.var 1)]
noncomputable def vf_law_refusals : List Str := [Str.ofString "r",Str.ofString "e",Str.ofString "t",Str.ofString "x",Str.ofString "v",Str.ofString "pairs",Str.ofString "text"]
noncomputable def cf_law_refusals:List CS:=[.if_ (.or_ [(.not_ (.call 51 [(.tup [(.lit (.bytes [65,49])),(.lit (.bytes [70,69,84,67,72])),(.lst [(.idx (.var 3) (.lit (.int 0))),(.call 43 [(.var 0),(.var 1)]),(.idx (.var 4) (.lit (.int 0)))])])])),(.not_ (.call 51 [(.call 44 [(.var 0),(.var 2)])]))]) [.ret (.lit (.bool false))] [],.if_ (.or_ [(.not_ (.call 52 [(.bin .add (.bin .add (.bin .add (.bin .add (.bin .add (.bin .add (.lit (.bytes [65,49,32,70,69,84,67,72,32])) (.idx (.var 3) (.lit (.int 1)))) (.lit (.bytes [32]))) (.call 46 [(.var 0),(.var 1)])) (.lit (.bytes [32]))) (.idx (.var 4) (.lit (.int 1)))) (.lit (.bytes [13,10]))),(.lit (.int 3))])),(.not_ (.call 52 [(.call 47 [(.var 0),(.var 2)]),(.lit (.int 3))]))]) [.ret (.lit (.bool false))] [],.if_ (.or_ [(.not_ (.call 53 [(.call 45 [(.var 0)])])),(.not_ (.call 54 [(.call 48 [(.var 0),(.var 2)])]))]) [.ret (.lit (.bool false))] [],.if_ (.or_ [(.not_ (.call 55 [(.call 49 [(.var 0),(.var 5)])])),(.not_ (.call 56 [(.call 50 [(.var 0),(.var 6)])]))]) [.ret (.lit (.bool false))] [],.ret (.lit (.bool true))]
noncomputable def vf_law : List Str := [Str.ofString "script",Str.ofString "tag",Str.ofString "name",Str.ofString "capitals",Str.ofString "x",Str.ofString "y",Str.ofString "v",Str.ofString "twin",Str.ofString "spans",Str.ofString "pairs",Str.ofString "text",Str.ofString "sent",Str.ofString "command",Str.ofString "middle",Str.ofString "last",Str.ofString "want",Str.ofString "said",Str.ofString "line",Str.ofString "again",Str.ofString "pick",Str.ofString "depth",Str.ofString "road",Str.ofString "stream",Str.ofString "got",Str.ofString "back",Str.ofString "found",Str.ofString "reply",Str.ofString "e",Str.ofString "t"]
noncomputable def cf_law:List CS:=[.if_ (.cmp .lt (.len (.var 0)) (.lit (.int 24))) [.ret (.lit (.bool true))] [],.assign 1 (.bin .add (.mkBytes (.lst [(.idx (.tup [(.lit (.int 45)),(.lit (.int 48)),(.lit (.int 57)),(.lit (.int 65)),(.lit (.int 90)),(.lit (.int 97)),(.lit (.int 122))]) (.bin .mod (.idx (.var 0) (.lit (.int 0))) (.lit (.int 7))))])) (.lit (.bytes [49]))),.assign 2 (.bin .add (.mkBytes (.lst [(.idx (.tup [(.lit (.int 65)),(.lit (.int 90)),(.lit (.int 97)),(.lit (.int 122))]) (.bin .mod (.idx (.var 0) (.lit (.int 1))) (.lit (.int 4))))])) (.lit (.bytes [101,84,99,104]))),.assign 3 (.bin .add (.mkBytes (.lst [(.idx (.tup [(.lit (.int 65)),(.lit (.int 90))]) (.bin .mod (.idx (.var 0) (.lit (.int 1))) (.lit (.int 2))))])) (.lit (.bytes [69,84,67,72]))),.assign 4 (.call 37 [(.idx (.var 0) (.lit (.int 2))),(.idx (.var 0) (.lit (.int 3))),(.idx (.var 0) (.lit (.int 4)))]),.assign 5 (.call 37 [(.idx (.var 0) (.lit (.int 5))),(.idx (.var 0) (.lit (.int 6))),(.idx (.var 0) (.lit (.int 7)))]),.assign 6 (.call 38 [(.idx (.var 0) (.lit (.int 8))),(.var 4),(.var 5)]),.assign 7 (.call 38 [(.idx (.var 0) (.lit (.int 8))),(.var 4),(.var 5)]),.assign 8 (.slc (.lst [(.call 39 [(.idx (.var 0) (.lit (.int 9))),(.idx (.var 0) (.lit (.int 10)))]),(.call 39 [(.idx (.var 0) (.lit (.int 11))),(.idx (.var 0) (.lit (.int 12)))]),(.call 39 [(.idx (.var 0) (.lit (.int 13))),(.idx (.var 0) (.lit (.int 14)))])]) none (some (.bin .add (.lit (.int 1)) (.bin .mod (.idx (.var 0) (.lit (.int 15))) (.lit (.int 3)))))),.assign 9 (.comp (.idx (.var 0) (.lit (.int 0))) (.var 8) none),.assign 10 (.join (.lit (.bytes [44])) (.comp (.idx (.var 0) (.lit (.int 1))) (.var 8) none)),.assign 11 (.call 30 [(.var 9)]),.if_ (.or_ [(.cmp .ne (.var 11) (.var 10)),(.not_ (.typeIs (.var 11) .bytes)),(.cmp .ne (.var 9) (.comp (.idx (.var 0) (.lit (.int 0))) (.var 8) none))]) [.ret (.lit (.bool false))] [],.assign 12 (.tup [(.var 1),(.var 2),(.lst [(.idx (.var 4) (.lit (.int 0))),(.tup [(.lit (.str [115,116,114,105,110,103])),(.var 10)]),(.idx (.var 6) (.lit (.int 0)))])]),.assign 13 (.bin .add (.bin .add (.lit (.bytes [32,34])) (.var 10)) (.lit (.bytes [34,32]))),.assign 11 (.call 27 [(.var 12)]),.if_ (.or_ [(.cmp .ne (.var 11) (.bin .add (.bin .add (.bin .add (.bin .add (.bin .add (.bin .add (.bin .add (.var 1) (.lit (.bytes [32]))) (.var 2)) (.lit (.bytes [32]))) (.idx (.var 4) (.lit (.int 1)))) (.var 13)) (.idx (.var 6) (.lit (.int 1)))) (.lit (.bytes [13,10])))),(.not_ (.typeIs (.var 11) .bytes))]) [.ret (.lit (.bool false))] [],.if_ (.cmp .ne (.var 12) (.tup [(.var 1),(.var 2),(.lst [(.idx (.var 4) (.lit (.int 0))),(.tup [(.lit (.str [115,116,114,105,110,103])),(.var 10)]),(.idx (.var 7) (.lit (.int 0)))])])) [.ret (.lit (.bool false))] [],.assign 14 (.bin .add (.lit (.int 1)) (.bin .mod (.idx (.var 0) (.lit (.int 16))) (.lit (.int 9)))),.assign 15 (.call 40 [(.var 9),(.var 14)]),.assign 16 (.bin .add (.mkBytes (.lst [(.idx (.glob 6) (.bin .mod (.idx (.var 0) (.lit (.int 19))) (.lit (.int 12))))])) (.idx (.tup [(.lit (.bytes [])),(.lit (.bytes [91,122]))]) (.bin .mod (.bin .fdiv (.idx (.var 0) (.lit (.int 19))) (.lit (.int 12))) (.lit (.int 2))))),.assign 17 (.call 42 [(.idx (.var 0) (.lit (.int 17))),(.idx (.var 0) (.lit (.int 18))),(.var 16),(.var 1),(.call 41 [(.idx (.var 0) (.lit (.int 18))),(.var 15),(.var 6)])]),.assign 18 (.call 42 [(.idx (.var 0) (.lit (.int 17))),(.idx (.var 0) (.lit (.int 18))),(.var 16),(.var 1),(.call 41 [(.idx (.var 0) (.lit (.int 18))),(.var 15),(.var 7)])]),.assign 11 (.call 23 [(.idx (.var 17) (.lit (.int 0)))]),.if_ (.or_ [(.cmp .ne (.var 11) (.idx (.var 17) (.lit (.int 1)))),(.not_ (.typeIs (.var 11) .bytes)),(.cmp .ne (.idx (.var 17) (.lit (.int 0))) (.idx (.var 18) (.lit (.int 0))))]) [.ret (.lit (.bool false))] [],.assign 19 (.bin .add (.lit (.int 1)) (.bin .mod (.idx (.var 0) (.lit (.int 20))) (.lit (.int 2)))),.assign 20 (.idx (.var 6) (.lit (.int 3))),.assign 21 (.bin .add (.bin .add (.bin .add (.bin .add (.bin .add (.bin .add (.bin .add (.var 1) (.lit (.bytes [32]))) (.var 2)) (.lit (.bytes [32]))) (.idx (.var 4) (.var 19))) (.var 13)) (.idx (.var 6) (.var 19))) (.lit (.bytes [13,10]))),.assign 22 (.bin .add (.bin .add (.var 21) (.idx (.var 17) (.var 19))) (.lit (.bytes [42,32,120]))),.assign 23 (.call 28 [(.var 22),(.var 20)]),.if_ (.cmp .ne (.var 23) (.tup [(.tup [(.var 1),(.var 3),(.lst [(.idx (.var 4) (.lit (.int 0))),(.tup [(.lit (.str [115,116,114,105,110,103])),(.var 10)]),(.idx (.var 7) (.lit (.int 0)))])]),(.len (.var 21))])) [.ret (.lit (.bool false))] [],.if_ (.or_ [(.not_ (.typeIs (.idx (.var 23) (.lit (.int 1))) .int)),(.not_ (.typeIs (.idx (.idx (.var 23) (.lit (.int 0))) (.lit (.int 1))) .bytes))]) [.ret (.lit (.bool false))] [],.assign 24 (.call 33 [(.idx (.idx (.idx (.idx (.var 23) (.lit (.int 0))) (.lit (.int 2))) (.lit (.int 1))) (.lit (.int 1)))]),.if_ (.cmp .ne (.var 24) (.var 9)) [.ret (.lit (.bool false))] [],.assign 25 (.call 35 [(.var 24),(.var 14)]),.if_ (.or_ [(.cmp .ne (.var 25) (.var 15)),(.not_ (.all_ (.comp (.typeIs (.var 0) .int) (.var 25) none))),(.cmp .ne (.var 24) (.var 9))]) [.ret (.lit (.bool false))] [],.assign 26 (.call 26 [(.slc (.var 22) (some (.idx (.var 23) (.lit (.int 1)))) none),(.var 20)]),.if_ (.or_ [(.cmp .ne (.var 26) (.tup [(.idx (.var 18) (.lit (.int 0))),(.len (.idx (.var 17) (.var 19)))])),(.not_ (.typeIs (.idx (.var 26) (.lit (.int 1))) .int))]) [.ret (.lit (.bool false))] [],.if_ (.cmp .ne (.call 21 [(.bin .add (.bin .add (.lit (.bytes [40,55,32])) (.idx (.var 6) (.var 19))) (.lit (.bytes [41]))),(.lit (.int 3)),(.var 20)]) (.tup [(.idx (.var 7) (.lit (.int 0))),(.bin .add (.lit (.int 3)) (.len (.idx (.var 6) (.var 19))))])) [.ret (.lit (.bool false))] [],.if_ (.cmp .isNot (.call 21 [(.bin .add (.lit (.bytes [40,55,32])) (.slc (.idx (.var 6) (.var 19)) none (some (.bin .mod (.idx (.var 0) (.lit (.int 21))) (.len (.idx (.var 6) (.var 19))))))),(.lit (.int 3)),(.var 20)]) (.lit .none)) [.ret (.lit (.bool false))] [],.if_ (.cmp .isNot (.call 28 [(.slc (.var 21) none (some (.bin .mod (.idx (.var 0) (.lit (.int 21))) (.len (.var 21))))),(.var 20)]) (.lit .none)) [.ret (.lit (.bool false))] [],.if_ (.cmp .isNot (.call 26 [(.slc (.idx (.var 17) (.var 19)) none (some (.bin .mod (.idx (.var 0) (.lit (.int 22))) (.len (.idx (.var 17) (.var 19)))))),(.var 20)]) (.lit .none)) [.ret (.lit (.bool false))] [],.if_ (.cmp .gt (.var 20) (.lit (.int 0))) [.if_ (.not_ (.call 52 [(.var 21),(.bin .sub (.var 20) (.lit (.int 1)))])) [.ret (.lit (.bool false))] []] [],.assign 27 (.mkBytes (.lst [(.idx (.glob 3) (.bin .mod (.idx (.var 0) (.lit (.int 22))) (.lit (.int 15))))])),.assign 28 (.mkBytes (.lst [(.idx (.glob 5) (.bin .mod (.idx (.var 0) (.lit (.int 22))) (.lit (.int 9))))])),.if_ (.not_ (.call 57 [(.idx (.var 0) (.lit (.int 23))),(.var 27),(.var 28),(.var 4),(.var 6),(.var 9),(.var 10)])) [.ret (.lit (.bool false))] [],.ret (.lit (.bool true))]
noncomputable def intO (v:PV):Option Int:=@PV.casesOn (fun _=>Option Int) v none (fun _=>none) some (fun _=>none) (fun _=>none) (fun _=>none) (fun _=>none) (fun _=>none) none
theorem intO_k {v:PV} {n:Int} (h:intO v=some n):v=.int n:=@PV.casesOn (fun v=>intO v=some n→v=.int n) v (fun h=>nomatch h) (fun _ h=>nomatch h) (fun i h=>congrArg PV.int (Option.some.inj h)) (fun _ h=>nomatch h) (fun _ h=>nomatch h) (fun _ h=>nomatch h) (fun _ h=>nomatch h) (fun _ h=>nomatch h) (fun h=>nomatch h) h
noncomputable def two? (l:List PV):Option (Int × Int):=match l with
 | [a,b]=>(intO a).bind fun x=>(intO b).map fun y=>(x,y)
 | _=>none
noncomputable def pairOf (v:PV):Option (Int × Int):=@PV.casesOn (fun _=>Option (Int × Int)) v none (fun _=>none) (fun _=>none) (fun _=>none) (fun _=>none) (fun _=>none) two? (fun _=>none) none
theorem two_k {l:List PV} {q:Int × Int} (h:two? l=some q):l=[.int q.1,.int q.2]:=by
 match l,h with
 | [a,b],h =>
  have h:(intO a).bind (fun x=>(intO b).map fun y=>(x,y))=some q:=h
  cases ha:intO a with
  | none=>rw [ha] at h; cases h
  | some x =>
   cases hb:intO b with
   | none=>rw [ha,hb] at h; cases h
   | some y=>rw [ha,hb] at h; cases h; rw [intO_k ha,intO_k hb]
theorem pairOf_some {v:PV} {q:Int × Int} (h:pairOf v=some q):v=.tuple [.int q.1,.int q.2] :=
 @PV.casesOn (fun v=>pairOf v=some q→v=.tuple [.int q.1,.int q.2]) v (fun h=>nomatch h) (fun _ h=>nomatch h) (fun _ h=>nomatch h) (fun _ h=>nomatch h) (fun _ h=>nomatch h) (fun _ h=>nomatch h) (fun l h=>congrArg PV.tuple (two_k h)) (fun _ h=>nomatch h) (fun h=>nomatch h) h
noncomputable def pairsOf:List PV→Option (List (Int × Int))
 | []=>some []
 | v::r=>match pairOf v,pairsOf r with
  | some p,some ps=>some (p::ps)
  | _,_=>none
noncomputable def endOf (last k:Int):Int:=if k=0 then last else k
noncomputable def inSpan (last n:Int) (p:Int × Int):Bool:=decide (min (endOf last p.1) (endOf last p.2)≤n) && decide (n≤max (endOf last p.1) (endOf last p.2))
noncomputable def memb (ps:List (Int × Int)) (last:Int):List Int:=((List.range last.toNat).map fun (n:Nat)=>(n:Int)+1).filter fun n=>ps.any (inSpan last n)
noncomputable def nf_law_members (args:List PV):Res PV:=match args with
 | [x,y]=>onL x fun l=>onI y fun last=>match pairsOf l with
  | some ps=>if l.length≤3∧1≤last∧last≤9 then .ok (.list ((memb ps last).map PV.int)) else .stuck
  | none=>.stuck
 | _=>.stuck
noncomputable def fnames : List Str := [Str.ofString "_need",Str.ofString "_is_digit",Str.ofString "_is_letter",Str.ofString "_is_tag_char",Str.ofString "_is_atom_char",Str.ofString "_all_digits",Str.ofString "_digits_value",Str.ofString "_decimal",Str.ofString "_upper",Str.ofString "_is_tag",Str.ofString "_is_name",Str.ofString "_read_run",Str.ofString "_read_crlf",Str.ofString "_is_atom_text",Str.ofString "_quotable",Str.ofString "_quote",Str.ofString "write_value",Str.ofString "_read_list",Str.ofString "_read_quoted",Str.ofString "_read_literal",Str.ofString "_read_word",Str.ofString "read_value",Str.ofString "_check_text",Str.ofString "write_line",Str.ofString "_read_text",Str.ofString "_status_word",Str.ofString "read_line",Str.ofString "write_command",Str.ofString "read_command",Str.ofString "_number_text",Str.ofString "write_set",Str.ofString "_split_commas",Str.ofString "_read_number",Str.ofString "read_set",Str.ofString "_sort_spans",Str.ofString "members",Str.ofString "_law_body",Str.ofString "_law_leaf",Str.ofString "_law_value",Str.ofString "_law_pair",Str.ofString "_law_members",Str.ofString "_law_items",Str.ofString "_law_line",Str.ofString "_law_bad_value",Str.ofString "_law_bad_command",Str.ofString "_law_bad_line",Str.ofString "_law_bad_piece",Str.ofString "_law_bad_head",Str.ofString "_law_bad_wire",Str.ofString "_law_bad_pairs",Str.ofString "_law_bad_text",Str.ofString "_law_unsent",Str.ofString "_law_unread",Str.ofString "_law_line_unsent",Str.ofString "_law_line_unread",Str.ofString "_law_set_unsent",Str.ofString "_law_set_unread",Str.ofString "_law_refusals",Str.ofString "law"]
noncomputable def gnames : List Str := [Str.ofString "_LIMIT",Str.ofString "_STATUS",Str.ofString "_law_good",Str.ofString "_law_bad",Str.ofString "_law_char",Str.ofString "_law_odd",Str.ofString "_law_said"]
noncomputable def tabs:List CF:=[
 .code vf_need 1 cf_need,
 .code vf_is_digit 1 cf_is_digit,
 .code vf_is_letter 1 cf_is_letter,
 .code vf_is_tag_char 1 cf_is_tag_char,
 .code vf_is_atom_char 1 cf_is_atom_char,
 .code vf_all_digits 1 cf_all_digits,
 .code vf_digits_value 1 cf_digits_value,
 .native nf_decimal,
 .code vf_upper 1 cf_upper,
 .code vf_is_tag 1 cf_is_tag,
 .code vf_is_name 1 cf_is_name,
 .code vf_read_run 3 cf_read_run,
 .code vf_read_crlf 2 cf_read_crlf,
 .code vf_is_atom_text 1 cf_is_atom_text,
 .code vf_quotable 1 cf_quotable,
 .code vf_quote 1 cf_quote,
 .code vf_write_value 1 cf_write_value,
 .code vf_read_list 3 cf_read_list,
 .code vf_read_quoted 2 cf_read_quoted,
 .code vf_read_literal 2 cf_read_literal,
 .code vf_read_word 2 cf_read_word,
 .code vf_read_value 3 cf_read_value,
 .code vf_check_text 1 cf_check_text,
 .code vf_write_line 1 cf_write_line,
 .code vf_read_text 2 cf_read_text,
 .code vf_status_word 2 cf_status_word,
 .code vf_read_line 2 cf_read_line,
 .code vf_write_command 1 cf_write_command,
 .code vf_read_command 2 cf_read_command,
 .code vf_number_text 1 cf_number_text,
 .code vf_write_set 1 cf_write_set,
 .code vf_split_commas 1 cf_split_commas,
 .code vf_read_number 1 cf_read_number,
 .code vf_read_set 1 cf_read_set,
 .code vf_sort_spans 1 cf_sort_spans,
 .code vf_members 2 cf_members,
 .code vf_law_body 2 cf_law_body,
 .code vf_law_leaf 3 cf_law_leaf,
 .code vf_law_value 3 cf_law_value,
 .code vf_law_pair 2 cf_law_pair,
 .native nf_law_members,
 .code vf_law_items 3 cf_law_items,
 .code vf_law_line 5 cf_law_line,
 .code vf_law_bad_value 2 cf_law_bad_value,
 .code vf_law_bad_command 2 cf_law_bad_command,
 .code vf_law_bad_line 1 cf_law_bad_line,
 .code vf_law_bad_piece 2 cf_law_bad_piece,
 .code vf_law_bad_head 2 cf_law_bad_head,
 .code vf_law_bad_wire 2 cf_law_bad_wire,
 .code vf_law_bad_pairs 2 cf_law_bad_pairs,
 .code vf_law_bad_text 2 cf_law_bad_text,
 .code vf_law_unsent 1 cf_law_unsent,
 .code vf_law_unread 2 cf_law_unread,
 .code vf_law_line_unsent 1 cf_law_line_unsent,
 .code vf_law_line_unread 1 cf_law_line_unread,
 .code vf_law_set_unsent 1 cf_law_set_unsent,
 .code vf_law_set_unread 1 cf_law_set_unread,
 .code vf_law_refusals 7 cf_law_refusals,
 .code vf_law 1 cf_law]
noncomputable def T (f:Nat):Option CF:=tabs[f]?
noncomputable def gvals:List PV:=[.int 4294967296,.tuple [.bytes [79,75],.bytes [78,79],.bytes [66,65,68],.bytes [66,89,69]],.tuple [.int 33,.int 35,.int 36,.int 38,.int 39,.int 43,.int 44,.int 47,.int 58,.int 78,.int 91,.int 94,.int 122,.int 124,.int 125,.int 126],.tuple [.int 0,.int 10,.int 13,.int 31,.int 34,.int 37,.int 40,.int 41,.int 42,.int 92,.int 93,.int 123,.int 127,.int 128,.int 255],.tuple [.int 34,.int 92,.int 1,.int 9,.int 11,.int 12,.int 14,.int 127,.int 10,.int 13,.int 128,.int 255],.tuple [.int 43,.int 44,.int 46,.int 47,.int 58,.int 64,.int 91,.int 96,.int 123],.tuple [.int 1,.int 9,.int 11,.int 12,.int 14,.int 32,.int 90,.int 92,.int 93,.int 42,.int 43,.int 255]]
noncomputable def G (i:Nat):Res PV:=match gvals[i]? with
 | some v=>.ok v
 | none=>.stuck
theorem lib:Lib T G:=⟨rfl,rfl,rfl,rfl,rfl,rfl,rfl,rfl,rfl,rfl,rfl,rfl,rfl,rfl,rfl,rfl,rfl,rfl,rfl,rfl,rfl,rfl,rfl,rfl,rfl,rfl,rfl,rfl,rfl,rfl,rfl⟩
end L1
end Mine
namespace Mine
open PySem
noncomputable def bInt (b:Array UInt8):List Int:=b.toList.map fun c=>(c.toNat:Int)
mutual
noncomputable def Rep (H:Heap):PV→Value→Prop
 | .none,v=>v=.none
 | .bool b,v=>v=.bool b
 | .int i,v=>∃ t,v=.int i t
 | .flt x,v=>∃ t,v=.float x t∧t≠0
 | .str l,v=>∃ s t,v=.str s t∧s.cps.toList=l
 | .bytes l,v=>∃ b t,v=.bytes b t∧bInt b=l∧l.length≤1048576
 | .tuple l,v=>∃ a ws,v=.ref a∧H.IsTuple a ws.toArray∧l.length≤1048576∧RepL H l ws
 | .list l,v=>∃ a ws,v=.ref a∧H.IsList a ws.toArray∧l.length≤1048576∧RepL H l ws
 | .dict0,_=>False
noncomputable def RepL (H:Heap):List PV→List Value→Prop
 | [],ws=>ws=[]
 | p::r,ws=>∃ w t,ws=w::t∧Rep H p w∧RepL H r t
end
noncomputable def Sub (H H':Heap):Prop:=∀ b o,H.get? b=some o→(∀ vs,o.data≠.fields vs)→H'.get? b=some o
theorem Sub.of {H H':Heap} (h:H.StaysIn H'):Sub H H':=fun b o e _=>h b o e
mutual
theorem Rep.sub {H H':Heap} (h:Sub H H'):∀ {p:PV} {v:Value},Rep H p v→Rep H' p v
 | .none,_,x=>by simpa [Rep] using x
 | .bool _,_,x=>by simpa [Rep] using x
 | .int _,_,x=>by simpa [Rep] using x
 | .flt _,_,x=>by simpa [Rep] using x
 | .str _,_,x=>by simpa [Rep] using x
 | .bytes _,_,x=>by simpa [Rep] using x
 | .tuple l,v,x=>by
  rw [Rep] at x ⊢
  obtain ⟨a,ws,e,⟨o,ho,hc,n,hd⟩,hl,hr⟩:=x
  exact ⟨a,ws,e,⟨o,h _ _ ho (fun vs q=>by rw [hd] at q; cases q),hc,n,hd⟩,hl,RepL.sub h hr⟩
 | .list l,v,x=>by
  rw [Rep] at x ⊢
  obtain ⟨a,ws,e,⟨o,ho,hc,n,hd⟩,hl,hr⟩:=x
  exact ⟨a,ws,e,⟨o,h _ _ ho (fun vs q=>by rw [hd] at q; cases q),hc,n,hd⟩,hl,RepL.sub h hr⟩
 | .dict0,v,x=>by rw [Rep] at x; exact x.elim
theorem RepL.sub {H H':Heap} (h:Sub H H'):∀ {l:List PV} {ws:List Value},RepL H l ws→RepL H' l ws
 | [],_,x=>by simpa [RepL] using x
 | p::r,ws,x=>by
  rw [RepL] at x ⊢
  obtain ⟨w,t,e,hp,hr⟩:=x
  exact ⟨w,t,e,Rep.sub h hp,RepL.sub h hr⟩
end
theorem Rep.mono {H H':Heap} (h:H.StaysIn H') {p:PV} {v:Value} (x:Rep H p v):Rep H' p v:=x.sub (.of h)
theorem RepL.mono {H H':Heap} (h:H.StaysIn H') {l:List PV} {ws:List Value} (x:RepL H l ws):RepL H' l ws:=x.sub (.of h)
theorem RepL.length {H:Heap}:∀ {l:List PV} {ws:List Value},RepL H l ws→ws.length=l.length
 | [],_,x=>by rw [RepL] at x; subst x; rfl
 | p::r,ws,x=>by
  rw [RepL] at x
  obtain ⟨w,t,e,_,hr⟩:=x
  subst e; simp [RepL.length hr]
theorem RepL.get {H:Heap}:∀ {l:List PV} {ws:List Value} {i:Nat} {p:PV},RepL H l ws→l[i]?=some p→∃ w,ws[i]?=some w∧Rep H p w
 | [],_,_,_,_,e=>by simp at e
 | p::r,ws,i,q,x,e=>by
  rw [RepL] at x
  obtain ⟨w,t,rfl,hp,hr⟩:=x
  cases i with
  | zero=>simp at e; subst e; exact ⟨w,by simp,hp⟩
  | succ i=>simp at e; obtain ⟨w',h1,h2⟩:=RepL.get hr e; exact ⟨w',by simpa using h1,h2⟩
theorem RepL.append {H:Heap}:∀ {l m:List PV} {ws us:List Value},RepL H l ws→RepL H m us→RepL H (l++m) (ws++us)
 | [],_,_,_,x,y=>by rw [RepL] at x; subst x; simpa using y
 | p::r,m,ws,us,x,y=>by
  rw [RepL] at x
  obtain ⟨w,t,rfl,hp,hr⟩:=x
  show RepL H (p::(r++m)) (w::(t++us))
  rw [RepL]
  exact ⟨w,_,rfl,hp,RepL.append hr y⟩
theorem RepL.one {H:Heap} {p:PV} {v:Value} (x:Rep H p v):RepL H [p] [v]:=by
 rw [RepL]; exact ⟨v,[],rfl,x,by rw [RepL]⟩
theorem RepL.drop {H:Heap}:∀ {l:List PV} {ws:List Value} (n:Nat),RepL H l ws→RepL H (l.drop n) (ws.drop n)
 | l,ws,0,x=>by simpa using x
 | [],ws,n+1,x=>by rw [RepL] at x; subst x; simp [RepL]
 | p::r,ws,n+1,x=>by
  rw [RepL] at x
  obtain ⟨w,t,rfl,_,hr⟩:=x
  simpa using RepL.drop n hr
theorem RepL.take {H:Heap}:∀ {l:List PV} {ws:List Value} (n:Nat),RepL H l ws→RepL H (l.take n) (ws.take n)
 | l,ws,0,x=>by simp [RepL]
 | [],ws,n+1,x=>by rw [RepL] at x; subst x; simp [RepL]
 | p::r,ws,n+1,x=>by
  rw [RepL] at x
  obtain ⟨w,t,rfl,hp,hr⟩:=x
  show RepL H (p::r.take n) (w::t.take n)
  rw [RepL]
  exact ⟨w,_,rfl,hp,RepL.take n hr⟩
noncomputable def only (h:Heap) (P:Addr→Bool):Heap:=⟨h.objs.mapIdx fun i o=>if P i then o else { o with data:=.freed },h.life⟩
theorem only_get (h:Heap) (P:Addr→Bool) (b:Addr):(only h P).get? b=if P b then h.get? b else none:=by
 obtain ⟨objs,lf⟩:=h
 unfold only Heap.get?
 simp only [Array.getElem?_mapIdx]
 cases hx:objs[b]? with
 | none=>simp
 | some o =>
  obtain ⟨c,d,dt,sl⟩:=o
  cases hp:P b <;> simp
theorem add_exists {H h:Heap} (hs:H.StaysIn h) {a:Addr} {o:Obj} (ho:h.get? a=some o) :
  ∃ H',H.StaysIn H'∧H'.StaysIn h∧H'.get? a=some o∧∀ b,b≠a→H'.get? b=H.get? b:=by
 refine ⟨only h (fun b=>(H.get? b).isSome || b == a),fun b o' e=>?_,fun b o' e=>?_,?_,fun b hb=>?_⟩
 ·rw [only_get,e]; simpa using hs b o' e
 ·rw [only_get] at e; split at e
  ·exact e
  ·cases e
 ·rw [only_get]; simpa using ho
 ·rw [only_get]
  cases e:H.get? b with
  | none=>simp [hb]
  | some o'=>simpa using hs b o' e
theorem stays_refl (h:Heap):h.StaysIn h:=fun _ _ e=>e
theorem nc {p:Prop} (h:(p→False)→False):p:=Classical.byContradiction h
theorem stays_trans {h₁ h₂ h₃:Heap} (x:h₁.StaysIn h₂) (y:h₂.StaysIn h₃):h₁.StaysIn h₃:=fun b o e=>y b o (x b o e)
theorem stays_push (h:Heap) (o:Obj):h.StaysIn (h.push o):=fun _ _ e=>Heap.get?_push_of_some o e
theorem none_of_stays {h₁ h₂:Heap} (x:h₁.StaysIn h₂) {b:Addr} (e:h₂.get? b=none):h₁.get? b=none:=by
 cases q:h₁.get? b with
 | none=>rfl
 | some o=>have:=x b o q; rw [e] at this; cases this
theorem none_of_size {h:Heap} {b:Addr} (e:h.objs.size≤b):h.get? b=none:=by
 cases q:h.get? b with
 | none=>rfl
 | some o=>exact absurd (Heap.lt_size q) (Nat.not_lt.mpr e)
noncomputable def NF (o:Obj):Prop:=∀ vs,o.data≠.fields vs
structure Ext (H:Heap) (s:Shared) (H':Heap) (s':Shared):Prop where
 grow:H.StaysIn H'
 old:∀ b o,s.heap.get? b=some o→NF o→H.get? b=none→H'.get? b=none
 stays:H'.StaysIn s'.heap
 ups:s.heap.UpToSlots s'.heap
 same:s'.os=s.os∧s'.gens=s.gens
theorem Ext.refl {H:Heap} {s s':Shared} (x:H.StaysIn s.heap) (k:s'.heap=s.heap∧s'.os=s.os∧s'.gens=s.gens:=by exact ⟨rfl,rfl,rfl⟩):Ext H s H s' :=
 ⟨stays_refl _,fun _ _ _ _ e=>e,by rw [k.1]; exact x,by rw [k.1]; exact .refl _,k.2⟩
theorem Ext.trans {H H' H'':Heap} {s s' s'':Shared} (x:Ext H s H' s') (y:Ext H' s' H'' s''):Ext H s H'' s'' :=
 ⟨stays_trans x.grow y.grow,fun b o hb n e=>let ⟨_,q⟩:=x.ups b o hb n; y.old b _ q n (x.old b o hb n e),y.stays,x.ups.trans y.ups,y.same.1.trans x.same.1,y.same.2.trans x.same.2⟩
theorem Ext.push {H:Heap} {s s':Shared} (x:H.StaysIn s.heap) (o:Obj) (k:s'.heap=s.heap.push o∧s'.os=s.os∧s'.gens=s.gens:=by exact ⟨rfl,rfl,rfl⟩):Ext H s H s' :=
 ⟨stays_refl _,fun _ _ _ _ e=>e,by rw [k.1]; exact stays_trans x (stays_push _ _),by rw [k.1]; exact .of_keeps (stays_push _ _),k.2⟩
theorem Ext.alloc {H:Heap} {s:Shared} (x:H.StaysIn s.heap) (o:Obj) (hf:o.isFreed=false):∃ H',(∀ s':Shared,(s'.heap=s.heap.push o∧s'.os=s.os∧s'.gens=s.gens)→Ext H s H' s')∧H'.get? s.heap.objs.size=some o:=by
 obtain ⟨H',h1,h2,h3,h4⟩:=add_exists (stays_trans x (stays_push s.heap o)) (Heap.get?_push_size s.heap hf)
 refine ⟨H',fun s' k=>⟨h1,fun b o' hb _ e=>?_,by rw [k.1]; exact h2,by rw [k.1]; exact .of_keeps (stays_push _ _),k.2⟩,h3⟩
 rw [h4 b (Nat.ne_of_lt (Heap.lt_size hb))]; exact e
theorem Ext.keeps {H:Heap} {s s':Shared} (x:H.StaysIn s.heap) (k:s.heap.StaysIn s'.heap) (q:s'.os=s.os∧s'.gens=s.gens:=by exact ⟨rfl,rfl⟩):Ext H s H s' :=
 ⟨stays_refl _,fun _ _ _ _ e=>e,stays_trans x k,.of_keeps k,q⟩
structure ExtS (N₀:Nat) (H:Heap) (s:Shared) (H':Heap) (s':Shared):Prop where
 grow:H.StaysIn H'
 old:∀ b o,b<N₀→s.heap.get? b=some o→NF o→H.get? b=none→H'.get? b=none
 stays:H'.StaysIn s'.heap
 ups:∀ b o,b<N₀→s.heap.get? b=some o→NF o→∃ sl,s'.heap.get? b=some { o with slots:=sl }
 same:s'.os=s.os∧s'.gens=s.gens
theorem ExtS.refl {N₀:Nat} {H:Heap} {s s':Shared} (x:H.StaysIn s.heap) (k:s'.heap=s.heap∧s'.os=s.os∧s'.gens=s.gens:=by exact ⟨rfl,rfl,rfl⟩):ExtS N₀ H s H s' :=
 ⟨stays_refl _,fun _ _ _ _ _ e=>e,by rw [k.1]; exact x,fun _ o _ e _=>⟨o.slots,by rw [k.1]; exact e⟩,k.2⟩
theorem ExtS.trans {N₀:Nat} {H H' H'':Heap} {s s' s'':Shared} (x:ExtS N₀ H s H' s') (y:ExtS N₀ H' s' H'' s''):ExtS N₀ H s H'' s'' :=
 ⟨stays_trans x.grow y.grow,fun b o hb q n e=>let ⟨_,q'⟩:=x.ups b o hb q n; y.old b _ hb q' n (x.old b o hb q n e),y.stays,
  fun b o hb e hn=>let ⟨_,e₁⟩:=x.ups b o hb e hn; let ⟨sl,e₂⟩:=y.ups b _ hb e₁ hn; ⟨sl,e₂⟩,y.same.1.trans x.same.1,y.same.2.trans x.same.2⟩
theorem Ext.toS {N₀:Nat} {H H':Heap} {s s':Shared} (x:Ext H s H' s'):ExtS N₀ H s H' s' :=
 ⟨x.grow,fun b o _ q n e=>x.old b o q n e,x.stays,fun b o _ e hn=>x.ups b o e hn,x.same⟩
noncomputable abbrev VE : Value := .type "ValueError"
noncomputable def Fresh (H:Heap) (l:List Env) (e:Addr) (h:Heap):Prop :=
 H.StaysIn h∧H.get? e=none∧h.FunFrames H l∧∃ oe vs a0,h.get? e=some oe∧oe.cls=VE∧oe.data=.fields vs∧vs[1]?=some .none∧vs[0]?=some a0
noncomputable def Flown (H:Heap) (l:List Env) (e:Addr) (h:Heap):Prop :=
 (∃ a0,Heap.FlyingW H l e VE a0 h)∨(∃ a0 L env r,l=env::r∧env.frame=some L∧Heap.HeldW H l e VE a0 L h)∨Fresh H l e h
theorem funFrames_base' {H H' h:Heap}:∀ {l:List Env},h.FunFrames H l→(∀ b o,h.get? b=some o→(∀ vs,o.data≠.fields vs)→H.get? b=none→H'.get? b=none)→h.FunFrames H' l
 | [],_,_=>trivial
 | _::_,⟨hk,⟨L,o,hf,hn,ho,hd⟩,hr⟩,k=>⟨hk,⟨L,o,hf,k L o ho hd hn,ho,hd⟩,funFrames_base' hr k⟩
theorem Flown.hide {H h:Heap} {l:List Env} {e:Addr} (I:Addr) (hst:H.StaysIn h) (x:Flown H l e h):Flown (H.hide I) l e h:=by
 have hs:(H.hide I).StaysIn h:=fun b o q=>hst b o (Heap.of_hide q)
 have hn:∀ b,H.get? b=none→(H.hide I).get? b=none:=fun b q=>none_of_stays (fun c o'=>Heap.of_hide) q
 have hf:h.FunFrames H l→h.FunFrames (H.hide I) l:=fun x=>funFrames_base' x fun b _ _ _ z=>hn b z
 rcases x with ⟨a0,x1,x2,x3,oe,vs,T,oT,ts,y1,y2,y3,y4,y5,y6⟩ | ⟨a0,L,env,r,y0,yL,x1,x2,x3,oe,vs,T,oT,ts,y1,y2,y3,y4,y5,y6⟩ | ⟨x1,x2,x3,y⟩
 ·exact .inl ⟨a0,hs,hn _ x2,hf x3,oe,vs,T,oT,ts,y1,y2,y3,y4,hn _ y5,y6⟩
 ·exact .inr (.inl ⟨a0,L,env,r,y0,yL,hs,hn _ x2,hf x3,oe,vs,T,oT,ts,y1,y2,y3,y4,hn _ y5,y6⟩)
 ·exact .inr (.inr ⟨hs,hn _ x2,hf x3,y⟩)
theorem frames_ext {H H':Heap} {s s':Shared} {l:List Env} (x:s.heap.FunFrames H l) (e:Ext H s H' s'):s'.heap.FunFrames H' l:=by
 have y:s.heap.FunFrames H' l:=funFrames_base' x fun b o ho hd hn=>e.old b o ho hd hn
 exact y.of_keeps fun b o ho hn=>let ⟨sl,q⟩:=e.ups b o ho hn; ⟨_,q,rfl⟩
end Mine
namespace Mine
open PySem
structure Ct where
 Base:Heap
 mg:Str→Option Value
 mb:Str→Option Value
 fs:List Str
 gs:List Str
 GV:Nat→Res PV
noncomputable def words : List Str := ["len","isinstance","bytes","type","int","list","tuple","range","ValueError","all","sorted","any"]
structure Ct.Ok (Γ:Ct):Prop where
 g:Γ.Base.Ns mainGlobals Γ.mg
 b:Γ.Base.Ns builtinsNs Γ.mb
 nolimit:Γ.Base.NoLimit
 statics:NoneBooked Γ.Base
 word:∀ x∈words,Γ.mg x=none∧Γ.mb x=bootBuiltins x
 const:∀ i x p,Γ.gs[i]?=some x→Γ.GV i=.ok p→∃ v,Γ.mg x=some v∧Rep Γ.Base p v
 constE:∀ i,Γ.GV i≠.exc
structure Bl where
 env:Env
 fenv:Env
 outer:List Env
 A:Around
 N₀:Nat
 vs:List Str
structure Bl.Ok (B:Bl) (d:Nat):Prop where
 kind:B.env.scope.kind=.function
 glob:B.env.globals=mainGlobals
 bui:B.env.builtins=builtinsNs
 fr:B.env.frame=B.fenv.frame
 stack:B.A.frames=some (B.fenv::B.outer)
 hand:B.A.handled=none
 depth:B.A.depth+d≤recursionLimit
 units:B.A.units+8 * d+100≤cLine
 nodup:B.vs.Nodup
 low:∀ v∈B.outer,∀ L,v.frame=some L→L<B.N₀
noncomputable def OwnAt (h : Heap) (a : Addr) (ws : List Value) : Prop := ∃ o n,h.get? a = some o ∧ o.cls = .type "list" ∧ o.dict = none ∧ o.data = .seq ws.toArray n
theorem OwnAt.list {h:Heap} {a:Addr} {ws:List Value} (x:OwnAt h a ws):h.IsList a ws.toArray:=let ⟨o,n,e,c,_,d⟩:=x; ⟨o,e,c,n,d⟩
theorem OwnAt.ups {h h':Heap} {a:Addr} {ws:List Value} (x:OwnAt h a ws) (u:h.UpToSlots h'):OwnAt h' a ws:=by
 obtain ⟨o,n,e,c,dd,d⟩:=x
 obtain ⟨sl,q⟩:=u a o e fun vs q=>by rw [d] at q; cases q
 exact ⟨_,n,q,c,dd,d⟩
noncomputable def SlotOk (H h:Heap) (N₀:Nat) (m:Str→Option Value) (oa:Nat→Addr) (i:Nat) (x:Str):Slot→Prop
 | .unset=>True
 | .val p=>∃ v,m x=some v∧Rep H p v
 | .own l=>l.length≤lim∧∃ ws,m x=some (.ref (oa i))∧OwnAt h (oa i) ws∧RepL H l ws∧H.get? (oa i)=none∧N₀≤oa i
structure Loc (B:Bl) (H:Heap) (ρ:List Slot) (s:Shared) (m:Str→Option Value) (oa:Nat→Addr):Prop where
 ns:s.heap.Ns B.env.locals m
 out:H.get? B.env.locals=none
 above:B.N₀≤B.env.locals
 slots:∀ i x,B.vs[i]?=some x→SlotOk H s.heap B.N₀ m oa i x (getS ρ i)
 apart:∀ i j l l',i≠j→getS ρ i=.own l→getS ρ j=.own l'→B.vs[i]?.isSome→B.vs[j]?.isSome→oa i≠oa j
structure St (Γ:Ct) (B:Bl) (H:Heap) (ρ:List Slot) (s:Shared):Prop where
 base:Γ.Base.StaysIn H
 stays:H.StaysIn s.heap
 frames:s.heap.FunFrames H (B.fenv::B.outer)
 loc:∃ m oa,Loc B H ρ s m oa
theorem St.ext {Γ:Ct} {B:Bl} {H H':Heap} {ρ:List Slot} {s s':Shared} (x:St Γ B H ρ s) (e:Ext H s H' s'):St Γ B H' ρ s':=by
 obtain ⟨m,oa,hn,hl,hN,hs,hd⟩:=x.loc
 refine ⟨stays_trans x.base e.grow,e.stays,frames_ext x.frames e,m,oa,e.ups.ns hn,?_,hN,fun i y hy=>?_,hd⟩
 ·obtain ⟨o,_,_,ho,hdd,_⟩:=hn
  exact e.old _ o ho (fun vs q=>by rw [hdd] at q; cases q) hl
 have:=hs i y hy
 revert this
 cases getS ρ i with
 | unset=>exact fun h=>h
 | val p=>exact fun ⟨v,h1,h2⟩=>⟨v,h1,h2.mono e.grow⟩
 | own l =>
  intro ⟨hz,ws,h1,h2,h3,h4,h5⟩
  obtain ⟨o,n,ho,_,_,hdd⟩:=id h2
  exact ⟨hz,ws,h1,h2.ups e.ups,h3.mono e.grow,e.old _ o ho (fun vs q=>by rw [hdd] at q; cases q) h4,h5⟩
noncomputable def Post {α β:Type} (R:Heap→α→β→Prop) (l:List Env) (H:Heap) (s:Shared) (r:Res α) (Q:β→Shared→Prop) (E:Value→Shared→Prop):Prop :=
 match r with
 | .ok p=>∀ v s' H',Ext H s H' s'→R H' p v→Q v s'
 | .exc=>∀ e s' H',Ext H s H' s'→Flown H' l e s'.heap→E (.ref e) s'
 | .stuck=>False
theorem Post.ext {α β:Type} {R:Heap→α→β→Prop} {l:List Env} {H H':Heap} {s s':Shared} {r:Res α} {Q:β→Shared→Prop} {E:Value→Shared→Prop}
  (x:Post R l H s r Q E) (e:Ext H s H' s'):Post R l H' s' r Q E:=by
 cases r with
 | ok p=>exact fun v s' H'' e' r=>x v s' H'' (e.trans e') r
 | exc=>exact fun v s' H'' e' r=>x v s' H'' (e.trans e') r
 | stuck=>exact x
theorem Post.bind {α β α' β':Type} {R:Heap→α→β→Prop} {R':Heap→α'→β'→Prop} {l:List Env} {H:Heap} {s:Shared} {r:Res α} {k:α→Res α'}
  {Q:β→Shared→Prop} {Q':β'→Shared→Prop} {E:Value→Shared→Prop} (x:Post R' l H s (r.bind k) Q' E)
  (hq:∀ p v s' H',r=.ok p→Ext H s H' s'→R H' p v→Post R' l H' s' (k p) Q' E→Q v s'):Post R l H s r Q E:=by
 cases r with
 | ok p=>exact fun v s' H' e rr=>hq p v s' H' rfl e rr (Post.ext x e)
 | exc=>exact x
 | stuck=>exact x
theorem Post.ok {α β:Type} {R:Heap→α→β→Prop} {l:List Env} {H:Heap} {s:Shared} {p:α} {Q:β→Shared→Prop} {E:Value→Shared→Prop}
  (x:Post R l H s (.ok p) Q E) {v:β} {s':Shared} {H':Heap} (e:Ext H s H' s') (r:R H' p v):Q v s':=x v s' H' e r
section
variable (prog:Program) (w:World) (Γ:Ct) (B:Bl)
noncomputable def SE (e:Expr) (f:List Slot→Res PV):Prop :=
 ∀ H ρ s (Q E:Value→Shared→Prop),St Γ B H ρ s→Post Rep (B.fenv::B.outer) H s (f ρ) Q E→wpAny (model prog w) B.A (eval e B.env) Q E s
noncomputable def SB (e:Expr) (f:List Slot→Res Bool):Prop :=
 ∀ H ρ s (Q:Bool→Shared→Prop) (E:Value→Shared→Prop),St Γ B H ρ s→Post (fun _ a b=>a=b) (B.fenv::B.outer) H s (f ρ) Q E →
  wpAny (model prog w) B.A (isTrue e B.env (eval e B.env)) Q E s
noncomputable def SO (t:Sem Value) (H:Heap) (s:Shared) (r:Res PV):Prop :=
 ∀ (Q E:Value→Shared→Prop),Post Rep (B.fenv::B.outer) H s r Q E→wpAny (model prog w) B.A t Q E s
end
section
variable {prog:Program} {w:World} {Γ:Ct} {B:Bl}
theorem se_lit {c:Const} {k:Nat} {pos:Pos} {v:PV} (h:litOk c v=true) (hb:∀ l,v=.bytes l→l.length≤1048576):SE prog w Γ B (.Constant c k pos) (fun _=>.ok v):=by
 intro H ρ s Q E hs hp
 rw [eval_Constant]
 cases v with
 | none=>cases of_decide_eq_true h; exact wpAny_pure (hp.ok (.refl hs.stays) rfl)
 | bool b=>cases of_decide_eq_true h; exact wpAny_pure (hp.ok (.refl hs.stays) rfl)
 | int i=>cases of_decide_eq_true h; exact fun _ _ _=>hp.ok (.refl hs.stays) ⟨_,rfl⟩
 | str x=>exact onstr_k (P:=fun c=>wpAny (model prog w) B.A (constValue B.env c) Q E s) h fun a h _ _ _=>hp.ok (.refl hs.stays) ⟨_,_,rfl,eq_of_beq h⟩
 | bytes x=>exact onbytes_k (P:=fun c=>wpAny (model prog w) B.A (constValue B.env c) Q E s) h fun a h _ _ _=>hp.ok (.refl hs.stays) ⟨_,_,rfl,eq_of_beq h,hb _ rfl⟩
 | _=>exact ff h
theorem var_names {N : Nm} {x : Str} {i : Nat} (h : N.isVar x i = true) : N.vs[i]? = some x ∧ N.names.lookup x = some .local ∧ (x == ("__debug__" : Str)) = false := by
 unfold Nm.isVar at h
 simp only [Bool.and_eq_true,beq_iff_eq,Bool.not_eq_true'] at h
 exact ⟨h.1.1,h.1.2,h.2⟩
theorem glob_names {N : Nm} {x : Str} (h : N.isGlob x = true) : N.names.lookup x = some .globalImplicit ∧ (x == ("__debug__" : Str)) = false := by
 unfold Nm.isGlob at h
 simp only [Bool.and_eq_true,beq_iff_eq,Bool.not_eq_true'] at h
 exact h
theorem se_var {d : Nat} (hB : B.Ok d) {x : Str} {pos : Pos} {i : Nat} (hv : B.vs[i]? = some x) (hk : B.env.kindOf x = some .local) (hd : (x == ("__debug__" : Str)) = false) :
  SE prog w Γ B (.Name x pos) (fun ρ=>match getS ρ i with | .val v=>.ok v | _=>.stuck):=by
 intro H ρ s Q E hs hp
 obtain ⟨m,oa,hn,hl,hN,hsl,hdd⟩:=hs.loc
 have:=hsl i x hv
 cases hg:getS ρ i with
 | unset=>simp only [hg] at hp; exact hp.elim
 | own l=>simp only [hg] at hp; exact hp.elim
 | val p =>
  simp only [hg] at hp
  rw [hg] at this
  obtain ⟨v,hm,hr⟩:=this
  exact wpAny_Name (wpAny_loadName_local hB.kind hk hn hm (hp.ok (.refl hs.stays) hr)) hd
theorem top_name {d : Nat} (hΓ : Γ.Ok) (hB : B.Ok d) {x : Str} {pos : Pos} {v : Value} (hk : B.env.kindOf x = some .globalImplicit) (hd : (x == ("__debug__" : Str)) = false)
  (hm:Γ.mg x=some v) {H:Heap} {ρ:List Slot} {s:Shared} (hs:St Γ B H ρ s) {Q E:Value→Shared→Prop} (h:Q v s):wpAny (model prog w) B.A (eval (.Name x pos) B.env) Q E s :=
 Calls.Name_function_global hB.kind hk (Calls.loadGlobal_global (by rw [hB.glob]; exact hΓ.g.keeps (stays_trans hs.base hs.stays)) hm h) hd
theorem word_name {d : Nat} (hΓ : Γ.Ok) (hB : B.Ok d) {x : Str} {pos : Pos} {v : Value} (hk : B.env.kindOf x = some .globalImplicit) (hd : (x == ("__debug__" : Str)) = false)
  (hw:x∈words) (hb:bootBuiltins x=some v) {H:Heap} {ρ:List Slot} {s:Shared} (hs:St Γ B H ρ s) {Q E:Value→Shared→Prop} (h:Q v s) :
  wpAny (model prog w) B.A (eval (.Name x pos) B.env) Q E s :=
 Calls.Name_function_global hB.kind hk (Calls.loadGlobal_builtin (by rw [hB.glob]; exact hΓ.g.keeps (stays_trans hs.base hs.stays)) (hΓ.word x hw).1
  (by rw [hB.bui]; exact hΓ.b.keeps (stays_trans hs.base hs.stays)) ((hΓ.word x hw).2.trans hb) h) hd
theorem se_glob {d : Nat} (hΓ : Γ.Ok) (hB : B.Ok d) {x : Str} {pos : Pos} {i : Nat} (hg : Γ.gs[i]? = some x) (hk : B.env.kindOf x = some .globalImplicit) (hd : (x == ("__debug__" : Str)) = false) :
  SE prog w Γ B (.Name x pos) (fun _=>Γ.GV i):=by
 intro H ρ s Q E hs hp
 cases hv:Γ.GV i with
 | stuck=>simp only [hv] at hp; exact hp.elim
 | exc=>exact absurd hv (hΓ.constE i)
 | ok p =>
  simp only [hv] at hp
  obtain ⟨v,hm,hr⟩:=hΓ.const i x p hg hv
  exact top_name hΓ hB hk hd hm hs (hp.ok (.refl hs.stays) (hr.mono hs.base))
theorem se_bin {l r:Expr} {op:Operator} {pos:Pos} {f g:List Slot→Res PV} {k:PV→PV→Res PV} (hl:SE prog w Γ B l f) (hr:SE prog w Γ B r g)
  (ho:∀ H ρ s x y a b,St Γ B H ρ s→Rep H x a→Rep H y b→SO prog w B (binaryOp op a b) H s (k x y)) :
  SE prog w Γ B (.BinOp l op r pos) (fun ρ=>(f ρ).bind fun x=>(g ρ).bind fun y=>k x y):=by
 intro H ρ s Q E hs hp
 refine wpAny_BinOp (hl H ρ s _ _ hs (Post.bind hp fun x a s₁ H₁ _ e₁ ra hp₁=>?_))
 refine hr H₁ ρ s₁ _ _ (hs.ext e₁) (Post.bind hp₁ fun y b s₂ H₂ _ e₂ rb hp₂=>?_)
 exact ho H₂ ρ s₂ x y a b ((hs.ext e₁).ext e₂) (ra.mono e₂.grow) rb _ _ hp₂
theorem se_cmp {l r:Expr} {op:CmpOp} {pos:Pos} {f g:List Slot→Res PV} {k:PV→PV→Res PV} (hl:SE prog w Γ B l f) (hr:SE prog w Γ B r g) (hm:behindInMarks op r=false)
  (ho:∀ H ρ s x y a b,St Γ B H ρ s→Rep H x a→Rep H y b→SO prog w B (compareOp op a b) H s (k x y)) :
  SE prog w Γ B (.Compare l [op] [r] pos) (fun ρ=>(f ρ).bind fun x=>(g ρ).bind fun y=>k x y):=by
 intro H ρ s Q E hs hp
 refine wpAny_Compare1 (hl H ρ s _ _ hs (Post.bind hp fun x a s₁ H₁ _ e₁ ra hp₁=>?_)) hm
 refine hr H₁ ρ s₁ _ _ (hs.ext e₁) (Post.bind hp₁ fun y b s₂ H₂ _ e₂ rb hp₂=>?_)
 exact ho H₂ ρ s₂ x y a b ((hs.ext e₁).ext e₂) (ra.mono e₂.grow) rb _ _ hp₂
end
end Mine
namespace Mine
open PySem PySem.W PyProof.Rows
noncomputable def bytesIs (v:Value) (l:List Int):Bool:=match v with
 | .bytes b _=>bInt b == l
 | _=>false
noncomputable def fragEs (K:Frag):Option (Array DictEntry):=match K.lookup mainGlobals with
 | some o=>(match o.data with | .dict es _=>some es | _=>none)
 | none=>none
noncomputable def statOk (K:Frag):Bool:=match K.lookup cStatics with
 | some o=>(match o.data with | .dict es _=>es.toList.isEmpty | _=>false)
 | none=>false
noncomputable def keepS (st:Stmt):Bool:=match st with
 | .Assign [.Name x _] _ _ => x != Str.ofString "__name__"
 | _=>true
noncomputable def viewOf (p:Program):Program:={ p with main:={ p.main with body:=p.main.body.filter keepS } }
noncomputable def heapFrag (as:List Addr) (h:Heap):Frag:=as.filterMap fun a=>(h.get? a).map fun o=>(a,o)
theorem heapFrag_in (as:List Addr) (h:Heap):(heapFrag as h).In h:=by
 intro a o e
 have hm:(a,o)∈heapFrag as h:=by
  have:=List.lookup_eq_some_iff.1 e
  obtain ⟨l1,l2,h1,_⟩:=this
  rw [h1]; simp
 obtain ⟨b,_,hb⟩:=List.mem_filterMap.1 hm
 cases hg:h.get? b with
 | none=>rw [hg] at hb; cases hb
 | some o'=>rw [hg] at hb; cases hb; exact hg
noncomputable def xtOf (p:Program) (s:Shared):Bool:=xlAt (viewOf p) [] s && PySem.W.recOk [] s
namespace L1
noncomputable def flatIs (v:Value) (q:PV):Bool:=match q with
 | .int i=>(match v with | .int n _=>n == i | _=>false)
 | .bytes l=>bytesIs v l && decide (l.length≤1048576)
 | _=>false
noncomputable def globIs (K:Frag) (v:Value) (q:PV):Bool:=match q with
 | .tuple ps=>(match v with
  | .ref a=>(match K.lookup a with
   | some o=>(match o.cls,o.data with
    | .type t,.seq items _ => t == "tuple" && items.toList.length == ps.length && decide (ps.length ≤ 1048576) && (items.toList.zip ps).all fun x => flatIs x.1 x.2
    | _,_=>false)
   | none=>false)
  | _=>false)
 | q=>flatIs v q
noncomputable def fragOk1 (gs:List Str) (vs:List PV) (K:Frag):Bool:=statOk K && match fragEs K with
 | none=>false
 | some es=>(words.all fun x=>(nsFind es x).isNone) && (gs.length == vs.length) && (gs.zip vs).all fun g=>match nsFind es g.1 with
  | some v=>globIs K v g.2
  | none=>false
noncomputable def hookOf (as:List Addr):Hook:=⟨Bool,fun s=>fragOk1 gnames gvals (heapFrag as s.heap),fun _=>true,fun _ h=>∃ K:Frag,K.In h∧fragOk1 gnames gvals K=true,fun _ s e=>⟨_,heapFrag_in as s.heap,e⟩,fun _ _ _ ⟨K,a,b⟩ k=>⟨K,a.keeps k,b⟩⟩
end L1
end Mine
set_option Elab.async false
namespace Mine.L1
open PySem PySem.W PyProof.Rows
noncomputable def adrs:List Addr:=[2,3,163,260,261,262,263,264]
noncomputable def pg:Program:=PySem.Challenge.pw_sx_r152_1o
noncomputable def qg:Program:=viewOf pg
theorem left1 (w:World):(openEnds treeTable pg w 4194).map (fun s=>(seen ((recsOf qg).map (·.name)) (ownsOf qg) [] { s with gens:=#[] },s.heap.bltView,(hookOf adrs).obs s))=some (expectedOf qg,bltViewBooted,true):=by kernel_rfl
theorem left2 (w:World):(openEnds treeTable pg w 4194).map (fun s=>(s.heap.keysOk (looseW qg []) ((recsOf qg).map (·.name)) ((litsOf qg).map (·.1)) ((clssOf qg (looseW qg [])).map (·.name)) && s.heap.accountedOkI (importedModules pg.main.body) && s.heap.isNs mainGlobals && s.heap.isNs builtinsNs && tablesOk qg s.heap && xtOf pg s && (s.gens.size == 0),wideSeen qg s,clsSeenW qg [] s))=some (true,wideGood qg,clsGoodW qg []):=by kernel_rfl
theorem left3 (w:World):(openEnds treeTable pg w 4194).map (fun s=>(tabsOk qg s,pinSeenD qg (drecsOf qg) s,plainSeenE qg (looseW qg []) s,plainSeenD qg [] s))=some (true,pinGoodD (drecsOf qg),plainGoodE qg (looseW qg []),plainGoodD qg []):=by kernel_rfl
theorem left:LeftO pg qg [] (xtOf pg) (hookOf adrs).obs (hookOf adrs).val 4194:=by
 intro w
 obtain ⟨s,hs,a⟩:=Option.map_eq_some_iff.1 (left1 w)
 obtain ⟨s',hs',b⟩:=Option.map_eq_some_iff.1 (left2 w)
 obtain ⟨s'',hs'',c⟩:=Option.map_eq_some_iff.1 (left3 w)
 rw [hs] at hs' hs''
 cases hs'; cases hs''
 rw [hs]
 refine congrArg some (Prod.ext (Prod.ext (congrArg (·.1) a) (Prod.ext (congrArg (·.2.1) a) (Prod.ext (congrArg (·.1) b) (Prod.ext (congrArg (·.1) c) (Prod.ext (congrArg (·.2.1) c) (Prod.ext (congrArg (·.2.2.1) c) (Prod.ext (congrArg (·.2.2.2) c) (Prod.ext (congrArg (·.2.1) b) (congrArg (·.2.2) b))))))))) (congrArg (·.2.2) a))
noncomputable def lw:OpenLaw:=PySem.Challenge.rw_sx_r152_1o
theorem s1:namesResolve pg=true:=by kernel_rfl
theorem s2 (x : Str) (h : x = "vars" ∨ x = "dir" ∨ x = "locals") : readsOut pg pg.main.body x = false := by
 rcases h with rfl | rfl | rfl
 all_goals kernel_rfl
theorem s3:noRoadLSs { strict:=!(importedModules pg.main.body).all cThrough.contains,foot:=none,bare:=[] } pg.main.body=true:=by kernel_rfl
theorem s4:namesMeet pg pg.main.body (fun _ n=>attrL n)=true:=by kernel_rfl
theorem s5:(sreFenced pg.main && ((moduleNames pg.main.body).isEmpty || lookedIntoSs (moduleNames pg.main.body) pg.main.body))=true:=by kernel_rfl
theorem s6:pg.boundNames.all (fun n=>!worldNames.contains n)=true:=by kernel_rfl
theorem s7:looksOpen pg=true:=by
 unfold looksOpen
 have hb : (["vars","dir","locals"] : List Str).filter (readsOut pg pg.main.body) = [] := by
  rw [List.filter_eq_nil_iff]
  intro x hx
  simp only [List.mem_cons,List.not_mem_nil,or_false] at hx
  rw [s2 x hx]; exact Bool.false_ne_true
 rw [hb,s5,s1,s6,s3,s4]; rfl
theorem s8:lw.row.wellSaid=true:=by
 unfold OpenRow.wellSaid OpenRow.partSaid
 rw [show looksOpen lw.row.prog=true from s7]
 kernel_rfl
theorem s9:(decide (lw.foot≤(behindTheImports lw.prog).length) && lw.footing.all footLine && noClassBlock lw.prog lw.footing && lw.most.all (fun n=>decide (63≤n)) && lw.bound.all (fun n=>decide (2 ^ 63≤n)))=true:=by kernel_rfl
theorem s10:noRoadLSs { strict:=true,foot:=some lw.bound',writes:=lw.writes,may:=lw.may } lw.footing=true:=by kernel_rfl
theorem s11:(defStands lw.about lw.above && lw.namesIt)=true:=by kernel_rfl
theorem s12:lw.bound'.all (fun n=>!builtinNamed n || lw.about == [n] || !lw.reads n)=true:=by kernel_rfl
theorem s13 : namesMeet lw.prog lw.footing (fun sc n => (!(["type","isinstance","issubclass","getattr","hasattr"] : List Str).contains n || sc.names.lookup n == some .globalImplicit) && (lw.may != some n || sc.kind == .module || sc.names.lookup n == some .globalImplicit)) = true := by kernel_rfl
theorem s14:namesMeet lw.prog lw.above (fun _ n=>!lw.own.contains n)=true:=by kernel_rfl
theorem s15:(namesMeet lw.prog lw.footing fun sc n=>sc.kind == .module || sc.names.lookup n != some .globalExplicit)=true:=by kernel_rfl
theorem said:lw.wellSaid=true:=by
 have h9:=s9
 have h11:=s11
 simp only [Bool.and_eq_true] at h9 h11
 unfold OpenLaw.wellSaid
 rw [s8,h9.1.1.1.1,h9.1.1.1.2,h9.1.1.2,h9.1.2,h9.2,s10,h11.1,h11.2,s12,s13,s14,s15]
 kernel_rfl
end Mine.L1
namespace Mine
open PySem PyProof.Rows
section
variable {prog:Program} {w:World} {Γ:Ct} {B:Bl}
theorem tru {A:Around} {H:Heap} {p:PV} {v:Value} {b:Bool} {s:Shared} {Q:Bool→Shared→Prop} {E:Value→Shared→Prop} (r:Rep H p v) (hb:truP p=.ok b) (h:Q b s) :
  wpAny (model prog w) A (truthy v) Q E s:=by
 cases p <;> simp only [truP] at hb <;> first | (cases hb; done) | skip
 ·rw [Rep] at r; subst r; cases hb; exact truthy_none h
 ·rw [Rep] at r; subst r; cases hb; exact wpAny_truthy_bool h
 ·rw [Rep] at r; obtain ⟨t,rfl⟩:=r; cases hb; exact PySem.P.truthy_int h
theorem tru_post {H:Heap} {l:List Env} {p:PV} {v:Value} {s:Shared} {A:Around} {Q:Bool→Shared→Prop} {E:Value→Shared→Prop} (hs:H.StaysIn s.heap) (r:Rep H p v)
  (hp:Post (fun _ (a b:Bool)=>a=b) l H s (truP p) Q E):wpAny (model prog w) A (truthy v) Q E s:=by
 cases hb:truP p with
 | ok b=>rw [hb] at hp; exact tru r hb (hp.ok (.refl hs) rfl)
 | exc=>cases p <;> cases hb
 | stuck=>rw [hb] at hp; exact hp.elim
theorem sb_plain {e:Expr} {f:List Slot→Res PV} (h:SE prog w Γ B e f)
  (he:∀ whole,isTrue e B.env whole=(do let v ← whole; standAt e.pos; holding [v] (truthy v))):SB prog w Γ B e (fun ρ=>(f ρ).bind truP):=by
 intro H ρ s Q E hs hp
 refine isTrue_plain (h H ρ s _ _ hs (Post.bind hp fun p v s₁ H₁ _ e₁ r hp₁=>?_)) (he _)
 exact tru_post (hs.ext e₁).stays r hp₁
theorem bind_assoc' {α β γ:Type} (r:Res α) (f:α→Res β) (g:β→Res γ):(r.bind f).bind g=r.bind fun x=>(f x).bind g:=by cases r <;> rfl
theorem se_not {x:Expr} {pos:Pos} {f:List Slot→Res PV} (h:SE prog w Γ B x f) :
  SE prog w Γ B (.UnaryOp .Not x pos) (fun ρ=>(f ρ).bind fun v=>(truP v).bind fun b=>.ok (.bool (!b))):=by
 intro H ρ s Q E hs hp
 refine UnaryOp_ (h H ρ s _ _ hs (Post.bind hp fun p v s₁ H₁ _ e₁ r hp₁=>?_))
 refine not_of (tru_post (hs.ext e₁).stays r (Post.bind hp₁ fun b c s₂ H₂ _ e₂ hc hp₂=>?_))
 subst hc; exact hp₂.ok (.refl ((hs.ext e₁).ext e₂).stays) (by rw [Rep])
theorem sb_not {x:Expr} {pos:Pos} {f:List Slot→Res Bool} (h:SB prog w Γ B x f) :
  SB prog w Γ B (.UnaryOp .Not x pos) (fun ρ=>(f ρ).bind fun b=>.ok (!b)):=by
 intro H ρ s Q E hs hp
 refine isTrue_not (h H ρ s _ _ hs (Post.bind hp fun b c s₁ H₁ _ e₁ hc hp₁=>?_))
 subst hc; exact hp₁.ok (.refl (hs.ext e₁).stays) rfl
theorem se_ite {t b o:Expr} {pos:Pos} {c:List Slot→Res Bool} {f g:List Slot→Res PV} (ht:SB prog w Γ B t c) (hb:SE prog w Γ B b f) (ho:SE prog w Γ B o g) :
  SE prog w Γ B (.IfExp t b o pos) (fun ρ=>(c ρ).bind fun x=>if x then f ρ else g ρ):=by
 intro H ρ s Q E hs hp
 refine IfExp_ (ht H ρ s _ _ hs (Post.bind hp fun x y s₁ H₁ _ e₁ hc hp₁=>?_))
 subst hc
 cases x with
 | true=>exact hb H₁ ρ s₁ _ _ (hs.ext e₁) hp₁
 | false=>exact ho H₁ ρ s₁ _ _ (hs.ext e₁) hp₁
theorem sb_ite {t b o:Expr} {pos:Pos} {c f g:List Slot→Res Bool} (ht:SB prog w Γ B t c) (hb:SB prog w Γ B b f) (ho:SB prog w Γ B o g) :
  SB prog w Γ B (.IfExp t b o pos) (fun ρ=>(c ρ).bind fun x=>if x then f ρ else g ρ):=by
 intro H ρ s Q E hs hp
 refine isTrue_IfExp (ht H ρ s _ _ hs (Post.bind hp fun x y s₁ H₁ _ e₁ hc hp₁=>?_))
 subst hc
 cases x with
 | true=>exact hb H₁ ρ s₁ _ _ (hs.ext e₁) hp₁
 | false=>exact ho H₁ ρ s₁ _ _ (hs.ext e₁) hp₁
theorem se_and {a b:Expr} {r:List Expr} {pos:Pos} {f g:List Slot→Res PV} (ha:SE prog w Γ B a f) (hr:SE prog w Γ B (.BoolOp .And (b::r) pos) g) :
  SE prog w Γ B (.BoolOp .And (a::b::r) pos) (fun ρ=>(f ρ).bind fun x=>(truP x).bind fun t=>if t then g ρ else .ok x):=by
 intro H ρ s Q E hs hp
 refine BoolOp_and (ha H ρ s _ _ hs (Post.bind hp fun p v s₁ H₁ _ e₁ rp hp₁=>?_))
 refine tru_post (hs.ext e₁).stays rp (Post.bind hp₁ fun t c s₂ H₂ _ e₂ hc hp₂=>?_)
 subst hc
 cases t with
 | true=>exact hr H₂ ρ s₂ _ _ ((hs.ext e₁).ext e₂) hp₂
 | false=>exact hp₂.ok (.refl ((hs.ext e₁).ext e₂).stays) (rp.mono e₂.grow)
theorem se_or {a b:Expr} {r:List Expr} {pos:Pos} {f g:List Slot→Res PV} (ha:SE prog w Γ B a f) (hr:SE prog w Γ B (.BoolOp .Or (b::r) pos) g) :
  SE prog w Γ B (.BoolOp .Or (a::b::r) pos) (fun ρ=>(f ρ).bind fun x=>(truP x).bind fun t=>if t then .ok x else g ρ):=by
 intro H ρ s Q E hs hp
 refine BoolOp_or (ha H ρ s _ _ hs (Post.bind hp fun p v s₁ H₁ _ e₁ rp hp₁=>?_))
 refine tru_post (hs.ext e₁).stays rp (Post.bind hp₁ fun t c s₂ H₂ _ e₂ hc hp₂=>?_)
 subst hc
 cases t with
 | true=>exact hp₂.ok (.refl ((hs.ext e₁).ext e₂).stays) (rp.mono e₂.grow)
 | false=>exact hr H₂ ρ s₂ _ _ ((hs.ext e₁).ext e₂) hp₂
theorem sb_and_nil {pos:Pos}:SB prog w Γ B (.BoolOp .And [] pos) (fun _=>.ok true):=by
 intro H ρ s Q E hs hp
 exact isTrue_and_nil (hp.ok (.refl hs.stays) rfl)
theorem sb_or_nil {pos:Pos}:SB prog w Γ B (.BoolOp .Or [] pos) (fun _=>.ok false):=by
 intro H ρ s Q E hs hp
 exact isTrue_or_nil (hp.ok (.refl hs.stays) rfl)
theorem sb_and {a:Expr} {r:List Expr} {pos:Pos} {f g:List Slot→Res Bool} (ha:SB prog w Γ B a f) (hr:SB prog w Γ B (.BoolOp .And r pos) g) :
  SB prog w Γ B (.BoolOp .And (a::r) pos) (fun ρ=>(f ρ).bind fun t=>if t then g ρ else .ok false):=by
 intro H ρ s Q E hs hp
 refine isTrue_and (ha H ρ s _ _ hs (Post.bind hp fun t c s₁ H₁ _ e₁ hc hp₁=>?_))
 subst hc
 cases t with
 | true=>exact hr H₁ ρ s₁ _ _ (hs.ext e₁) hp₁
 | false=>exact hp₁.ok (.refl (hs.ext e₁).stays) rfl
theorem sb_or {a:Expr} {r:List Expr} {pos:Pos} {f g:List Slot→Res Bool} (ha:SB prog w Γ B a f) (hr:SB prog w Γ B (.BoolOp .Or r pos) g) :
  SB prog w Γ B (.BoolOp .Or (a::r) pos) (fun ρ=>(f ρ).bind fun t=>if t then .ok true else g ρ):=by
 intro H ρ s Q E hs hp
 refine isTrue_or (ha H ρ s _ _ hs (Post.bind hp fun t c s₁ H₁ _ e₁ hc hp₁=>?_))
 subst hc
 cases t with
 | true=>exact hp₁.ok (.refl (hs.ext e₁).stays) rfl
 | false=>exact hr H₁ ρ s₁ _ _ (hs.ext e₁) hp₁
noncomputable def cmpV (o:COp) (x y:PV):Res PV:=(cmpP o x y).bind fun r=>.ok (.bool r)
noncomputable def CmpOk (prog:Program) (w:World) (Γ:Ct) (B:Bl) (op:CmpOp) (o:COp):Prop :=
 ∀ H ρ s x y a b,St Γ B H ρ s→Rep H x a→Rep H y b→SO prog w B (compareOp op a b) H s (cmpV o x y)
theorem rep_bool {H:Heap} {b:Bool} {v:Value} (h:Rep H (.bool b) v):v=.bool b:=by rw [Rep] at h; exact h
theorem sb_cmp {l r:Expr} {op:CmpOp} {o:COp} {pos:Pos} {f g:List Slot→Res PV} (hl:SE prog w Γ B l f) (hr:SE prog w Γ B r g) (hm:behindInMarks op r=false) (ho:CmpOk prog w Γ B op o) :
  SB prog w Γ B (.Compare l [op] [r] pos) (fun ρ=>(f ρ).bind fun x=>(g ρ).bind fun y=>cmpP o x y):=by
 intro H ρ s Q E hs hp
 refine wpAny_isTrue_Compare1 (hl H ρ s _ _ hs (Post.bind hp fun x a s₁ H₁ _ e₁ ra hp₁=>?_)) hm
 refine hr H₁ ρ s₁ _ _ (hs.ext e₁) (Post.bind hp₁ fun y b s₂ H₂ _ e₂ rb hp₂=>?_)
 refine ho H₂ ρ s₂ x y a b ((hs.ext e₁).ext e₂) (ra.mono e₂.grow) rb _ _ ?_
 unfold cmpV
 cases hc:cmpP o x y with
 | stuck=>rw [hc] at hp₂; exact hp₂.elim
 | exc=>rw [hc] at hp₂; exact hp₂
 | ok b =>
  rw [hc] at hp₂
  intro v s' H' e' r'
  rw [rep_bool r']
  exact wpAny_truthy_bool (hp₂.ok e' rfl)
theorem se_cmp2 {l r q:Expr} {op op':CmpOp} {o o':COp} {pos:Pos} {f g h:List Slot→Res PV} (hl:SE prog w Γ B l f) (hr:SE prog w Γ B r g) (hq:SE prog w Γ B q h) (hm:behindInMarks op' q=false)
  (ho:CmpOk prog w Γ B op o) (ho':CmpOk prog w Γ B op' o') :
  SE prog w Γ B (.Compare l [op,op'] [r,q] pos) (fun ρ=>(f ρ).bind fun x=>(g ρ).bind fun y=>(cmpP o x y).bind fun t =>
   if t then (h ρ).bind fun z=>(cmpP o' y z).bind fun u=>.ok (.bool u) else .ok (.bool false)):=by
 intro H ρ s Q E hs hp
 refine Compare_chain (hl H ρ s _ _ hs (Post.bind hp fun x a s₁ H₁ _ e₁ ra hp₁=>?_)) hm
 refine chain_link (hr H₁ ρ s₁ _ _ (hs.ext e₁) (Post.bind hp₁ fun y b s₂ H₂ _ e₂ rb hp₂=>?_))
 refine ho H₂ ρ s₂ x y a b ((hs.ext e₁).ext e₂) (ra.mono e₂.grow) rb _ _ ?_
 unfold cmpV
 cases hc:cmpP o x y with
 | stuck=>rw [hc] at hp₂; exact hp₂.elim
 | exc=>rw [hc] at hp₂; exact hp₂
 | ok t =>
  rw [hc] at hp₂
  intro v s₃ H₃ e₃ r'
  rw [rep_bool r']
  have hs₃:=((hs.ext e₁).ext e₂).ext e₃
  refine wpAny_truthy_bool ?_
  have hp₃:=Post.ext hp₂ e₃
  cases t with
  | false=>exact hp₃.ok (.refl hs₃.stays) (by rw [Rep])
  | true =>
   refine chain_last (hq H₃ ρ s₃ _ _ hs₃ (Post.bind hp₃ fun z c s₄ H₄ _ e₄ rc hp₄=>?_))
   exact ho' H₄ ρ s₄ y z b c (hs₃.ext e₄) ((rb.mono e₃.grow).mono e₄.grow) rc _ _ hp₄
theorem test_last' {M:Model} {A:Around} {E:Value→Shared→Prop} {s:Shared} {pos:Pos} {a:Value} {op:CmpOp} {r:Sem Value} {Q:Bool→Shared→Prop}
  (h:wpAny M A r (fun b s₁=>wpAny M A (compareOp op a b) (fun c s₂=>wpAny M A (truthy c) Q E s₂) E s₁) E s):wpAny M A (testChain pos a [op] [r]) Q E s:=by
 show wpAny M A (do
  let rv ← holding [a] r
  standAt pos
  let c ← operate [a,rv] (compareOp op a rv)
  holding [c] (truthy c)) Q E s
 exact wpAny_bind (wpAny_holding (wpAny_mono h (fun b s₁ h₁=>wpAny_bind (wpAny_standAt (wpAny_bind (wpAny_operate' (wpAny_mono h₁ (fun _ _ h₂=>wpAny_holding h₂) fun _ _ x=>x))))) fun _ _ x=>x))
theorem sb_cmp2 {l r q:Expr} {op op':CmpOp} {o o':COp} {pos:Pos} {f g h:List Slot→Res PV} (hl:SE prog w Γ B l f) (hr:SE prog w Γ B r g) (hq:SE prog w Γ B q h) (hm:behindInMarks op' q=false)
  (ho:CmpOk prog w Γ B op o) (ho':CmpOk prog w Γ B op' o') :
  SB prog w Γ B (.Compare l [op,op'] [r,q] pos) (fun ρ=>(f ρ).bind fun x=>(g ρ).bind fun y=>(cmpP o x y).bind fun t =>
   if t then (h ρ).bind fun z=>cmpP o' y z else .ok false):=by
 intro H ρ s Q E hs hp
 refine isTrue_chain (hl H ρ s _ _ hs (Post.bind hp fun x a s₁ H₁ _ e₁ ra hp₁=>?_)) hm
 refine test_link (hr H₁ ρ s₁ _ _ (hs.ext e₁) (Post.bind hp₁ fun y b s₂ H₂ _ e₂ rb hp₂=>?_))
 refine ho H₂ ρ s₂ x y a b ((hs.ext e₁).ext e₂) (ra.mono e₂.grow) rb _ _ ?_
 unfold cmpV
 cases hc:cmpP o x y with
 | stuck=>rw [hc] at hp₂; exact hp₂.elim
 | exc=>rw [hc] at hp₂; exact hp₂
 | ok t =>
  rw [hc] at hp₂
  intro v s₃ H₃ e₃ r'
  rw [rep_bool r']
  have hs₃:=((hs.ext e₁).ext e₂).ext e₃
  refine wpAny_truthy_bool ?_
  have hp₃:=Post.ext hp₂ e₃
  cases t with
  | false=>exact hp₃.ok (.refl hs₃.stays) rfl
  | true =>
   refine test_last' (hq H₃ ρ s₃ _ _ hs₃ (Post.bind hp₃ fun z c s₄ H₄ _ e₄ rc hp₄=>?_))
   refine ho' H₄ ρ s₄ y z b c (hs₃.ext e₄) ((rb.mono e₃.grow).mono e₄.grow) rc _ _ ?_
   unfold cmpV
   cases hd:cmpP o' y z with
   | stuck=>rw [hd] at hp₄; exact hp₄.elim
   | exc=>rw [hd] at hp₄; exact hp₄
   | ok u =>
    rw [hd] at hp₄
    intro v s' H' e' r''
    rw [rep_bool r'']
    exact wpAny_truthy_bool (hp₄.ok e' rfl)
noncomputable def SEs (prog:Program) (w:World) (Γ:Ct) (B:Bl) (es:List Expr) (f:List Slot→Res (List PV)):Prop :=
 ∀ (pos:Pos) H ρ s (Q:List Value→Shared→Prop) (E:Value→Shared→Prop),St Γ B H ρ s→Post RepL (B.fenv::B.outer) H s (f ρ) Q E →
  wpAny (model prog w) B.A (spliced (backTo pos (starEach es B.env))) Q E s
theorem ses_nil:SEs prog w Γ B [] (fun _=>.ok []):=by
 intro pos H ρ s Q E hs hp
 exact Calls.spliced_nil (hp.ok (.refl hs.stays) (by rw [RepL]))
theorem starEach_cons {e:Expr} {r:List Expr} {env:Env} (h:notStar e=true):starEach (e::r) env=(false,eval e env)::starEach r env:=by
 cases e <;> first | rfl | cases h
theorem ses_cons {e:Expr} {r:List Expr} {f:List Slot→Res PV} {g:List Slot→Res (List PV)} (he:SE prog w Γ B e f) (hr:SEs prog w Γ B r g) (hn:notStar e=true) :
  SEs prog w Γ B (e::r) (fun ρ=>(f ρ).bind fun v=>(g ρ).bind fun vs=>.ok (v::vs)):=by
 intro pos H ρ s Q E hs hp
 rw [starEach_cons hn]
 show wpAny _ _ (spliced ((false,eval e B.env)::backTo pos (starEach r B.env))) _ _ _
 refine Calls.spliced_cons (he H ρ s _ _ hs (Post.bind hp fun p v s₁ H₁ _ e₁ rp hp₁=>?_))
 refine hr pos H₁ ρ s₁ _ _ (hs.ext e₁) (Post.bind hp₁ fun ps vs s₂ H₂ _ e₂ rps hp₂=>?_)
 exact hp₂.ok (.refl ((hs.ext e₁).ext e₂).stays) (by rw [RepL]; exact ⟨v,vs,rfl,rp.mono e₂.grow,rps⟩)
theorem lim_line {n:Nat} (h:n≤lim):n≤sizeLine:=Nat.le_trans h (by decide)
theorem tup_new {ws:List Value} {l:List PV} {H:Heap} {s:Shared} {A:Around} {Q E:Value→Shared→Prop} (hs:H.StaysIn s.heap) (r:RepL H l ws) (hz:l.length≤lim) {fr:List Env}
  (hp:Post Rep fr H s (.ok (.tuple l)) Q E):wpAny (model prog w) A (newTuple ws) Q E s:=by
 obtain ⟨H',e,hg⟩ := Ext.alloc hs ({ cls := .type "tuple",data := .seq ws.toArray } : Obj) rfl
 refine wpAny_newObj_type (hp.ok (e _ ⟨rfl,rfl,rfl⟩) ?_) (by show ws.toArray.size≤sizeLine; rw [List.size_toArray,r.length]; exact lim_line hz)
 rw [Rep]
 exact ⟨_,ws,rfl,⟨_,hg,rfl,_,rfl⟩,hz,r.mono (e { s with heap:=s.heap.push _ } ⟨rfl,rfl,rfl⟩).grow⟩
theorem lst_new {ws:List Value} {l:List PV} {H:Heap} {s:Shared} {A:Around} {Q E:Value→Shared→Prop} (hs:H.StaysIn s.heap) (r:RepL H l ws) (hz:l.length≤lim) {fr:List Env}
  (hp:Post Rep fr H s (.ok (.list l)) Q E):wpAny (model prog w) A (newList ws) Q E s:=by
 obtain ⟨H',e,hg⟩ := Ext.alloc hs ({ cls := .type "list",data := .seq ws.toArray } : Obj) rfl
 refine wpAny_newObj_type (hp.ok (e _ ⟨rfl,rfl,rfl⟩) ?_) (by show ws.toArray.size≤sizeLine; rw [List.size_toArray,r.length]; exact lim_line hz)
 rw [Rep]
 exact ⟨_,ws,rfl,⟨_,hg,rfl,_,rfl⟩,hz,r.mono (e { s with heap:=s.heap.push _ } ⟨rfl,rfl,rfl⟩).grow⟩
theorem se_tup {es:List Expr} {k:Nat} {pos:Pos} {f:List Slot→Res (List PV)} (h:SEs prog w Γ B es f) :
  SE prog w Γ B (.Tuple es k pos) (fun ρ=>(f ρ).bind fun vs=>if vs.length≤lim then .ok (.tuple vs) else .stuck):=by
 intro H ρ s Q E hs hp
 refine Tuple_ (h pos H ρ s _ _ hs (Post.bind hp fun ps vs s₁ H₁ _ e₁ rps hp₁=>?_))
 by_cases hz:ps.length≤lim
 ·rw [if_pos hz] at hp₁; exact tup_new (hs.ext e₁).stays rps hz hp₁
 ·rw [if_neg hz] at hp₁; exact hp₁.elim
theorem se_lst {es:List Expr} {pos:Pos} {f:List Slot→Res (List PV)} (h:SEs prog w Γ B es f) :
  SE prog w Γ B (.List es pos) (fun ρ=>(f ρ).bind fun vs=>if vs.length≤lim then .ok (.list vs) else .stuck):=by
 intro H ρ s Q E hs hp
 refine List_ (h pos H ρ s _ _ hs (Post.bind hp fun ps vs s₁ H₁ _ e₁ rps hp₁=>?_))
 by_cases hz:ps.length≤lim
 ·rw [if_pos hz] at hp₁; exact lst_new (hs.ext e₁).stays rps hz hp₁
 ·rw [if_neg hz] at hp₁; exact hp₁.elim
end
end Mine
namespace Mine
open PySem PyProof.Rows
theorem noteFrame_eq {e:Value} {env env':Env} (h:env.frame=env'.frame):noteFrame e env=noteFrame e env':=by
 unfold noteFrame PySem.frameOf
 rw [h]
section
variable {M:Model} {A:Around} {E:Value→Shared→Prop} {s:Shared} {H:Heap} {env:Env} {outer:List Env} {L e:Addr}
theorem leave_flown (hfr:A.frames=some (env::outer)) (hf:env.frame=some L) (x:Flown H (env::outer) e s.heap) {Q:Unit→Shared→Prop}
  (hQ:∀ h' a0,Heap.FlyingW H outer e VE a0 h'→s.heap.UpToSlots h'→Q () { s with heap:=h' }):wpAny M A (leaving env (.ref e)) Q E s:=by
 rcases x with ⟨a0,x⟩ | ⟨a0,L',env',r,he,hL,x⟩ | x
 ·exact wpAny_leaves_onW hfr hf x fun h' y u=>hQ h' a0 y u
 ·obtain ⟨rfl,rfl⟩:=List.cons.inj he
  rw [hf] at hL; obtain rfl:=Option.some.inj hL
  unfold leaving
  refine wpAny_bind (wpAny_noteFrame_againW hf x.2.2.2 ?_)
  refine wpAny_landsW x fun h' hfl u=>?_
  obtain ⟨k1,k2,⟨_,_,k3⟩,k4⟩:=hfl
  exact hQ h' a0 ⟨k1,k2,k3,k4⟩ u
 ·obtain ⟨k1,k2,k3,oe,vs,a0,ho,hc,hd,h1,h0⟩:=x
  refine wpAny_leaving_firstW hfr k3 hf ho k1 k2 hd h1 h0 fun h' hL=>?_
  obtain ⟨q1,⟨_,_,q2⟩,q3,q4⟩:=hL
  exact hQ h' a0 ⟨q1,k2,q2,by rw [← hc]; exact q3⟩ q4
theorem note_flown (hfr:A.frames=some (env::outer)) (hf:env.frame=some L) (x:Flown H (env::outer) e s.heap) {Q:Unit→Shared→Prop}
  (hQ:∀ h' a0,Heap.HeldW H (env::outer) e VE a0 L h'→s.heap.UpToSlots h'→Q () { s with heap:=h' }):wpAny M A (noteFrame (.ref e) env) Q E s:=by
 rcases x with ⟨a0,x⟩ | ⟨a0,L',env',r,he,hL,x⟩ | x
 ·exact wpAny_looks_onW hfr hf x fun h' y u=>hQ h' a0 y u
 ·obtain ⟨rfl,rfl⟩:=List.cons.inj he
  rw [hf] at hL; obtain rfl:=Option.some.inj hL
  exact wpAny_noteFrame_againW hf x.2.2.2 (hQ s.heap a0 x (.refl _))
 ·obtain ⟨k1,k2,k3,oe,vs,a0,ho,hc,hd,h1,h0⟩:=x
  unfold noteFrame
  simp only [hf]
  refine wpAny_bind (wpAny_field ho hd h1 ?_)
  rw [if_neg (by decide)]
  refine wpAny_entryW hfr k3 hf ho k1 k2 hd (Array.getElem?_eq_some_iff.mp h1).1 h0 fun h' hN=>?_
  obtain ⟨q1,q2,q3,q4⟩:=hN
  exact hQ h' a0 ⟨q1,k2,q2,by rw [← hc]; exact q3⟩ q4
theorem setFlight_held {a0:Value} {l:List Env} (x:Heap.HeldW H l e VE a0 L s.heap) {Q:Unit→Shared→Prop}
  (hQ:∀ h',Heap.HeldW H l e VE a0 L h'→s.heap.UpToSlots h'→Q () { s with heap:=h' }):wpAny M A (setFlight (.ref e) (some L)) Q E s:=by
 obtain ⟨hkb,hen,hl,oe,vs,T,oT,ts,he,hcls,hd,h1,hnT,hTe,hT,hdT,h3⟩:=x
 have hsz3:3<ts.size:=(Array.getElem?_eq_some_iff.mp h3).1
 have other:∀ b,b≠T→(s.heap.update T (Obj.mapFields (·.setIfInBounds 3 ((some L:Option Addr).elim Value.none fun f=>rawInt f)))).get? b=s.heap.get? b :=
  fun b hb=>Heap.get?_update_other _ _ (Ne.symm hb)
 have noRecord:∀ b o,s.heap.get? b=some o→(∀ vs,o.data≠.fields vs)→b≠T:=fun b o hb hnf q=>by
  rw [q,hT] at hb; injection hb with hb; subst hb; exact hnf ts hdT
 unfold setFlight
 refine wpAny_bind (wpAny_field he hd h1 ?_)
 rw [if_pos (show (Value.ref T != Value.none)=true from by simp)]
 refine wpAny_setField hT hdT hsz3 (hQ _ ⟨fun b o hbo=>(other b fun q=>by rw [q,hnT] at hbo; cases hbo).trans (hkb b o hbo),hen,
  hl.of_keeps fun b o hb hnf=>⟨o,(other b (noRecord b o hb hnf)).trans hb,rfl⟩,?_⟩ fun b o hb hnf=>⟨o.slots,(other b (noRecord b o hb hnf)).trans hb⟩)
 exact ⟨oe,vs,T,_,_,(other e (Ne.symm hTe)).trans he,hcls,hd,h1,hnT,hTe,Heap.get?_update_self _ hT (Obj.isFreed_of_fields (Obj.data_mapFields hdT _)),Obj.data_mapFields hdT _,by simp [hsz3]⟩
theorem held_flown {a0:Value} (hf:env.frame=some L) (x:Heap.HeldW H (env::outer) e VE a0 L s.heap):Flown H (env::outer) e s.heap:=.inr (.inl ⟨a0,L,env,outer,rfl,hf,x⟩)
theorem came_flown {be:Env} (hb:be.frame=env.frame) (hfr:A.frames=some (env::outer)) (hf:env.frame=some L) (x:Flown H (env::outer) e s.heap)
  (hE:∀ h',Flown H (env::outer) e h'→s.heap.UpToSlots h'→E (.ref e) { s with heap:=h' }):notedBy M A be (cameBackBy M A be E) (.ref e) s:=by
 unfold notedBy
 rw [noteFrame_eq hb]
 refine note_flown hfr hf x fun h' a0 y u=>?_
 unfold cameBackBy
 obtain ⟨oe,vs,T,oT,ts,he,hcls,hd,h1,r⟩:=id y.2.2.2
 refine wpAny_bind (wpAny_field he hd h1 ?_)
 rw [if_neg (show ¬ ((Value.ref T == Value.none)=true) from by simp),hb,hf]
 exact setFlight_held y fun h'' z u'=>hE h'' (held_flown (s:={ s with heap:=h'' }) hf z) (u.trans u')
end
end Mine
namespace Mine
open PySem PyProof.Rows
theorem ExtS.ups' {N₀:Nat} {H H':Heap} {s s' s'':Shared} (x:ExtS N₀ H s H' s') (u:s'.heap.UpToSlots s''.heap) (st:H'.StaysIn s''.heap) (q:s''.os=s'.os∧s''.gens=s'.gens:=by exact ⟨rfl,rfl⟩):ExtS N₀ H s H' s'' :=
 ⟨x.grow,x.old,st,fun b o hb e n=>let ⟨_,e₁⟩:=x.ups b o hb e n; let ⟨sl,e₂⟩:=u b _ e₁ n; ⟨sl,e₂⟩,q.1.trans x.same.1,q.2.trans x.same.2⟩
theorem Flown.stays {H:Heap} {l:List Env} {e:Addr} {h:Heap} (x:Flown H l e h):H.StaysIn h:=by
 rcases x with ⟨_,x⟩ | ⟨_,_,_,_,_,_,x⟩ | x
 ·exact x.1
 ·exact x.1
 ·exact x.1
noncomputable def FlRep (H:Heap):Fl→Flow→Prop
 | .next,f=>f=.next
 | .brk,f=>f=.brk
 | .ret p,f=>∃ v,f=.ret v∧Rep H p v
noncomputable def PostS (Γ:Ct) (B:Bl) (H:Heap) (s:Shared) (r:Res (Fl × List Slot)) (Q:Flow→Shared→Prop) (E:Value→Shared→Prop):Prop :=
 match r with
 | .ok (fl,ρ')=>∀ f s' H',ExtS B.N₀ H s H' s'→St Γ B H' ρ' s'→FlRep H' fl f→Q f s'
 | .exc=>∀ e s' H',ExtS B.N₀ H s H' s'→Flown H' (B.fenv::B.outer) e s'.heap→E (.ref e) s'
 | .stuck=>False
theorem PostS.ext {Γ:Ct} {B:Bl} {H H':Heap} {s s':Shared} {r:Res (Fl × List Slot)} {Q:Flow→Shared→Prop} {E:Value→Shared→Prop} (x:PostS Γ B H s r Q E) (e:ExtS B.N₀ H s H' s'):PostS Γ B H' s' r Q E:=by
 match r,x with
 | .ok (fl,ρ'),x=>exact fun f s' H'' e'=>x f s' H'' (e.trans e')
 | .exc,x=>exact fun f s' H'' e'=>x f s' H'' (e.trans e')
noncomputable def SS (prog:Program) (w:World) (Γ:Ct) (B:Bl) (st:Stmt) (f:List Slot→Res (Fl × List Slot)):Prop :=
 ∀ H ρ s (Q:Flow→Shared→Prop) (E:Value→Shared→Prop),St Γ B H ρ s→PostS Γ B H s (f ρ) Q E→wpAny (model prog w) B.A (exec st B.env) Q E s
noncomputable def SSs (prog:Program) (w:World) (Γ:Ct) (B:Bl) (sts:List Stmt) (f:List Slot→Res (Fl × List Slot)):Prop :=
 ∀ H ρ s (Q:Flow→Shared→Prop) (E:Value→Shared→Prop),St Γ B H ρ s→PostS Γ B H s (f ρ) Q E→wpAny (model prog w) B.A (execs sts B.env) Q E s
theorem getS_put (ρ:List Slot) (i j:Nat) (v:Slot):getS (putS ρ i v) j=if i=j∧i<ρ.length then v else getS ρ j:=by
 induction ρ generalizing i j with
 | nil=>simp [putS,getS]
 | cons x r ih =>
  cases i with
  | zero=>cases j <;> simp [putS,getS]
  | succ i=>cases j with
   | zero=>simp [putS,getS]
   | succ j=>simp [putS,getS,ih]
theorem getS_ge:∀ (ρ:List Slot) (i:Nat),ρ.length≤i→getS ρ i=.unset
 | [],_,_=>rfl
 | _::_,0,h=>by simp at h
 | _::r,i+1,h=>getS_ge r i (by simpa using h)
theorem getS_lt {ρ:List Slot} {i:Nat} {l:List PV} (h:getS ρ i=.own l):i<ρ.length:=by
 rcases Nat.lt_or_ge i ρ.length with q | q
 ·exact q
 ·rw [getS_ge ρ i q] at h; cases h
theorem nodup_at {α:Type} {l:List α} (h:l.Nodup) {i j:Nat} {x:α} (hi:l[i]?=some x) (hj:l[j]?=some x):i=j:=by
 obtain ⟨a,b⟩:=List.getElem?_eq_some_iff.mp hi
 obtain ⟨c,d⟩:=List.getElem?_eq_some_iff.mp hj
 have k:=List.pairwise_iff_getElem.mp h
 rcases Nat.lt_trichotomy i j with q | q | q
 ·exact absurd (b.trans d.symm) (k i j a c q)
 ·exact q
 ·exact absurd (d.trans b.symm) (k j i c a q)
theorem frames_mem {H H' h:Heap}:∀ {l:List Env},h.FunFrames H l→(∀ v∈l,∀ L,v.frame=some L→H.get? L=none→H'.get? L=none)→h.FunFrames H' l
 | [],_,_=>trivial
 | v::_,⟨hk,⟨L,o,hf,hn,ho,hd⟩,hr⟩,k=>⟨hk,⟨L,o,hf,k v (.head _) L hf hn,ho,hd⟩,frames_mem hr fun u hu=>k u (.tail _ hu)⟩
theorem PostS.bind {α β:Type} {R:Heap→α→β→Prop} {Γ:Ct} {B:Bl} {H:Heap} {s:Shared} {r:Res α} {k:α→Res (Fl × List Slot)}
  {Q:β→Shared→Prop} {Q':Flow→Shared→Prop} {E:Value→Shared→Prop} (x:PostS Γ B H s (r.bind k) Q' E)
  (hq:∀ p v s' H',r=.ok p→Ext H s H' s'→R H' p v→PostS Γ B H' s' (k p) Q' E→Q v s'):Post R (B.fenv::B.outer) H s r Q E:=by
 cases r with
 | ok p=>exact fun v s' H' e rr=>hq p v s' H' rfl e rr (PostS.ext x e.toS)
 | exc=>exact fun e s' H' ex fl=>x e s' H' ex.toS fl
 | stuck=>exact x
theorem frames_set {H h h':Heap} {L:Addr} {m:Str→Option Value} (hn:h'.Ns L m) (hs:∀ b,b≠L→h'.get? b=h.get? b):∀ {l:List Env},h.FunFrames H l→h'.FunFrames H l
 | [],_=>trivial
 | _::_,⟨hk,⟨L',o,hf,hnn,ho,hd⟩,hr⟩=>by
  refine ⟨hk,?_,frames_set hn hs hr⟩
  by_cases e:L'=L
  ·subst e
   obtain ⟨o',_,_,ho',hd',_⟩:=hn
   exact ⟨L',o',hf,hnn,ho',fun vs q=>by rw [hd'] at q; cases q⟩
  ·exact ⟨L',o,hf,hnn,(hs L' e).trans ho,hd⟩
section
variable {prog:Program} {w:World} {Γ:Ct} {B:Bl}
theorem store_var2 {d:Nat} (hB:B.Ok d) {A:Around} {H:Heap} {ρ:List Slot} {s:Shared} (hs:St Γ B H ρ s) {i:Nat} {x:Str} {p:PV} {v:Value} (hv:B.vs[i]?=some x) (hk:B.env.kindOf x=some .local)
  (hr:Rep H p v) {Q:Unit→Shared→Prop} {E:Value→Shared→Prop} (k:∀ s',St Γ B H (putS ρ i (.val p)) s'→ExtS B.N₀ H s H s'→Heap.SameBut B.env.locals s.heap s'.heap→Q () s') :
  wpAny (model prog w) A (storeName B.env x v) Q E s:=by
 obtain ⟨m,oa,hn,hl,hN,hsl,hdd⟩:=hs.loc
 refine wpAny_storeName_local hk hn (fun h' hn' hsb=>?_) (by rw [hB.kind]; rfl)
 have keep:∀ b o,s.heap.get? b=some o→b≠B.env.locals→h'.get? b=some o:=fun b o e hb=>(hsb.2 b hb).trans e
 have hst:H.StaysIn h':=fun b o e=>keep b o (hs.stays b o e) fun q=>by rw [q,hl] at e; cases e
 refine k _ ⟨hs.base,hst,frames_set hn' hsb.2 hs.frames,_,oa,hn',hl,hN,fun j y hy=>?_,fun a b l l' hab ha hb=>?_⟩ ⟨stays_refl _,fun _ _ _ _ _ e=>e,hst,fun b o hb e _=>⟨o.slots,keep b o e ?_⟩,rfl,rfl⟩ hsb
 ·rw [getS_put]
  by_cases hij:i=j∧i<ρ.length
  ·obtain ⟨rfl,_⟩:=hij
   rw [if_pos ⟨rfl,by assumption⟩]
   rw [hv] at hy; obtain rfl:=Option.some.inj hy
   exact ⟨v,by simp,hr⟩
  ·rw [if_neg hij]
   have hj:=hsl j y hy
   by_cases hij':i=j
   ·subst hij'
    have:getS ρ i=.unset:=getS_ge ρ i (by simpa using hij)
    rw [this]; trivial
   ·have hne:y≠x:=fun q=>by
     subst q
     exact hij' (nodup_at hB.nodup hv hy)
    revert hj
    cases getS ρ j with
    | unset=>exact fun h=>h
    | val q=>exact fun ⟨u,h1,h2⟩=>⟨u,by simp [hne,h1],h2⟩
    | own l =>
     intro ⟨hz,ws,h1,h2,h3,h4,h5⟩
     refine ⟨hz,ws,by simp [hne,h1],?_,h3,h4,h5⟩
     obtain ⟨o,n,ho,hc,hdn,hd⟩:=h2
     refine ⟨o,n,keep _ o ho fun q=>?_,hc,hdn,hd⟩
     obtain ⟨o',_,_,ho',hd',_⟩:=hn
     rw [q,ho'] at ho; obtain rfl:=Option.some.inj ho
     rw [hd] at hd'; cases hd'
 ·rw [getS_put] at ha hb
  split at ha
  ·cases ha
  ·split at hb
   ·cases hb
   ·exact hdd a b l l' hab ha hb
 ·exact fun q=>by rw [q] at hb; exact absurd hN (Nat.not_le.mpr hb)
theorem store_var {d:Nat} (hB:B.Ok d) {A:Around} {H:Heap} {ρ:List Slot} {s:Shared} (hs:St Γ B H ρ s) {i:Nat} {x:Str} {p:PV} {v:Value} (hv:B.vs[i]?=some x) (hk:B.env.kindOf x=some .local)
  (hr:Rep H p v) {Q:Unit→Shared→Prop} {E:Value→Shared→Prop} (k:∀ s',St Γ B H (putS ρ i (.val p)) s'→ExtS B.N₀ H s H s'→Q () s') :
  wpAny (model prog w) A (storeName B.env x v) Q E s:=store_var2 hB hs hv hk hr fun s' a b _=>k s' a b
theorem notComp_swaps {e:Expr} {t:Option Expr} {n:Nat} {env:Env} (h:notComp e=true):swapsWith e t n env=pure false:=by
 cases e <;> first | rfl | cases h
theorem ss_assign {d:Nat} (hB:B.Ok d) {x:Str} {xp pos:Pos} {e:Expr} {i:Nat} {f:List Slot→Res PV} (hv:B.vs[i]?=some x) (hk:B.env.kindOf x=some .local) (hn:notComp e=true)
  (he:SE prog w Γ B e f):SS prog w Γ B (.Assign [.Name x xp] e pos) (fun ρ=>(f ρ).bind fun v=>.ok (.next,putS ρ i (.val v))):=by
 intro H ρ s Q E hs hp
 refine wpAny_Assign_Name (he H ρ s _ _ hs (PostS.bind hp fun p v s₁ H₁ _ e₁ r hp₁=>?_)) (notComp_swaps hn)
 exact store_var hB (hs.ext e₁) hv hk r fun s' hs' ex=>hp₁ .next s' H₁ ex hs' rfl
theorem ss_ret {e:Expr} {pos:Pos} {f:List Slot→Res PV} (he:SE prog w Γ B e f):SS prog w Γ B (.Return (some e) pos) (fun ρ=>(f ρ).bind fun v=>.ok (.ret v,ρ)):=by
 intro H ρ s Q E hs hp
 refine wpAny_Return_some (he H ρ s _ _ hs (PostS.bind hp fun p v s₁ H₁ _ e₁ r hp₁=>?_))
 exact hp₁ _ s₁ H₁ (.refl (hs.ext e₁).stays) (hs.ext e₁) ⟨v,rfl,r⟩
theorem ss_brk {pos:Pos}:SS prog w Γ B (.Break pos) (fun ρ=>.ok (.brk,ρ)):=by
 intro H ρ s Q E hs hp
 exact fun _ _ _=>hp _ s H (.refl hs.stays) hs rfl
theorem ss_expr {e:Expr} {pos:Pos} {f:List Slot→Res PV} (hn:notComp e=true) (hi:interactive B.env=false) (he:SE prog w Γ B e f) :
  SS prog w Γ B (.Expr e pos) (fun ρ=>(f ρ).bind fun v=>if isNone v then .ok (.next,ρ) else .stuck):=by
 intro H ρ s Q E hs hp
 refine wpAny_Expr (he H ρ s _ _ hs (PostS.bind hp fun p v s₁ H₁ _ e₁ r hp₁=>?_)) hi (notComp_swaps hn)
 cases p <;> simp only [isNone,Bool.false_eq_true,if_false,if_true] at hp₁ <;> first | exact hp₁.elim | skip
 rw [Rep] at r; subst r
 exact hp₁ _ s₁ H₁ (.refl (hs.ext e₁).stays) (hs.ext e₁) rfl
theorem ss_if {t:Expr} {b o:List Stmt} {pos:Pos} {c:List Slot→Res Bool} {f g:List Slot→Res (Fl × List Slot)} (ht:SB prog w Γ B t c) (hb:SSs prog w Γ B b f) (ho:SSs prog w Γ B o g) :
  SS prog w Γ B (.If t b o pos) (fun ρ=>(c ρ).bind fun x=>if x then f ρ else g ρ):=by
 intro H ρ s Q E hs hp
 refine wpAny_If (ht H ρ s _ _ hs (PostS.bind hp fun x y s₁ H₁ _ e₁ hc hp₁=>?_))
 subst hc
 cases x with
 | true=>exact hb H₁ ρ s₁ _ _ (hs.ext e₁) hp₁
 | false=>exact ho H₁ ρ s₁ _ _ (hs.ext e₁) hp₁
theorem sss_nil:SSs prog w Γ B [] (fun ρ=>.ok (.next,ρ)):=by
 intro H ρ s Q E hs hp
 exact wpAny_execs_nil (hp _ s H (.refl hs.stays) hs rfl)
theorem sss_cons {st:Stmt} {r:List Stmt} {f g:List Slot→Res (Fl × List Slot)} (hf:SS prog w Γ B st f) (hg:SSs prog w Γ B r g) :
  SSs prog w Γ B (st::r) (fun ρ=>match f ρ with | .ok (.next,ρ')=>g ρ' | .ok (x,ρ')=>.ok (x,ρ') | .exc=>.exc | .stuck=>.stuck):=by
 intro H ρ s Q E hs hp
 refine wpAny_execs_cons (hf H ρ s _ _ hs ?_)
 cases hfr:f ρ with
 | stuck=>simp only [hfr] at hp; exact hp.elim
 | exc=>simp only [hfr] at hp; exact hp
 | ok q =>
  obtain ⟨fl,ρ'⟩:=q
  cases fl with
  | next =>
   simp only [hfr] at hp
   intro f' s' H' ex hs' hfl
   cases hfl
   exact hg H' ρ' s' _ _ hs' (PostS.ext hp ex)
  | brk =>
   simp only [hfr] at hp
   intro f' s' H' ex hs' hfl
   cases hfl
   exact hp _ s' H' ex hs' rfl
  | ret v =>
   simp only [hfr] at hp
   intro f' s' H' ex hs' hfl
   obtain ⟨u,rfl,hr⟩:=hfl
   exact hp _ s' H' ex hs' ⟨u,rfl,hr⟩
theorem st_frz {d:Nat} (hB:B.Ok d) (hfn:B.fenv.frame=some B.env.locals) {H:Heap} {ρ:List Slot} {s:Shared} (hs:St Γ B H ρ s) {i:Nat} {l:List PV} (hg:getS ρ i=.own l) (hi:B.vs[i]?.isSome) :
  ∃ H',St Γ B H' (putS ρ i (.val (.list l))) s∧ExtS B.N₀ H s H' s:=by
 obtain ⟨m,oa,hn,hl,hN,hsl,hdd⟩:=hs.loc
 obtain ⟨x,hx⟩:=Option.isSome_iff_exists.mp hi
 have h0:=hsl i x hx
 rw [hg] at h0
 obtain ⟨hz,ws,h1,⟨o,n,ho,hc,hdn,hd⟩,h3,h4,h5⟩:=h0
 obtain ⟨H',k1,k2,k3,k4⟩:=add_exists hs.stays ho
 have hle:=getS_lt hg
 refine ⟨H',⟨stays_trans hs.base k1,k2,?_,m,oa,hn,?_,hN,fun j y hy=>?_,fun a b l l' hab ha hb=>?_⟩,⟨k1,fun b o' hb e nf q=>?_,k2,fun b o' _ e _=>⟨o'.slots,e⟩,rfl,rfl⟩⟩
 ·have hne:B.env.locals≠oa i:=fun e=>by
   obtain ⟨o',_,_,ho',hd',_⟩:=hn
   rw [e,ho] at ho'; obtain rfl:=Option.some.inj ho'
   rw [hd] at hd'; cases hd'
  refine frames_mem hs.frames fun v hv L hL hLn=>?_
  rw [k4 L ?_]; exact hLn
  rcases List.mem_cons.mp hv with rfl | hv
  ·rw [hfn] at hL; obtain rfl:=Option.some.inj hL; exact hne
  ·exact fun q=>by rw [q] at hL; exact absurd h5 (Nat.not_le.mpr (hB.low v hv _ hL))
 ·by_cases e:B.env.locals=oa i
  ·obtain ⟨o',_,_,ho',hd',_⟩:=hn
   rw [e,ho] at ho'; obtain rfl:=Option.some.inj ho'
   rw [hd] at hd'; cases hd'
  ·rw [k4 _ e]; exact hl
 ·rw [getS_put]
  by_cases hij:i=j∧i<ρ.length
  ·obtain ⟨rfl,_⟩:=hij
   rw [if_pos ⟨rfl,hle⟩]
   rw [hx] at hy; obtain rfl:=Option.some.inj hy
   refine ⟨_,h1,?_⟩
   rw [Rep]
   exact ⟨_,ws,rfl,⟨o,k3,hc,n,hd⟩,hz,h3.mono k1⟩
  ·rw [if_neg hij]
   have hij':i≠j:=fun q=>hij ⟨q,hle⟩
   have hj:=hsl j y hy
   revert hj
   cases hgj:getS ρ j with
   | unset=>exact fun h=>h
   | val q=>exact fun ⟨u,h1,h2⟩=>⟨u,h1,h2.mono k1⟩
   | own l' =>
    intro ⟨hz',ws',h1',h2',h3',h4',h5'⟩
    refine ⟨hz',ws',h1',h2',h3'.mono k1,?_,h5'⟩
    rw [k4 _ (hdd j i l' l (Ne.symm hij') hgj hg (by rw [hy]; rfl) hi)]; exact h4'
 ·rw [getS_put] at ha hb
  split at ha
  ·cases ha
  ·split at hb
   ·cases hb
   ·exact hdd a b l l' hab ha hb
 ·rw [k4 b (fun z=>by rw [z] at hb; exact absurd h5 (Nat.not_le.mpr hb))]; exact q
end
end Mine
namespace Mine
open PySem PyProof.Rows
section
variable {prog:Program} {w:World} {Γ:Ct} {B:Bl}
theorem St.own_ne {H:Heap} {ρ:List Slot} {s:Shared} {m:Str→Option Value} {a:Addr} {ws:List Value} (hn:s.heap.Ns B.env.locals m) (h:OwnAt s.heap a ws):a≠B.env.locals:=fun q=>by
 obtain ⟨o,n,ho,_,_,hd⟩:=h
 obtain ⟨o',_,_,ho',hd',_⟩:=hn
 rw [q,ho'] at ho; obtain rfl:=Option.some.inj ho
 rw [hd] at hd'; cases hd'
theorem store_own {d:Nat} (hB:B.Ok d) {A:Around} {H:Heap} {ρ:List Slot} {s:Shared} (hs:St Γ B H ρ s) {i:Nat} {x:Str} {l:List PV} {ws:List Value} (hv:B.vs[i]?=some x) (hk:B.env.kindOf x=some .local)
  (hr:RepL H l ws) (hz:l.length≤lim) {Q:Unit→Shared→Prop} {E:Value→Shared→Prop} (k:∀ s',St Γ B H (putS ρ i (.own l)) s'→ExtS B.N₀ H s H s'→Q () s') :
  wpAny (model prog w) A (storeName B.env x (.ref s.heap.objs.size)) Q E { s with heap := s.heap.push { cls := .type "list",data := .seq ws.toArray } } := by
 have hs₁ : St Γ B H ρ { s with heap := s.heap.push { cls := .type "list",data := .seq ws.toArray } } := hs.ext (.push hs.stays _)
 obtain ⟨m₀,oa₀,hn₀,_⟩:=hs.loc
 obtain ⟨m,oa,hn,hl,hN,hsl,hdd⟩:=hs.loc
 have hN':B.N₀≤s.heap.objs.size:=Nat.le_of_lt (Nat.lt_of_le_of_lt hN hn.lt)
 have hn1 := hn.push ({ cls := .type "list",data := .seq ws.toArray } : Obj)
 have hfresh:H.get? s.heap.objs.size=none:=none_of_stays hs.stays (none_of_size (Nat.le_refl _))
 refine wpAny_storeName_local (s := { s with heap := s.heap.push { cls := .type "list",data := .seq ws.toArray } }) hk hn1 (fun h' hn' hsb => ?_) (by rw [hB.kind]; rfl)
 have keep:∀ b o,s.heap.get? b=some o→b≠B.env.locals→h'.get? b=some o:=fun b o e hb=>(hsb.2 b hb).trans (Heap.get?_push_of_some _ e)
 have hst:H.StaysIn h':=fun b o e=>keep b o (hs.stays b o e) fun q=>by rw [q,hl] at e; cases e
 have hnew:OwnAt h' s.heap.objs.size ws:=⟨_,_,(hsb.2 _ (Nat.ne_of_gt hn.lt)).trans (Heap.get?_push_size _ rfl),rfl,rfl,rfl⟩
 have hlt:∀ j y l',B.vs[j]?=some y→getS ρ j=.own l'→oa j<s.heap.objs.size:=fun j y l' hy hj=>by
  have:=hsl j y hy
  rw [hj] at this
  obtain ⟨_,_,_,⟨o,_,ho,_⟩,_⟩:=this
  exact Heap.lt_size ho
 refine k _ ⟨hs.base,hst,frames_set hn' hsb.2 (hs₁.frames),_,(fun j=>if j=i then s.heap.objs.size else oa j),hn',hl,hN,fun j y hy=>?_,fun a b l₁ l₂ hab ha hb hsa hsb'=>?_⟩ ⟨stays_refl _,fun _ _ _ _ _ e=>e,hst,fun b o hb e _=>⟨o.slots,keep b o e ?_⟩,rfl,rfl⟩
 ·rw [getS_put]
  by_cases hij:i=j∧i<ρ.length
  ·obtain ⟨rfl,hlen⟩:=hij
   rw [if_pos ⟨rfl,hlen⟩]
   rw [hv] at hy; obtain rfl:=Option.some.inj hy
   exact ⟨hz,ws,by simp,by simpa using hnew,hr,by simpa using hfresh,by simpa using hN'⟩
  ·rw [if_neg hij]
   have hj:=hsl j y hy
   by_cases hij':i=j
   ·subst hij'
    have:getS ρ i=.unset:=getS_ge ρ i (by simpa using hij)
    rw [this]; trivial
   ·have hne:y≠x:=fun q=>by
     subst q
     exact hij' (nodup_at hB.nodup hv hy)
    have hji:¬ j=i:=fun q=>hij' q.symm
    revert hj
    cases getS ρ j with
    | unset=>exact fun h=>h
    | val q=>exact fun ⟨u,h1,h2⟩=>⟨u,by simp [hne,h1],h2⟩
    | own l' =>
     intro ⟨hz',ws',h1,h2,h3,h4,h5⟩
     have hne2:=St.own_ne (H:=H) (ρ:=ρ) (B:=B) hn h2
     obtain ⟨o,n,ho,hc,hdn,hd⟩:=h2
     refine ⟨hz',ws',by simp [hne,h1,hji],?_,h3,by simpa [hji] using h4,by simpa [hji] using h5⟩
     simp only [hji,if_false]
     exact ⟨o,n,keep _ o ho hne2,hc,hdn,hd⟩
 ·rw [getS_put] at ha hb
  obtain ⟨ya,hya⟩:=Option.isSome_iff_exists.mp hsa
  obtain ⟨yb,hyb⟩:=Option.isSome_iff_exists.mp hsb'
  by_cases h1:a=i
  ·subst h1
   have h2:¬ b=a:=Ne.symm hab
   rw [if_neg (fun q=>hab q.1)] at hb
   simp only [if_true,h2,if_false]
   exact Nat.ne_of_gt (hlt b yb _ hyb hb)
  ·rw [if_neg (fun q=>h1 q.1.symm)] at ha
   by_cases h2:b=i
   ·subst h2
    simp only [if_true,h1,if_false]
    exact Nat.ne_of_lt (hlt a ya _ hya ha)
   ·rw [if_neg (fun q=>h2 q.1.symm)] at hb
    simp only [h1,h2,if_false]
    exact hdd a b _ _ hab ha hb hsa hsb'
 ·exact fun q=>by rw [q] at hb; exact absurd hN (Nat.not_le.mpr hb)
theorem ss_own {d:Nat} (hB:B.Ok d) {x:Str} {xp lp pos:Pos} {es:List Expr} {i:Nat} {f:List Slot→Res (List PV)} (hv:B.vs[i]?=some x) (hk:B.env.kindOf x=some .local)
  (he:SEs prog w Γ B es f):SS prog w Γ B (.Assign [.Name x xp] (.List es lp) pos) (fun ρ=>(f ρ).bind fun vs=>if vs.length≤lim then .ok (.next,putS ρ i (.own vs)) else .stuck):=by
 intro H ρ s Q E hs hp
 refine wpAny_Assign_Name (List_ (he lp H ρ s _ _ hs (PostS.bind hp fun p ws s₁ H₁ _ e₁ r hp₁=>?_))) (notComp_swaps rfl)
 by_cases hz:p.length≤lim
 ·rw [if_pos hz] at hp₁
  refine wpAny_newObj_type ?_ (by show ws.toArray.size≤sizeLine; rw [List.size_toArray,r.length]; exact lim_line hz)
  exact store_own hB (hs.ext e₁) hv hk r hz fun s' hs' ex=>hp₁ .next s' H₁ ex hs' rfl
 ·rw [if_neg hz] at hp₁; exact hp₁.elim
theorem ss_app {d : Nat} (hB : B.Ok d) {x : Str} {xp apos cpos pos : Pos} {e : Expr} {i : Nat} {f : List Slot → Res PV} (hv : B.vs[i]? = some x) (hk : B.env.kindOf x = some .local) (hd : (x == ("__debug__" : Str)) = false)
  (hln:(apos.endLine == cpos.line)=true) (hst:notStar e=true) (hi:interactive B.env=false)
  (he : SE prog w Γ B e f) : SS prog w Γ B (.Expr (.Call (.Attribute (.Name x xp) "append" apos) [e] [] cpos) pos)
   (fun ρ=>match getS ρ i with | .own l=>(f ρ).bind fun v=>if l.length<lim then .ok (.next,putS ρ i (.own (l++[v]))) else .stuck | _=>.stuck):=by
 intro H ρ s Q E hs hp
 have htr:backTo cpos (starEach [e] B.env)=[(false,eval e B.env)]:=by rw [starEach_cons hst]; rfl
 have main : ∀ l,getS ρ i = .own l → wpAny (model prog w) B.A (eval (.Call (.Attribute (.Name x xp) "append" apos) [e] [] cpos) B.env) (fun v s' => match v with | .ref _ => False | _ => Q .next s') E s := by
  intro l hg
  simp only [hg] at hp
  refine wpAny_Call_append rfl (by rw [htr]; rfl) hln htr ?_
  obtain ⟨m,oa,hn,hl,hN,hsl,hdd⟩:=hs.loc
  have h0:=hsl i x hv
  rw [hg] at h0
  obtain ⟨hz,ws,h1,h2,h3,h4,h5⟩:=h0
  refine wpAny_Name (wpAny_loadName_local hB.kind hk hn h1 ⟨oa i,ws.toArray,rfl,?_,?_⟩) hd
  ·obtain ⟨o,n,ho,hc,hdn,hdt⟩:=h2; exact ⟨o,n,ho,hc,hdn,hdt⟩
  refine he H ρ s _ _ hs (PostS.bind hp fun p v s₁ H₁ _ e₁ r hp₁=>?_)
  by_cases hll:l.length<lim
  ·rw [if_pos hll] at hp₁
   have hs₁:=hs.ext e₁
   have h2':=h2.ups e₁.ups
   have hn':s₁.heap.Ns B.env.locals m:=e₁.ups.ns hn
   have hne:oa i≠B.env.locals:=St.own_ne (H:=H) (ρ:=ρ) hn h2
   obtain ⟨o,n,ho,hc,hdn,hdt⟩:=id h2'
   have h4':H₁.get? (oa i)=none:=by
    obtain ⟨o0,n0,ho0,_,_,hdt0⟩:=h2
    exact e₁.old _ o0 ho0 (fun vs q=>by rw [hdt0] at q; cases q) h4
   have hl':H₁.get? B.env.locals=none:=by
    obtain ⟨o0,_,_,ho0,hd0,_⟩:=hn
    exact e₁.old _ o0 ho0 (fun vs q=>by rw [hd0] at q; cases q) hl
   refine list_append_plainL (its:=ws.toArray) ⟨o,n,ho,hc,hdn,hdt⟩ (fun h' hpl hsb=>?_) (by rw [List.size_toArray,h3.length]; exact lim_line hz)
   show Q .next _
   have keep:∀ b o,s₁.heap.get? b=some o→b≠oa i→h'.get? b=some o:=fun b o e hb=>(hsb.2 b hb).trans e
   have hst':H₁.StaysIn h':=fun b o e=>keep b o (hs₁.stays b o e) fun q=>by rw [q,h4'] at e; cases e
   have hown:OwnAt h' (oa i) (ws++[v]):=by
    obtain ⟨o',n',a1,a2,a3,a4⟩:=hpl
    exact ⟨o',n',a1,a2,a3,by rw [a4]; simp⟩
   refine hp₁ .next _ H₁ ⟨stays_refl _,fun _ _ _ _ _ e=>e,hst',fun b o hb e _=>⟨o.slots,keep b o e ?_⟩,rfl,rfl⟩ ⟨hs₁.base,hst',?_,m,oa,?_,hl',hN,fun j y hy=>?_,fun a b l₁ l₂ hab ha hb hsa hsb'=>?_⟩ rfl
   ·exact fun q=>by rw [q] at hb; exact absurd h5 (Nat.not_le.mpr hb)
   ·obtain ⟨o',n',a1,a2,a3,a4⟩:=hpl
    have:=hs₁.frames
    clear hp₁ hp
    revert this
    generalize B.fenv::B.outer=L
    intro this
    induction L with
    | nil=>trivial
    | cons v r ih =>
     obtain ⟨hk',⟨L',o₁,hf,hnn,ho₁,hd₁⟩,hr⟩:=this
     refine ⟨hk',?_,ih hr⟩
     by_cases q:L'=oa i
     ·subst q; exact ⟨_,o',hf,hnn,a1,fun vs q=>by rw [a4] at q; cases q⟩
     ·exact ⟨L',o₁,hf,hnn,keep _ _ ho₁ q,hd₁⟩
   ·obtain ⟨o',es',ep',a1,a2⟩:=hn'
    exact ⟨o',es',ep',keep _ _ a1 hne.symm,a2⟩
   ·rw [getS_put]
    by_cases hij:i=j∧i<ρ.length
    ·obtain ⟨rfl,hlen⟩:=hij
     rw [if_pos ⟨rfl,hlen⟩]
     rw [hv] at hy; obtain rfl:=Option.some.inj hy
     exact ⟨by rw [List.length_append]; exact hll,ws++[v],h1,hown,(h3.mono e₁.grow).append (.one r),h4',h5⟩
    ·rw [if_neg hij]
     have hij':i≠j:=fun q=>hij ⟨q,getS_lt hg⟩
     have hj:=hsl j y hy
     revert hj
     cases hgj:getS ρ j with
     | unset=>exact fun h=>h
     | val q=>exact fun ⟨u,k1,k2⟩=>⟨u,k1,k2.mono e₁.grow⟩
     | own l' =>
      intro ⟨hz',ws',k1,k2,k3,k4,k5⟩
      have hne3:oa j≠oa i:=hdd j i l' l (Ne.symm hij') hgj hg (by rw [hy]; rfl) (by rw [hv]; rfl)
      have k4':H₁.get? (oa j)=none:=by
       obtain ⟨o0,n0,ho0,_,_,hdt0⟩:=k2
       exact e₁.old _ o0 ho0 (fun vs q=>by rw [hdt0] at q; cases q) k4
      obtain ⟨o2,n2,ho2,hc2,hdn2,hdt2⟩:=k2.ups e₁.ups
      exact ⟨hz',ws',k1,⟨o2,n2,keep _ _ ho2 hne3,hc2,hdn2,hdt2⟩,k3.mono e₁.grow,k4',k5⟩
   ·rw [getS_put] at ha hb
    have ha':∃ l,getS ρ a=.own l:=by
     split at ha
     ·rename_i q; exact ⟨l,by rw [← q.1]; exact hg⟩
     ·exact ⟨_,ha⟩
    have hb':∃ l,getS ρ b=.own l:=by
     split at hb
     ·rename_i q; exact ⟨l,by rw [← q.1]; exact hg⟩
     ·exact ⟨_,hb⟩
    obtain ⟨la,ha'⟩:=ha'
    obtain ⟨lb,hb'⟩:=hb'
    exact hdd a b la lb hab ha' hb' hsa hsb'
  ·rw [if_neg hll] at hp₁; exact hp₁.elim
 cases hg:getS ρ i with
 | own l=>exact wpAny_Expr (main l hg) hi rfl
 | unset=>simp only [hg] at hp; exact hp.elim
 | val q=>simp only [hg] at hp; exact hp.elim
end
end Mine
namespace Mine
open PySem PyProof.Rows
section
variable {prog:Program} {w:World} {Γ:Ct} {B:Bl}
theorem ss_aug {d:Nat} (hB:B.Ok d) {x:Str} {xp pos:Pos} {op:Operator} {o:BOp} {e:Expr} {i:Nat} {f:List Slot→Res PV} (hv:B.vs[i]?=some x) (hk:B.env.kindOf x=some .local)
  (ho:bopOk op o=true) (he:SE prog w Γ B e f) :
  SS prog w Γ B (.AugAssign (.Name x xp) op e pos) (fun ρ=>match getS ρ i with | .val x=>(f ρ).bind fun y=>(augP o x y).bind fun v=>.ok (.next,putS ρ i (.val v)) | _=>.stuck):=by
 intro H ρ s Q E hs hp
 obtain ⟨m,oa,hn,hl,hN,hsl,hdd⟩:=hs.loc
 have h0:=hsl i x hv
 cases hg:getS ρ i with
 | unset=>simp only [hg] at hp; exact hp.elim
 | own l=>simp only [hg] at hp; exact hp.elim
 | val p =>
  simp only [hg] at hp
  rw [hg] at h0
  obtain ⟨v,hm,hr⟩:=h0
  refine wpAny_AugAssign_Name (wpAny_loadName_local hB.kind hk hn hm ?_)
  refine he H ρ s _ _ hs (PostS.bind hp fun q u s₁ H₁ _ e₁ r hp₁=>?_)
  cases of_decide_eq_true ho
  cases o <;> first | exact hp₁.elim | skip
  refine onI_k (Z:=fun r=>PostS Γ B H₁ s₁ (r.bind fun v=>.ok (.next,putS ρ i (.val v))) Q E) (P:=fun p=>Rep H p v→wpAny (model prog w) B.A (inplaceOp .Add v u) _ _ s₁) id hp₁ (fun a hp₁ hr=>?_) hr
  refine onI_k (Z:=fun r=>PostS Γ B H₁ s₁ (r.bind fun v=>.ok (.next,putS ρ i (.val v))) Q E) (P:=fun q=>Rep H₁ q u→wpAny (model prog w) B.A (inplaceOp .Add v u) _ _ s₁) id hp₁ (fun b hp₁ r=>?_) r
  obtain ⟨t,rfl⟩:=hr
  obtain ⟨t',rfl⟩:=r
  refine P.iadd_int ?_
  exact store_var hB (s:={ s₁ with toks:=s₁.toks+1 }) ((hs.ext e₁).ext (.refl (hs.ext e₁).stays)) hv hk (by exact ⟨_,rfl⟩) fun s' hs' ex=>hp₁ .next s' H₁ (ExtS.trans (.refl (hs.ext e₁).stays) ex) hs' rfl
theorem Bl.Ok.frame {d:Nat} (hB:B.Ok d) {H:Heap} {ρ:List Slot} {s:Shared} (hs:St Γ B H ρ s):∃ L,B.fenv.frame=some L:=by
 obtain ⟨_,⟨L,_,hf,_⟩,_⟩:=hs.frames
 exact ⟨L,hf⟩
theorem came {d:Nat} (hB:B.Ok d) {H H':Heap} {ρ:List Slot} {s:Shared} (hs:St Γ B H ρ s) {e:Addr} {s':Shared} {E:Value→Shared→Prop}
  (x:Flown H' (B.fenv::B.outer) e s'.heap) (hE:∀ h',Flown H' (B.fenv::B.outer) e h'→s'.heap.UpToSlots h'→E (.ref e) { s' with heap:=h' }) :
  notedBy (model prog w) B.A B.env (cameBackBy (model prog w) B.A B.env E) (.ref e) s':=by
 obtain ⟨L,hf⟩:=hB.frame hs
 exact came_flown hB.fr hB.stack hf x hE
theorem whileN_succ (t:List Slot→Res Bool) (b:List Slot→Res (Fl × List Slot)) (n:Nat) (ρ:List Slot):whileN t b (n+1) ρ=(t ρ).bind fun c=>if c then
   match b ρ with
   | .ok (.next,ρ')=>whileN t b n ρ'
   | .ok (.brk,ρ')=>.ok (.next,ρ')
   | .ok (.ret v,ρ')=>.ok (.ret v,ρ')
   | .exc=>.exc
   | .stuck=>.stuck
  else .ok (.next,ρ):=rfl
theorem ss_while {d:Nat} (hB:B.Ok d) {t:Expr} {b:List Stmt} {pos:Pos} {c:List Slot→Res Bool} {f:List Slot→Res (Fl × List Slot)} (ht:SB prog w Γ B t c) (hb:SSs prog w Γ B b f) (W:Nat) :
  SS prog w Γ B (.While t b [] pos) (fun ρ=>whileN c f W ρ):=by
 intro H ρ s Q E hs hp
 refine wpAny_While ?_
 refine codeAny_whileLoop (fun n s'=>∃ H' ρ',ExtS B.N₀ H s H' s'∧St Γ B H' ρ' s'∧PostS Γ B H' s' (whileN c f n ρ') Q E) ?_ W ⟨H,ρ,.refl hs.stays,hs,hp⟩
 rintro n s' ⟨H',ρ',ex,hs',hp'⟩
 cases n with
 | zero=>exact hp'.elim
 | succ n =>
  rw [whileN_succ] at hp'
  have exc:∀ (e:Addr) (s'':Shared) (H'':Heap),ExtS B.N₀ H' s' H'' s''→Flown H'' (B.fenv::B.outer) e s''.heap →
    (∀ e s'' H'',ExtS B.N₀ H' s' H'' s''→Flown H'' (B.fenv::B.outer) e s''.heap→E (.ref e) s'') →
    notedBy (model prog w) B.A B.env (cameBackBy (model prog w) B.A B.env E) (.ref e) s'':=fun e s'' H'' ex' fl hE =>
   came hB hs' fl fun h' fl' u=>hE e { s'' with heap:=h' } H'' (ex'.ups' u fl'.stays) fl'
  refine ht H' ρ' s' _ _ hs' ?_
  cases hc:c ρ' with
  | stuck=>rw [hc] at hp'; exact hp'.elim
  | exc=>rw [hc] at hp'; exact fun e s'' H'' e' fl=>exc e s'' H'' e'.toS fl hp'
  | ok y =>
   rw [hc] at hp'
   intro y' s₁ H₁ e₁ hy
   subst hy
   have hs₁:=hs'.ext e₁
   have hp₁:=PostS.ext hp' e₁.toS
   cases y with
   | false =>
    show wpAny _ _ (execs [] _) _ _ _
    exact wpAny_execs_nil (hp₁ .next s₁ H₁ (.refl hs₁.stays) hs₁ rfl)
   | true =>
    show wpAny _ _ (execs b _) _ _ _
    refine hb H₁ ρ' s₁ _ _ hs₁ ?_
    have hp₁:PostS Γ B H₁ s₁ (match f ρ' with | .ok (.next,ρ')=>whileN c f n ρ' | .ok (.brk,ρ')=>.ok (.next,ρ') | .ok (.ret v,ρ')=>.ok (.ret v,ρ') | .exc=>.exc | .stuck=>.stuck) Q E:=hp₁
    have hp':PostS Γ B H' s' (match f ρ' with | .ok (.next,ρ')=>whileN c f n ρ' | .ok (.brk,ρ')=>.ok (.next,ρ') | .ok (.ret v,ρ')=>.ok (.ret v,ρ') | .exc=>.exc | .stuck=>.stuck) Q E:=hp'
    cases hf:f ρ' with
    | stuck=>rw [hf] at hp₁; exact hp₁.elim
    | exc =>
     simp only [hf] at hp'
     exact fun e s'' H'' e' fl=>exc e s'' H'' (e₁.toS.trans e') fl hp'
    | ok q =>
     obtain ⟨fl,ρ''⟩:=q
     cases fl with
     | next =>
      simp only [hf] at hp₁
      intro g s₂ H₂ e₂ hs₂ hfl
      cases hfl
      exact ⟨n,Nat.lt_succ_self _,H₂,ρ'',(ex.trans e₁.toS).trans e₂,hs₂,PostS.ext hp₁ e₂⟩
     | brk =>
      simp only [hf] at hp₁
      intro g s₂ H₂ e₂ hs₂ hfl
      cases hfl
      exact hp₁ .next s₂ H₂ e₂ hs₂ rfl
     | ret v =>
      simp only [hf] at hp₁
      intro g s₂ H₂ e₂ hs₂ hfl
      obtain ⟨u,rfl,hr⟩:=hfl
      exact hp₁ _ s₂ H₂ e₂ hs₂ ⟨u,rfl,hr⟩
theorem ss_raise {d : Nat} (hΓ : Γ.Ok) (hB : B.Ok d) {x : Str} {np kp cpos pos : Pos} {k : Nat} {t : Str} (hx : x = Str.ofString "ValueError") (hk : B.env.kindOf x = some .globalImplicit) (hd : (x == ("__debug__" : Str)) = false) :
  SS prog w Γ B (.Raise (some (.Call (.Name x np) [.Constant (.str t) k kp] [] cpos)) none pos) (fun _=>.exc):=by
 intro H ρ s Q E hs hp
 refine Raise_madeB F.excCall_ValueError F.excRaise_ValueError hB.hand ?_
 refine word_name hΓ hB hk hd (by subst hx; decide) (by subst hx; exact Boot.«ValueError») hs ⟨rfl,?_⟩
 refine Calls.spliced_cons (Calls.Constant_str (k:=k) (pos:=kp) (Calls.spliced_nil ⟨by show 1≤sizeLine; decide,fun h' e hm=>?_⟩))
 have hm':=hm.of
 have ex:Ext H s H { s with heap:=h' }:=.keeps hs.stays hm'.keeps
 refine hp e _ H (Ext.toS (.keeps hs.stays hm'.keeps)) (.inr (.inr ⟨ex.stays,none_of_stays hs.stays hm'.new,(show Heap.FunFrames h' H _ from frames_ext (s':={ s with heap:=h' }) hs.frames ex),?_⟩))
 obtain ⟨tt,he,_,_⟩:=hm'.there
 exact ⟨_,_,_,he,rfl,rfl,rfl,rfl⟩
end
end Mine
namespace Mine
open PySem PyProof.Rows
section
variable {prog:Program} {w:World} {Γ:Ct} {B:Bl}
theorem swap_gen (c1 c2 c3 c4 c5:Bool) (ns:List Str) (what:String) :
  (if c1=true then (pure none:Sem (Option (List Str))) else if c2=true then pure none else if c3=true then pure none else if c4=true then pure none else if c5=true then unsupported what else pure (some ns)) =
  match (if c1=true then some none else if c2=true then some none else if c3=true then some none else if c4=true then some none else if c5=true then none else some (some ns)) with
   | some r=>pure r
   | none=>unsupported what:=by
 cases c1 <;> cases c2 <;> cases c3 <;> cases c4 <;> cases c5 <;> rfl
theorem swapped_eq (ts:List Expr) (k:Nat) (p:Pos) (value:Expr) (env:Env) :
  swappedStores [.Tuple ts k p] value env=match swP (fun x=>env.kindOf x == some .local) (env.blockKind == .function) [.Tuple ts k p] value with
   | some r=>pure r
   | none => unsupported "assign.tuple-of-constant-expressions:order-of-the-stores" := by
 cases value with
 | Tuple vs k' p' =>
  unfold swappedStores swP
  dsimp only
  have e1:(env.blockKind != .function)=!(env.blockKind == .function):=rfl
  rw [e1]
  exact swap_gen _ _ _ _ _ _ _
 | _=>rfl
theorem store_many {α:Type} (nm:α→Str) {d:Nat} (hB:B.Ok d) {H:Heap} {tgt:α→Value→Sem Unit}
  (ht:∀ x v s (Q:Unit→Shared→Prop) (E:Value→Shared→Prop),wpAny (model prog w) B.A (storeName B.env (nm x) v) Q E s→wpAny (model prog w) B.A (tgt x v) Q E s) :
  ∀ {xs:List α} {is:List Nat} {ps:List PV} {vs:List Value} {ρ:List Slot} {s:Shared} (_:St Γ B H ρ s)
  (_:(xs.map nm).map some=is.map (fun i=>B.vs[i]?)) (_:∀ x∈xs,B.env.kindOf (nm x)=some .local) (_:RepL H ps vs) (_:ps.length=is.length)
  {Q:Unit→Shared→Prop} {E:Value→Shared→Prop} (_:∀ s',St Γ B H (putsS ρ is ps) s'→ExtS B.N₀ H s H s'→Q () s'),
  wpAny (model prog w) B.A (assignInOrder (xs.map tgt) vs) Q E s:=by
 intro xs
 induction xs with
 | nil =>
  intro is ps vs ρ s hs hx hk hr hl Q E k
  have:is=[]:=by cases is <;> simp_all
  subst this
  have:ps=[]:=by cases ps <;> simp_all
  subst this
  rw [RepL] at hr; subst hr
  exact wpAny_pure (k s hs (.refl hs.stays))
 | cons x xs ih =>
  intro is ps vs ρ s hs hx hk hr hl Q E k
  cases is with
  | nil=>simp at hx
  | cons i is =>
   cases ps with
   | nil=>simp at hl
   | cons p ps =>
    rw [RepL] at hr
    obtain ⟨v,t,rfl,hp,hr⟩:=hr
    simp only [List.map_cons,List.cons.injEq] at hx
    show wpAny _ _ (do holding t (tgt x v); assignInOrder (xs.map tgt) t) _ _ _
    refine wpAny_bind (wpAny_holding (ht _ _ _ _ _ ?_))
    refine store_var hB hs hx.1.symm (hk x (.head _)) hp fun s' hs' ex=>?_
    exact ih hs' hx.2 (fun y hy=>hk y (.tail _ hy)) hr (by simpa using hl) fun s'' hs'' ex'=>k s'' hs'' (ex.trans ex')
theorem ns_names {N:Nm}:∀ {ts:List Expr} {is:List Nat},chkNs N ts is=true →
  ∃ xs:List (Str × Pos),ts=xs.map (fun q=>Expr.Name q.1 q.2)∧(xs.map (·.1)).map some=is.map (fun i=>N.vs[i]?)∧∀ q∈xs,N.names.lookup q.1=some .local
 | ts,[],h=>onL0_k (P:=fun ts=>∃ xs:List (Str × Pos),ts=xs.map (fun q=>Expr.Name q.1 q.2)∧(xs.map (·.1)).map some=([]:List Nat).map (fun i=>N.vs[i]?)∧∀ q∈xs,N.names.lookup q.1=some .local) (by cases ts <;> exact h:onL0 ts true=true)
   fun _=>⟨[],rfl,rfl,fun _ h=>nomatch h⟩
 | [],_::_,h=>ff h
 | e::r,i::t,h=>onName_k (P:=fun e=>∃ xs:List (Str × Pos),e::r=xs.map (fun q=>Expr.Name q.1 q.2)∧(xs.map (·.1)).map some=(i::t).map (fun i=>N.vs[i]?)∧∀ q∈xs,N.names.lookup q.1=some .local) (show onName e _=true from h) fun x p h=>by
  obtain ⟨h3,h4,_⟩:=var_names (aL h)
  obtain ⟨xs,e1,e2,e3⟩:=ns_names (aR h)
  refine ⟨(x,p)::xs,by rw [e1]; rfl,by simp only [List.map_cons,e2,h3],fun q hq=>?_⟩
  rcases List.mem_cons.mp hq with rfl | hq
  ·exact h4
  ·exact e3 q hq
theorem each_names (env:Env):∀ xs:List (Str × Pos),assignEach (xs.map fun q=>Expr.Name q.1 q.2) env=xs.map fun q=>(false,assign (.Name q.1 q.2) env)
 | []=>rfl
 | q::r=>by
  show (false,assign (.Name q.1 q.2) env)::assignEach (r.map _) env=_
  rw [each_names env r]; rfl
theorem unpack_items {d:Nat} (hB:B.Ok d) {H:Heap} {ρ:List Slot} {s:Shared} (hs:St Γ B H ρ s) {n:Nat} {p:PV} {v:Value} (hr:Rep H p v) {ps:List PV} (hu:unpackP n p=.ok ps)
  {Q:List Value→Shared→Prop} {E:Value→Shared→Prop} (k:∀ ws s',ps.length=n→RepL H ps ws→St Γ B H ρ s'→ExtS B.N₀ H s H s'→Q ws s') :
  wpAny (model prog w) B.A (unpackItems v n none) Q E s:=by
 cases p <;> simp only [unpackP] at hu <;> first | (cases hu; done) | skip
 rename_i l
 by_cases hl:l.length=n
 ·rw [if_pos hl] at hu; cases hu
  rw [Rep] at hr
  obtain ⟨a,ws,rfl,ht,hz,hrl⟩:=hr
  have hsz:n=ws.toArray.size:=by rw [List.size_toArray,hrl.length,hl]
  rw [hsz]
  have ht':s.heap.IsTuple a ws.toArray:=let ⟨o,ho,r⟩:=ht; ⟨o,hs.stays _ _ ho,r⟩
  refine wpAny_unpackItems_tuple hB.hand ht' fun h' he=>?_
  have kp:s.heap.StaysIn h':=fun b o e=>he b o (Nat.ne_of_lt (Heap.lt_size e)) e
  have ex:Ext H s H { s with heap:=h' }:=.keeps hs.stays kp
  exact k _ _ hl hrl (hs.ext (s':={ s with heap:=h' }) ex) ex.toS
 ·rw [if_neg hl] at hu; cases hu
theorem kind_fn {env:Env} (h:env.scope.kind=.function):env.blockKind=.function:=by unfold Env.blockKind; rw [h]; rfl
theorem ss_assignT {d:Nat} (hB:B.Ok d) {N:Nm} (hN:N.vs=B.vs) (hNn:N.names=B.env.scope.names) {ts:List Expr} {tk:Nat} {tp pos:Pos} {e:Expr} {rev:Bool} {is:List Nat} {f:List Slot→Res PV}
  (hts:chkNs N ts is=true) (hn:notComp e=true) (hsw:swOk N rev [.Tuple ts tk tp] e is=true) (he:SE prog w Γ B e f) :
  SS prog w Γ B (.Assign [.Tuple ts tk tp] e pos) (fun ρ=>if rev then .stuck else (f ρ).bind fun v=>(unpackP is.length v).bind fun vs=>.ok (.next,putsS ρ is vs)):=by
 cases rev with
 | true=>exact fun H ρ s Q E hs hp=>hp.elim
 | false =>
  obtain ⟨xs,rfl,hx,hk⟩:=ns_names hts
  rw [hN] at hx
  have hk':∀ q∈xs,B.env.kindOf q.1=some .local:=fun q hq=>by show B.env.scope.names.lookup q.1=_; rw [← hNn]; exact hk q hq
  have hswap:swapsWithSole [.Tuple (xs.map fun q=>Expr.Name q.1 q.2) tk tp] e pos.line B.env=pure false:=by
   unfold swapsWithSole
   exact notComp_swaps hn
  have hst:=swapped_eq (xs.map fun q=>Expr.Name q.1 q.2) tk tp e B.env
  have hfun:(fun x=>B.env.kindOf x == some .local)=fun x=>N.names.lookup x == some .local:=by
   funext x; show (B.env.scope.names.lookup x == _)=_; rw [hNn]
  rw [hfun,kind_fn hB.kind] at hst
  unfold swOk at hsw
  intro H ρ s Q E hs hp
  have go:∀ p v s₁ H₁,St Γ B H₁ ρ s₁→Rep H₁ p v→PostS Γ B H₁ s₁ ((unpackP is.length p).bind fun vs=>.ok (.next,putsS ρ is vs)) Q E →
    ∃ ps,unpackP is.length p=.ok ps:=fun p v s₁ H₁ _ _ hp₁=>by
   cases hu:unpackP is.length p with
   | ok ps=>exact ⟨ps,rfl⟩
   | stuck=>rw [hu] at hp₁; exact hp₁.elim
   | exc=>cases p <;> simp only [unpackP] at hu <;> first | (cases hu; done) | (split at hu <;> cases hu)
  cases hw:swP (fun x=>N.names.lookup x == some .local) true [.Tuple (xs.map fun q=>Expr.Name q.1 q.2) tk tp] e with
  | none=>rw [hw] at hsw; cases hsw
  | some r =>
   rw [show ((ScopeKind.function == ScopeKind.function):Bool)=true from rfl,hw] at hst
   rw [hw] at hsw
   cases r with
   | none =>
    have hst:swappedStores [.Tuple (xs.map fun q=>Expr.Name q.1 q.2) tk tp] e B.env=pure none:=hst
    refine Assign_Tuple (he H ρ s _ _ hs (PostS.bind hp fun p v s₁ H₁ _ e₁ rr hp₁=>?_)) hswap hst
    obtain ⟨ps,hu⟩:=go p v s₁ H₁ (hs.ext e₁) rr hp₁
    rw [hu] at hp₁
    rw [arm_assign_Tuple]
    refine wpAny_bind (wpAny_standAt ?_)
    unfold unpack
    rw [each_names]
    have hfi:(xs.map fun q=>((false,assign (.Name q.1 q.2) B.env):Bool × (Value→Sem Unit))).findIdx? (·.1)=none:=by
     rw [List.findIdx?_eq_none_iff]; intro x hx'; obtain ⟨q,_,rfl⟩:=List.mem_map.mp hx'; rfl
    rw [hfi]
    have hlen:(xs.map fun q=>((false,assign (.Name q.1 q.2) B.env):Bool × (Value→Sem Unit))).length=is.length:=by
     have:=congrArg List.length hx; simpa using this
    rw [hlen]
    refine wpAny_bind (wpAny_holding (unpack_items hB (hs.ext e₁) rr hu fun ws s₂ hpl hrl hs₂ ex₂=>?_))
    rw [List.map_map]
    refine store_many (fun q:Str × Pos=>q.1) hB (tgt:=fun q=>assign (.Name q.1 q.2) B.env) (fun q v s Q E h=>wpAny_assign_Name h) hs₂ hx hk' hrl hpl fun s₃ hs₃ ex₃=>?_
    exact hp₁ .next s₃ H₁ (ex₂.trans ex₃) hs₃ rfl
   | some ns=>cases hsw
end
end Mine
namespace Mine
open PySem PyProof.Rows
noncomputable def itTypes : List String := ["list_iterator","tuple_iterator","range_iterator","bytes_iterator"]
noncomputable def IterObj (o:Obj):Prop:=∃ T∈itTypes,o.cls=.type T∧∃ vs,o.data=.fields vs
noncomputable def It (prog:Program) (w:World) (A:Around) (H:Heap) (I:Addr) (l:List PV) (Sx:Nat→Heap→Prop):Prop :=
 ∃ fp P,Walks prog w A I fp [I] l.length P Sx∧(∀ b∈fp,b≠I→∃ o,H.get? b=some o)∧(∀ i v,i<l.length→P i v→∃ p,l[i]?=some p∧Rep H p v) ∧
  (∀ i h,Sx i h→∃ o,h.get? I=some o∧IterObj o)
section
variable {prog:Program} {w:World} {Γ:Ct} {B:Bl}
theorem It.mono {A:Around} {H H':Heap} {I:Addr} {l:List PV} {Sx:Nat→Heap→Prop} (x:It prog w A H I l Sx) (h:H.StaysIn H'):It prog w A H' I l Sx :=
 let ⟨fp,P,W,h1,h2,h3⟩:=x; ⟨fp,P,W,fun b hb hn=>let ⟨o,ho⟩:=h1 b hb hn; ⟨o,h b o ho⟩,fun i v hi hv=>let ⟨p,hp,hr⟩:=h2 i v hi hv; ⟨p,hp,hr.mono h⟩,h3⟩
theorem iter_of {A:Around} (hh:A.handled=none) {H:Heap} {s:Shared} (hst:H.StaysIn s.heap) {p:PV} {v:Value} {l:List PV} (hr:Rep H p v) (hl:itemsP p=.ok l) {Q:Value→Shared→Prop} {E:Value→Shared→Prop}
  (k:∀ s' Sx,Ext H s H s'→H.get? s.heap.objs.size=none→s.heap.get? s.heap.objs.size=none→It prog w A H s.heap.objs.size l Sx→Sx 0 s'.heap→Q (.ref s.heap.objs.size) s') :
  wpAny (model prog w) A (pyIter v) Q E s:=by
 have hn:s.heap.get? s.heap.objs.size=none:=none_of_size (Nat.le_refl _)
 have hH:H.get? s.heap.objs.size=none:=none_of_stays hst hn
 have hne:∀ a o,H.get? a=some o→a≠s.heap.objs.size:=fun a o e q=>by rw [q,hH] at e; cases e
 cases p <;> simp only [itemsP] at hl <;> first | (cases hl; done) | skip
 ·rename_i ks
  cases hl
  rw [Rep] at hr
  obtain ⟨b,t,rfl,hb,hz⟩:=hr
  refine PySem.W.KBw.pyIter_bytes ?_
  refine k _ (fun i h=>PySem.W.KBw.IsBytesIter h s.heap.objs.size b t i) (.push hst _) hH hn ⟨[s.heap.objs.size],fun i v=>∃ c u,b[i]?=some c∧v=.int (c.toNat:Int) u,?_,?_,?_,?_⟩ ⟨_,Heap.get?_push_size _ rfl,rfl,rfl⟩
  ·have:=PySem.W.KBw.walks (prog:=prog) (w:=w) hh s.heap.objs.size b t
   have e:(List.map PV.int ks).length=b.size:=by rw [List.length_map,← hb]; simp [bInt]
   rw [e]; exact this
  ·intro b' hb' hn'; simp at hb'; exact absurd hb' hn'
  ·rintro i v hi ⟨c,u,hc,rfl⟩
   refine ⟨.int c.toNat,?_,by rw [Rep]; exact ⟨_,rfl⟩⟩
   rw [List.getElem?_map,← hb]
   simp [bInt,hc]
  ·rintro i h ⟨o,ho,hc,hd⟩
   exact ⟨o,ho,"bytes_iterator",by decide,hc,_,hd⟩
 ·rename_i ps
  cases hl
  rw [Rep] at hr
  obtain ⟨a,ws,rfl,ht,hz,hrl⟩:=hr
  obtain ⟨o₀,ho₀,hc₀,n₀,hd₀⟩:=id ht
  have ht':s.heap.IsTuple a ws.toArray:=⟨o₀,hst _ _ ho₀,hc₀,n₀,hd₀⟩
  refine wpAny_pyIter_tuple ht' ?_
  refine k _ (fun i h=>h.IsTupleIter s.heap.objs.size a i∧h.IsTuple a ws.toArray) (.push hst _) hH hn ⟨[s.heap.objs.size,a],fun i v=>ws.toArray[i]?=some v,?_,?_,?_,?_⟩ ⟨⟨_,Heap.get?_push_size _ rfl,rfl,rfl⟩,ht'.push _⟩
  ·have:=Walks.tuple (prog:=prog) (w:=w) hh s.heap.objs.size a (hne a _ ho₀) ws.toArray
   have e:l.length=ws.toArray.size:=by simp [hrl.length]
   rw [e]; exact this
  ·intro b' hb' hn'; simp at hb'; rcases hb' with rfl | rfl
   ·exact absurd rfl hn'
   ·exact ⟨o₀,ho₀⟩
  ·intro i v hi hv
   obtain ⟨p,hp⟩:∃ p,l[i]?=some p:=⟨l[i],by simp [hi]⟩
   obtain ⟨u,hu,hr⟩:=hrl.get hp
   rw [List.getElem?_toArray,hu] at hv; cases hv
   exact ⟨p,hp,hr⟩
  ·rintro i h ⟨⟨o,ho,hc,hd⟩,_⟩
   exact ⟨o,ho,"tuple_iterator",by decide,hc,_,hd⟩
 ·rename_i ps
  cases hl
  rw [Rep] at hr
  obtain ⟨a,ws,rfl,ht,hz,hrl⟩:=hr
  obtain ⟨o₀,ho₀,hc₀,n₀,hd₀⟩:=id ht
  have ht':s.heap.IsList a ws.toArray:=⟨o₀,hst _ _ ho₀,hc₀,n₀,hd₀⟩
  refine wpAny_pyIter_list ht' ?_
  refine k _ (fun i h=>h.IsListIter s.heap.objs.size a i∧h.IsList a ws.toArray) (.push hst _) hH hn ⟨[s.heap.objs.size,a],fun i v=>ws.toArray[i]?=some v,?_,?_,?_,?_⟩ ⟨⟨_,Heap.get?_push_size _ rfl,rfl,rfl⟩,ht'.push _⟩
  ·have:=Walks.list (prog:=prog) (w:=w) hh s.heap.objs.size a (hne a _ ho₀) ws.toArray
   have e:l.length=ws.toArray.size:=by simp [hrl.length]
   rw [e]; exact this
  ·intro b' hb' hn'; simp at hb'; rcases hb' with rfl | rfl
   ·exact absurd rfl hn'
   ·exact ⟨o₀,ho₀⟩
  ·intro i v hi hv
   obtain ⟨p,hp⟩:∃ p,l[i]?=some p:=⟨l[i],by simp [hi]⟩
   obtain ⟨u,hu,hr⟩:=hrl.get hp
   rw [List.getElem?_toArray,hu] at hv; cases hv
   exact ⟨p,hp,hr⟩
  ·rintro i h ⟨⟨o,ho,hc,hd⟩,_⟩
   exact ⟨o,ho,"list_iterator",by decide,hc,_,hd⟩
theorem St.add {H:Heap} {ρ:List Slot} {s:Shared} (hs:St Γ B H ρ s) {I:Addr} {o:Obj} {vs:Array Value} (ho:s.heap.get? I=some o) (hd:o.data=.fields vs) :
  ∃ H',H.StaysIn H'∧H'.get? I=some o∧(∀ b,b≠I→H'.get? b=H.get? b)∧St Γ B H' ρ s:=by
 obtain ⟨H',k1,k2,k3,k4⟩:=add_exists hs.stays ho
 have ne:∀ b o',s.heap.get? b=some o'→NF o'→b≠I:=fun b o' e hn q=>by
  rw [q,ho] at e; obtain rfl:=Option.some.inj e; exact hn vs hd
 refine ⟨H',k1,k3,k4,stays_trans hs.base k1,k2,?_,?_⟩
 ·exact funFrames_base' hs.frames fun b o' e hn h0=>by rw [k4 b (ne b o' e hn)]; exact h0
 ·obtain ⟨m,oa,hn,hl,hN,hsl,hdd⟩:=hs.loc
  refine ⟨m,oa,hn,?_,hN,fun i x hx=>?_,hdd⟩
  ·obtain ⟨o',_,_,ho',hd',_⟩:=hn
   rw [k4 _ (ne _ o' ho' (fun vs q=>by rw [hd'] at q; cases q))]; exact hl
  ·have:=hsl i x hx
   revert this
   cases getS ρ i with
   | unset=>exact fun h=>h
   | val p=>exact fun ⟨v,a,b⟩=>⟨v,a,b.mono k1⟩
   | own l =>
    intro ⟨hz,ws,a,b,c,d,e⟩
    obtain ⟨o',_,ho',_,_,hd'⟩:=id b
    exact ⟨hz,ws,a,b,c.mono k1,by rw [k4 _ (ne _ o' ho' (fun vs q=>by rw [hd'] at q; cases q))]; exact d,e⟩
theorem St.hide {H:Heap} {ρ:List Slot} {s:Shared} (hs:St Γ B H ρ s) {I:Addr} {o:Obj} {vs:Array Value} (ho:H.get? I=some o) (hd:o.data=.fields vs) (hb:Γ.Base.get? I=none) :
  St Γ B (H.hide I) ρ s:=by
 have sub:Sub H (H.hide I):=fun b o' e hn=>by
  rw [Heap.hide_ne H (fun q=>by rw [q,ho] at e; obtain rfl:=Option.some.inj e; exact hn vs hd)]; exact e
 have none:∀ b,H.get? b=none→(H.hide I).get? b=none:=fun b e=>none_of_stays (fun c o'=>Heap.of_hide) e
 refine ⟨fun b o' e=>?_,fun b o' e=>hs.stays b o' (Heap.of_hide e),funFrames_base' hs.frames fun b _ _ _ h0=>none b h0,?_⟩
 ·rw [Heap.hide_ne H (fun q=>by rw [q,hb] at e; cases e)]; exact hs.base b o' e
 ·obtain ⟨m,oa,hn,hl,hN,hsl,hdd⟩:=hs.loc
  refine ⟨m,oa,hn,none _ hl,hN,fun i x hx=>?_,hdd⟩
  have:=hsl i x hx
  revert this
  cases getS ρ i with
  | unset=>exact fun h=>h
  | val p=>exact fun ⟨v,a,b⟩=>⟨v,a,b.sub sub⟩
  | own l=>exact fun ⟨hz,ws,a,b,c,d,e⟩=>⟨hz,ws,a,b,c.sub sub,none _ d,e⟩
theorem codeAny_for2 {A:Around} {R:Result→Shared→Prop} {target:Expr} {it:Value} {body:List Stmt} {env:Env} {s:Shared} (I:Nat→Shared→Prop)
  (turn:∀ n s,I n s→wpAny (model prog w) A (pyNext it) (fun r s₁=>match r with
   | none=>R (.ok .next) s₁
   | some v=>wpAny (model prog w) A (letOwnedTupleGo target it v) (fun _ s₁'=>wpAny (model prog w) A (assign target env v) (fun _ s₂=>wpAny (model prog w) A (execs body env) (fun f s₃=>match f with
     | .next | .cont=>∃ m,m<n∧I m s₃
     | .brk=>R (.ok .next) s₃
     | .ret v=>R (.ok (.ret v)) s₃) (notedBy (model prog w) A env fun e s'=>R (.error e) s') s₂) (notedBy (model prog w) A env fun e s'=>R (.error e) s') s₁') (notedBy (model prog w) A env fun e s'=>R (.error e) s') s₁) (notedBy (model prog w) A env fun e s'=>R (.error e) s') s)
  (n:Nat) (h:I n s):codeAny (model prog w) A (.forLoop target it body [] env) R s:=by
 refine codeAny_loop' rfl I (fun n s hI=>?_) n h
 show wpAny _ _ ((forTurn target it body [] env).onRaise (fun x=>do noteFrame x env; theTreesLotGoes x)) _ _ s
 refine wpAny_noted ?_
 simp only [forTurn]
 refine wpAny_bind (wpAny_standAt (wpAny_bind (wpAny_onRaise (wpAny_mono (turn n s hI) (fun r s₁ h₁=>?_) fun _ _ h'=>wpAny_standAt h'))))
 cases r with
 | none=>exact wpAny_pure (.inr ⟨rfl,codeAny_block (wpAny_execs_nil h₁)⟩)
 | some v =>
  refine wpAny_bind (wpAny_mono h₁ (fun _ s₁' h₁'=>?_) fun _ _ h'=>h')
  refine wpAny_bind (wpAny_mono h₁' (fun _ s₂ h₂=>wpAny_bind (wpAny_mono h₂ (fun f s₃ h₃=>?_) fun _ _ h'=>h')) fun _ _ h'=>h')
  cases f with
  | next=>exact wpAny_pure (.inl ⟨rfl,h₃⟩)
  | cont=>exact wpAny_pure (.inl ⟨rfl,h₃⟩)
  | brk=>exact wpAny_pure h₃
  | ret v=>exact wpAny_pure h₃
noncomputable def SetOk (prog:Program) (w:World) (Γ:Ct) (B:Bl) (target:Expr) (set:List Slot→PV→Res (List Slot)):Prop :=
 ∀ H ρ s p v I o (Q:Unit→Shared→Prop) (E:Value→Shared→Prop),St Γ B H ρ s→Rep H p v→H.get? I=some o→IterObj o →
  (match set ρ p with | .ok ρ'=>∀ s',St Γ B H ρ' s'→ExtS B.N₀ H s H s'→Q () s' | _=>False) →
  wpAny (model prog w) B.A (letOwnedTupleGo target (.ref I) v) (fun _ s₁=>wpAny (model prog w) B.A (assign target B.env v) Q E s₁) E s
theorem forN_cons (set:List Slot→PV→Res (List Slot)) (b:List Slot→Res (Fl × List Slot)) (v:PV) (r:List PV) (ρ:List Slot):forN set b (v::r) ρ=(set ρ v).bind fun ρ' =>
   match b ρ' with
   | .ok (.next,ρ'')=>forN set b r ρ''
   | .ok (.brk,ρ'')=>.ok (.next,ρ'')
   | .ok (.ret v,ρ'')=>.ok (.ret v,ρ'')
   | .exc=>.exc
   | .stuck=>.stuck:=rfl
theorem for_loop {d:Nat} (hB:B.Ok d) {target:Expr} {body:List Stmt} {set:List Slot→PV→Res (List Slot)} {f:List Slot→Res (Fl × List Slot)} (hset:SetOk prog w Γ B target set) (hsetE:∀ ρ p,set ρ p≠.exc)
  (hb:SSs prog w Γ B body f) {H:Heap} {ρ:List Slot} {s:Shared} (hs:St Γ B H ρ s) {I:Addr} {l:List PV} {Sx:Nat→Heap→Prop} (it:It prog w B.A H I l Sx) (h0:Sx 0 s.heap) (hI:H.get? I=none)
  (hbase:Γ.Base.get? I=none) {Q:Flow→Shared→Prop} {E:Value→Shared→Prop} (hp:PostS Γ B H s (forN set f l ρ) Q E) :
  codeAny (model prog w) B.A (.forLoop target (.ref I) body [] B.env) (fun r s'=>match r with | .ok f=>Q f s' | .error e=>cameBackBy (model prog w) B.A B.env E e s') s:=by
 refine codeAny_for2 (fun n s'=>∃ H' ρ' i,n=l.length - i∧i≤l.length∧ExtS B.N₀ H s H' s'∧St Γ B H' ρ' s'∧H'.get? I=none∧Sx i s'.heap∧It prog w B.A H' I l Sx∧PostS Γ B H' s' (forN set f (l.drop i) ρ') Q E)
  ?_ l.length ⟨H,ρ,0,rfl,Nat.zero_le _,.refl hs.stays,hs,hI,h0,it,by simpa using hp⟩
 intro n s' hI
 refine nc fun hG=>?_
 obtain ⟨H',ρ',i,hn,hi,ex,hs',hI',hsx,it',hp'⟩:=hI
 obtain ⟨fp,P,W,hfp,hP,hobj⟩:=id it'
 obtain ⟨oI,hoI,hoIt⟩:=hobj i _ hsx
 have ne:∀ b o',s'.heap.get? b=some o'→NF o'→b≠I:=fun b o' e hn q=>by
  obtain ⟨_,_,_,vs,hd⟩:=hoIt
  rw [q,hoI] at e; obtain rfl:=Option.some.inj e; exact hn vs hd
 have turned:∀ h',(∀ b o,b ∉ [I]→s'.heap.get? b=some o→h'.get? b=some o)→∀ tk,St Γ B H' ρ' { s' with heap:=h',toks:=tk }∧ExtS B.N₀ H' s' H' { s' with heap:=h',toks:=tk }:=fun h' hk tk=>by
  have kp:∀ b o,s'.heap.get? b=some o→NF o→h'.get? b=some o:=fun b o e hn=>hk b o (by simpa using ne b o e hn) e
  have ex':Ext H' s' H' { s' with heap:=h',toks:=tk }:=⟨stays_refl _,fun _ _ _ _ e=>e,fun b o e=>hk b o (by simpa using fun q=>by rw [q,hI'] at e; cases e) (hs'.stays b o e),fun b o e hn=>⟨o.slots,kp b o e hn⟩,rfl,rfl⟩
  exact ⟨hs'.ext (s':={ s' with heap:=h',toks:=tk }) ex',ex'.toS⟩
 by_cases hlt:i<l.length
 ·refine hG (W.item i s' _ _ hlt hsx fun v h' tk hv hsx' hk=>?_)
  clear hG
  refine nc fun hG=>?_
  obtain ⟨p,hpi,hrep⟩:=hP i v hlt hv
  obtain ⟨hs₁,ex₁⟩:=turned h' hk tk
  have hdrop:l.drop i=p::l.drop (i+1):=by
   rw [List.drop_eq_getElem_cons hlt]
   obtain ⟨_,e⟩:=List.getElem?_eq_some_iff.mp hpi
   rw [e]
  rw [hdrop,forN_cons] at hp'
  obtain ⟨oJ,hoJ,hoJt⟩:=hobj (i+1) _ hsx'
  obtain ⟨T,hT,hcls,vs,hdat⟩:=id hoJt
  obtain ⟨Hp,k1,k2,k3,hs₂⟩:=hs₁.add (I:=I) hoJ hdat
  refine hG ?_
  clear hG
  show wpAny _ _ (letOwnedTupleGo target (.ref I) v) _ _ _
  refine hset Hp ρ' _ p v I oJ _ _ hs₂ (hrep.mono k1) k2 hoJt ?_
  cases hse:set ρ' p with
  | stuck=>rw [hse] at hp'; exact hp'.elim
  | exc=>exact absurd hse (hsetE _ _)
  | ok ρ₁ =>
   rw [hse] at hp'
   intro s₃ hs₃ ex₃
   have hp':PostS Γ B H' s' (match f ρ₁ with
    | .ok (.next,ρ'')=>forN set f (l.drop (i+1)) ρ''
    | .ok (.brk,ρ'')=>.ok (.next,ρ'')
    | .ok (.ret v,ρ'')=>.ok (.ret v,ρ'')
    | .exc=>.exc
    | .stuck=>.stuck) Q E:=hp'
   have back:∀ H₄ s₄,ExtS B.N₀ Hp s₃ H₄ s₄→ExtS B.N₀ H' s' (H₄.hide I) s₄:=fun H₄ s₄ e₄=>by
    have e:=ex₃.trans e₄
    refine ⟨fun b o q=>?_,fun b o hb q nf z=>?_,fun b o q=>e₄.stays b o (Heap.of_hide q),fun b o hb q nf=>?_,e.same⟩
    ·rw [Heap.hide_ne _ (fun z=>by rw [z,hI'] at q; cases q)]
     exact e.grow b o (k1 b o q)
    ·have hbI:=ne b o q nf
     have q':=hk b o (by simpa using hbI) q
     exact none_of_stays (fun c o'=>Heap.of_hide) (e.old b o hb q' nf (by rw [k3 b hbI]; exact z))
    ·have hbI:=ne b o q nf
     exact e.ups b o hb (hk b o (by simpa using hbI) q) nf
   refine hb Hp ρ₁ s₃ _ _ hs₃ ?_
   cases hf:f ρ₁ with
   | stuck=>simp only [hf] at hp'; exact hp'.elim
   | exc =>
    simp only [hf] at hp'
    intro e s₄ H₄ e₄ fl
    refine came hB hs' (H':=H₄.hide I) ?_ fun h'' fl' u=>hp' e { s₄ with heap:=h'' } (H₄.hide I) ((back H₄ s₄ e₄).ups' u fl'.stays) fl'
    exact fl.hide I e₄.stays
   | ok q =>
    obtain ⟨fl,ρ₂⟩:=q
    cases fl with
    | next =>
     simp only [hf] at hp'
     intro g s₄ H₄ e₄ hs₄ hfl
     cases hfl
     have hoK:H₄.get? I=some oJ:=e₄.grow _ _ k2
     refine ⟨l.length - (i+1),by rw [hn]; lia,H₄.hide I,ρ₂,i+1,rfl,hlt,ex.trans (back H₄ s₄ e₄),hs₄.hide hoK hdat hbase,Heap.hide_self _ _,?_,?_,PostS.ext hp' (back H₄ s₄ e₄)⟩
     ·refine W.frame (i+1) h' _ hsx' fun b hb' o q=>?_
      by_cases hbI:b=I
      ·subst hbI
       rw [hoJ] at q; obtain rfl:=Option.some.inj q
       exact hs₄.stays _ _ hoK
      ·obtain ⟨o',ho'⟩:=hfp b hb' hbI
       have:=hs₁.stays b o' ho'
       rw [show h'.get? b=some o from q] at this
       obtain rfl:=Option.some.inj this
       exact hs₄.stays _ _ (e₄.grow _ _ (ex₃.grow _ _ (k1 b o ho')))
     ·exact it'.mono (back H₄ s₄ e₄).grow
    | brk =>
     simp only [hf] at hp'
     intro g s₄ H₄ e₄ hs₄ hfl
     cases hfl
     exact hp' .next s₄ (H₄.hide I) (back H₄ s₄ e₄) (hs₄.hide (e₄.grow _ _ k2) hdat hbase) rfl
    | ret u =>
     simp only [hf] at hp'
     intro g s₄ H₄ e₄ hs₄ hfl
     obtain ⟨u',rfl,hru⟩:=hfl
     refine hp' _ s₄ (H₄.hide I) (back H₄ s₄ e₄) (hs₄.hide (e₄.grow _ _ k2) hdat hbase) ⟨u',rfl,?_⟩
     exact hru.sub fun b o' e hn=>by
      rw [Heap.hide_ne _ (fun q=>by
       rw [q,e₄.grow _ _ k2] at e; obtain rfl:=Option.some.inj e; exact hn vs hdat)]; exact e
 ·have hie:i=l.length:=Nat.le_antisymm hi (Nat.le_of_not_lt hlt)
  rw [hie,List.drop_length] at hp'
  rw [hie] at hsx
  refine hG (W.done s' _ _ hsx fun h' tk hk=>?_)
  obtain ⟨hs₁,ex₁⟩:=turned h' hk tk
  exact hp' .next { s' with heap:=h',toks:=tk } H' ex₁ hs₁ rfl
theorem set_name {d:Nat} (hB:B.Ok d) {x:Str} {xp:Pos} {i:Nat} (hv:B.vs[i]?=some x) (hk:B.env.kindOf x=some .local) :
  SetOk prog w Γ B (.Name x xp) (fun ρ v=>.ok (putS ρ i (.val v))):=by
 intro H ρ s p v I o Q E hs hr _ _ hp
 refine wpAny_pure (wpAny_assign_Name ?_)
 exact store_var hB hs hv hk hr fun s' hs' ex=>hp s' hs' ex
theorem folded_not {e:Expr} {env:Env} (h:notSet e=true) (x:Value):foldedSetIterable e env x=pure x:=by
 cases e <;> first | rfl | cases h
theorem ss_for {d:Nat} (hB:B.Ok d) {target e:Expr} {body:List Stmt} {pos:Pos} {set:List Slot→PV→Res (List Slot)} {f:List Slot→Res (Fl × List Slot)} {g:List Slot→Res PV} (hset:SetOk prog w Γ B target set) (hsetE:∀ ρ p,set ρ p≠.exc)
  (hn:notSet e=true) (he:SE prog w Γ B e g) (hb:SSs prog w Γ B body f) :
  SS prog w Γ B (.For target e body [] pos) (fun ρ=>(g ρ).bind fun x=>(itemsP x).bind fun l=>forN set f l ρ):=by
 intro H ρ s Q E hs hp
 refine wpAny_For (he H ρ s _ _ hs (PostS.bind hp fun p v s₁ H₁ _ e₁ rr hp₁=>?_)) (folded_not hn)
 cases hl:itemsP p with
 | stuck=>rw [hl] at hp₁; exact hp₁.elim
 | exc=>cases p <;> cases hl
 | ok l =>
  rw [hl] at hp₁
  have hs₁:=hs.ext e₁
  refine iter_of hB.hand hs₁.stays rr hl fun s₂ Sx e₂ h1 h2 it h0=>?_
  exact for_loop hB hset hsetE hb (hs₁.ext e₂) it h0 h1 (none_of_stays (stays_trans hs₁.base hs₁.stays) h2) (PostS.ext hp₁ e₂.toS)
end
end Mine
namespace Mine
open PySem PyProof.Rows
structure Pre (Γ:Ct) (d:Nat) (A:Around) (H:Heap) (l:List Env) (s:Shared):Prop where
 base:Γ.Base.StaysIn H
 stays:H.StaysIn s.heap
 frames:s.heap.FunFrames H l
 stack:A.frames=some l
 hand:A.handled=none
 depth:A.depth+d≤recursionLimit
 units:A.units+8 * d+100≤cLine
noncomputable def Con (prog:Program) (w:World) (Γ:Ct) (d:Nat) (x:Str) (args:List PV) (r:Res PV):Prop :=
 ∀ a A H l s ws (Q E:Value→Shared→Prop),Γ.mg x=some (.ref a)→Pre Γ d A H l s→RepL H args ws→Post Rep l H s r Q E→wpAny (model prog w) A (call (.ref a) ws) Q E s
noncomputable def FnAt (Γ:Ct) (x:Str):Prop:=∃ a o fd,Γ.mg x=some (.ref a)∧Γ.Base.get? a=some o∧o.data=.func fd
section
variable {prog:Program} {w:World} {Γ:Ct} {B:Bl}
theorem Bl.Ok.pre {d:Nat} (hB:B.Ok d) {H:Heap} {ρ:List Slot} {s:Shared} (hs:St Γ B H ρ s):Pre Γ d B.A H (B.fenv::B.outer) s :=
 ⟨hs.base,hs.stays,hs.frames,hB.stack,hB.hand,hB.depth,hB.units⟩
theorem se_call {d : Nat} (hΓ : Γ.Ok) (hB : B.Ok d) {x : Str} {p pos : Pos} {e : Expr} {es : List Expr} {f : List Slot → Res (List PV)} {F : List PV → Res PV} (hk : B.env.kindOf x = some .globalImplicit) (hd : (x == ("__debug__" : Str)) = false)
  (hfn:FnAt Γ x) (hn:notStar e=true) (hes:SEs prog w Γ B (e::es) f) (hF:∀ args,Con prog w Γ d x args (F args)) :
  SE prog w Γ B (.Call (.Name x p) (e::es) [] pos) (fun ρ=>(f ρ).bind F):=by
 intro H ρ s Q E hs hp
 obtain ⟨a,o,fd,hm,ho,hdat⟩:=hfn
 refine Call_Name rfl (top_name hΓ hB hk hd hm hs ?_)
 have he:backTo pos (starEach (e::es) B.env)=(false,eval e B.env)::backTo pos (starEach es B.env):=by rw [starEach_cons hn]; rfl
 rw [he]
 refine Calls.callWith_function (o:=o) (fd:=fd) (Calls.evalArgs_plain ?_)
 rw [← he]
 refine hes pos H ρ s _ _ hs (Post.bind hp fun ps ws s₁ H₁ _ e₁ r hp₁=>?_)
 have hs₁:=hs.ext e₁
 exact ⟨⟨stays_trans hs₁.base hs₁.stays _ _ ho,hdat⟩,hF ps a B.A H₁ _ s₁ ws _ _ hm (hB.pre hs₁) r hp₁⟩
theorem sub_VE : isSubtype (.type "ValueError") (.type "ValueError") = pure true := by rw [isSubtype_type]; kernel_rfl
theorem caught {d : Nat} (hΓ : Γ.Ok) (hB : B.Ok d) {v y : Str} {vp yp cp ap hp' : Pos} {k : Nat} {c : Const} {j : Nat} {pv : PV} (hv : v = Str.ofString "ValueError") (hvk : B.env.kindOf v = some .globalImplicit) (hvd : (v == ("__debug__" : Str)) = false)
  (hy:B.vs[j]?=some y) (hyk:B.env.kindOf y=some .local) (hl:litOk c pv=true) (hlb:∀ l,pv=.bytes l→l.length≤1048576)
  {H:Heap} {ρ:List Slot} {s:Shared} (hs:St Γ B H ρ s) {e:Addr} (fl:Flown H (B.fenv::B.outer) e s.heap) {Q:Flow→Shared→Prop} {E:Value→Shared→Prop}
  (kq:∀ s' H',ExtS B.N₀ H s H' s'→St Γ B H' (putS ρ j (.val pv)) s'→Q .next s') :
  wpAny (model prog w) B.A (noteFrame (.ref e) B.env) (fun _ s₂=>wpAny (model prog w) B.A (setFlight (.ref e) none) (fun _ s₃ =>
   wpAny (model prog w) B.A (handleBy (.ref e) B.env [.ExceptHandler (some (.Name v vp)) none [.Assign [.Name y yp] (.Constant c k cp) ap] hp']) Q E s₃) E s₂) E s:=by
 obtain ⟨L,hf⟩:=hB.frame hs
 rw [noteFrame_eq hB.fr]
 refine note_flown hB.stack hf fl fun h₁ a0 held u₁=>?_
 refine wpAny_landsW held fun h₂ fly u₂=>?_
 have ex:Ext H s H { s with heap:=h₂ }:=⟨stays_refl _,fun _ _ _ _ e=>e,fly.1,u₁.trans u₂,rfl,rfl⟩
 have hs₂:St Γ B H ρ { s with heap:=h₂ }:=hs.ext ex
 refine wpAny_handleBy_builtin (X := "ValueError") (T := "ValueError") (b := true) F.isExc_ValueError F.notTuple_ValueError sub_VE ?_
 have hT : ∀ s' : Shared,s'.heap = h₂ → s'.TypeIs (.ref e) "ValueError" := fun s' q => by
  obtain ⟨ob,ho,hc⟩:=fly.there
  exact ⟨ob,by rw [q]; exact ho,hc⟩
 refine Calls.Name_function_global hB.kind hvk (Calls.loadGlobal_builtin (by rw [hB.glob]; exact hΓ.g.keeps (stays_trans hs₂.base hs₂.stays)) (hΓ.word v (by subst hv; decide)).1
  (by rw [hB.bui]; exact hΓ.b.keeps (stays_trans hs₂.base hs₂.stays)) ((hΓ.word v (by subst hv; decide)).2.trans (by subst hv; exact Boot.«ValueError»)) ⟨rfl,hT _ rfl,?_⟩) hvd
 refine lands_againW fly fun h₃ fly₃ u₃=>?_
 have ex₃:Ext H s H { s with heap:=h₃ }:=⟨stays_refl _,fun _ _ _ _ e=>e,fly₃.1,(u₁.trans u₂).trans u₃,rfl,rfl⟩
 have hs₃:St Γ B H ρ { s with heap:=h₃ }:=hs.ext ex₃
 refine wpAny_execs_cons (wpAny_Assign_Name ?_ rfl)
 have:=se_lit (prog:=prog) (w:=w) (Γ:=Γ) (B:={ B with A:=B.A.mark (some (.ref e)) }) (k:=k) (pos:=cp) hl hlb H ρ { s with heap:=h₃ }
 refine this _ _ ⟨hs₃.base,hs₃.stays,hs₃.frames,let ⟨m,oa,a,b,c,d,e⟩:=hs₃.loc; ⟨m,oa,a,b,c,d,e⟩⟩ fun v' s₄ H₄ ex₄ r=>?_
 have hs₄:St Γ B H₄ ρ s₄:=hs₃.ext ex₄
 exact store_var hB hs₄ hy hyk r fun s₅ hs₅ ex₅=>wpAny_execs_nil (kq s₅ H₄ ((ex₃.toS.trans ex₄.toS).trans ex₅) hs₅)
theorem ss_try0 {d:Nat} (hΓ:Γ.Ok) (hB:B.Ok d) {v y:Str} {asp vp yp cp ap hp' pos:Pos} {k:Nat} {c:Const} {j:Nat} {pv:PV} {e:Expr} {f:List Slot→Res PV}
  (hn:notComp e=true) (hi:interactive B.env=false) (he:SE prog w Γ B e f)
  (hv : v = Str.ofString "ValueError") (hvk : B.env.kindOf v = some .globalImplicit) (hvd : (v == ("__debug__" : Str)) = false)
  (hy:B.vs[j]?=some y) (hyk:B.env.kindOf y=some .local) (hl:litOk c pv=true) (hlb:∀ l,pv=.bytes l→l.length≤1048576) :
  SS prog w Γ B (.Try [.Expr e asp] [.ExceptHandler (some (.Name v vp)) none [.Assign [.Name y yp] (.Constant c k cp) ap] hp'] [] [] pos)
   (fun ρ=>match f ρ with | .ok _=>.ok (.next,ρ) | .exc=>.ok (.next,putS ρ j (.val pv)) | .stuck=>.stuck):=by
 intro H ρ s Q E hs hp
 refine wpAny_Try_except (wpAny_execs_cons ?_)
 rw [exec_Expr _ e asp hi (notComp_swaps hn)]
 refine wpAny_bind (wpAny_standAt (wpAny_bind (he H ρ s _ _ hs ?_)))
 cases hf:f ρ with
 | stuck=>simp only [hf] at hp; exact hp.elim
 | ok q =>
  simp only [hf] at hp
  intro u s₁ H₁ e₁ r
  have fin:wpAny (model prog w) B.A (execs [] B.env) (fun f s'=>match f with | .next=>wpAny (model prog w) B.A (execs [] B.env) Q E s' | f=>Q f s')
    (fun e' s₁=>wpAny (model prog w) B.A (noteFrame e' B.env) (fun _ s₂=>wpAny (model prog w) B.A (setFlight e' none) (fun _ s₃=>wpAny (model prog w) B.A (handleBy e' B.env [.ExceptHandler (some (.Name v vp)) none [.Assign [.Name y yp] (.Constant c k cp) ap] hp']) Q E s₃) E s₂) E s₁) s₁ :=
   wpAny_execs_nil (wpAny_execs_nil (hp .next s₁ H₁ e₁.toS (hs.ext e₁) rfl))
  unfold dropValue
  split
  ·exact wpAny_pure fin
  ·exact wpAny_bind (wpAny_standAt (wpAny_bind (wpAny_runValue (codeAny_builtin entry_let_go (show wpAny _ _ (ret .none) _ _ s₁ from wpAny_pure (wpAny_pure fin))))))
  ·exact wpAny_pure fin
 | exc =>
  simp only [hf] at hp
  intro e' s₁ H₁ e₁ fl
  exact caught hΓ hB hv hvk hvd hy hyk hl hlb (hs.ext e₁) fl fun s' H' ex hs'=>hp .next s' H' (e₁.toS.trans ex) hs' rfl
end
end Mine
namespace Mine
open PySem PyProof.Rows
section
variable {prog:Program} {w:World} {Γ:Ct} {B:Bl}
theorem ss_forR {d:Nat} (hΓ:Γ.Ok) (hB:B.Ok d) {x r:Str} {xp rp cp pos:Pos} {e:Expr} {i:Nat} {body:List Stmt} {f:List Slot→Res (Fl × List Slot)} {g:List Slot→Res PV}
  (hv : B.vs[i]? = some x) (hk : B.env.kindOf x = some .local) (hr : r = Str.ofString "range") (hrk : B.env.kindOf r = some .globalImplicit) (hrd : (r == ("__debug__" : Str)) = false) (hst : notStar e = true)
  (he:SE prog w Γ B e g) (hb:SSs prog w Γ B body f) :
  SS prog w Γ B (.For (.Name x xp) (.Call (.Name r rp) [e] [] cp) body [] pos) (fun ρ=>(g ρ).bind fun x=>match x with
   | .int k=>if -(lim:Int)≤k∧k≤lim then forN (fun ρ v=>.ok (putS ρ i (.val v))) f (rangeL k) ρ else .stuck
   | _=>.stuck):=by
 intro H ρ s Q E hs hp
 refine wpAny_For ?_
 refine Call_Name rfl (word_name hΓ hB hrk hrd (by subst hr; decide) (by subst hr; exact Boot.«range») hs ?_)
 have htr:backTo cp (starEach [e] B.env)=[(false,eval e B.env)]:=by rw [starEach_cons hst]; rfl
 rw [htr]
 refine PySem.callWith_type rfl (Calls.evalArgs_plain (Calls.spliced_cons (he H ρ s _ _ hs (PostS.bind hp fun p v s₁ H₁ hgp e₁ rr hp₁=>Calls.spliced_nil ?_))))
 clear hgp
 cases p <;> first | exact hp₁.elim | skip
 rename_i N
 dsimp only at hp₁
 by_cases hN:-(lim:Int)≤N∧N≤lim
 ·rw [if_pos hN] at hp₁
  rw [Rep] at rr
  obtain ⟨t,rfl⟩:=rr
  have hs₁:=hs.ext e₁
  have hlim:(lim:Int)=1048576:=rfl
  rw [hlim] at hN
  refine call_range_1 ?_
  refine wpAny_pyIter_range (IsRange.new ..) (small_one (by decide) (by decide) (by lia) (by lia)) ?_
  have hsz:Builtin.Range.rangeSize 0 N 1=(N.toNat:Int):=by rw [rangeSize_one]; split <;> lia
  have kp : s₁.heap.StaysIn ((s₁.heap.push { cls := .type "range",data := .fields #[.int 0 s₁.toks,.int N t,.int 1 (s₁.toks + 1)] }).push { cls := .type "range_iterator",data := .fields #[rawInt 0,rawInt (Builtin.Range.rangeSize 0 N 1),rawInt 1] }) :=
   stays_trans (stays_push _ _) (stays_push _ _)
  have ex : Ext H₁ s₁ H₁ { s₁ with heap := (s₁.heap.push { cls := .type "range",data := .fields #[.int 0 s₁.toks,.int N t,.int 1 (s₁.toks + 1)] }).push { cls := .type "range_iterator",data := .fields #[rawInt 0,rawInt (Builtin.Range.rangeSize 0 N 1),rawInt 1] },toks := s₁.toks + 1 + 1 } := .keeps hs₁.stays kp
  have hlen:(rangeL N).length=N.toNat:=by simp [rangeL]
  have hnew:s₁.heap.get? (s₁.heap.objs.size+1)=none:=none_of_size (Nat.le_succ _)
  have hI:H₁.get? (s₁.heap.objs.size+1)=none:=none_of_stays hs₁.stays hnew
  have hsz' : (s₁.heap.push ({ cls := .type "range",data := .fields #[.int 0 s₁.toks,.int N t,.int 1 (s₁.toks + 1)] } : Obj)).objs.size = s₁.heap.objs.size + 1 := Heap.size_push _ _
  have main:=for_loop hB (set_name (prog:=prog) (w:=w) (Γ:=Γ) (xp:=xp) hB hv hk) (fun _ _ q=>nomatch q) hb
   (s := { s₁ with heap := (s₁.heap.push { cls := .type "range",data := .fields #[.int 0 s₁.toks,.int N t,.int 1 (s₁.toks + 1)] }).push { cls := .type "range_iterator",data := .fields #[rawInt 0,rawInt (Builtin.Range.rangeSize 0 N 1),rawInt 1] },toks := s₁.toks + 1 + 1 })
   (hs₁.ext (s':={ s₁ with heap:=_,toks:=s₁.toks+1+1 }) ex) (I:=s₁.heap.objs.size+1) (l:=rangeL N)
   (Sx:=fun i h=>IsRangeIter h (s₁.heap.objs.size+1) (0+(i:Nat) * 1) ((N.toNat:Int) - (i:Nat)) 1) ?_ ?_ hI (none_of_stays (stays_trans hs₁.base hs₁.stays) hnew) (PostS.ext hp₁ ex.toS)
  ·have:=main
   rw [← hsz'] at this
   exact this
  ·refine ⟨[s₁.heap.objs.size+1],fun i v=>∃ t,v=.int (0+(i:Nat) * 1) t,?_,?_,?_,?_⟩
   ·rw [hlen]; exact Walks.range hB.hand _ 0 1 N.toNat
   ·intro b hb' hn; simp at hb'; exact absurd hb' hn
   ·rintro i v hi ⟨t,rfl⟩
    rw [hlen] at hi
    refine ⟨.int i,by simp [rangeL,hi],?_⟩
    rw [Rep]; exact ⟨t,by simp⟩
   ·intro i h q
    exact ⟨_,q,"range_iterator",by decide,rfl,_,rfl⟩
  ·show IsRangeIter _ _ _ _ _
   have e1:(0+((0:Nat):Int) * 1)=0:=by simp
   have e2:((N.toNat:Int) - ((0:Nat):Int))=Builtin.Range.rangeSize 0 N 1:=by rw [hsz]; simp
   rw [e1,e2]
   have := Heap.get?_push_size (s₁.heap.push { cls := .type "range",data := .fields #[.int 0 s₁.toks,.int N t,.int 1 (s₁.toks + 1)] }) (o := { cls := .type "range_iterator",data := .fields #[rawInt 0,rawInt (Builtin.Range.rangeSize 0 N 1),rawInt 1] }) rfl
   rw [hsz'] at this
   exact this
 ·rw [if_neg hN] at hp₁; exact hp₁.elim
end
end Mine
namespace Mine
open PySem PyProof.Rows
noncomputable def compEnvOf (sc:Scope) (cl:List (Str × Addr)) (C:Addr) (env:Env):Env:=newEnv sc C env.globals cl env.qual none .none (some env) 0
noncomputable def Bl.compC (B:Bl) (sc:Scope) (cl:List (Str × Addr)) (x:Str) (C:Addr):Bl :=
 { env:={ compEnvOf sc cl C B.env with scope:=sc },fenv:=B.fenv,outer:=B.outer,A:=B.A,N₀:=B.N₀,vs:=[x] }
noncomputable abbrev Bl.comp (B:Bl) (sc:Scope) (x:Str) (C:Addr):Bl:=B.compC sc [] x C
section
variable {prog:Program} {w:World} {Γ:Ct} {B:Bl}
theorem Bl.Ok.compC {d:Nat} (hB:B.Ok d) {sc:Scope} (hk:sc.kind=.function) (cl:List (Str × Addr)) (x:Str) (C:Addr):(B.compC sc cl x C).Ok d :=
 ⟨hk,hB.glob,hB.bui,hB.fr,hB.stack,hB.hand,hB.depth,hB.units,by simp [Bl.compC],hB.low⟩
theorem Bl.Ok.comp {d:Nat} (hB:B.Ok d) {sc:Scope} (hk:sc.kind=.function) (x:Str) (C:Addr):(B.comp sc x C).Ok d:=hB.compC hk [] x C
theorem mapR_cons {α β:Type} (f:α→Res β) (a:α) (r:List α):mapR f (a::r)=(f a).bind fun b=>(mapR f r).bind fun bs=>.ok (b::bs):=rfl
theorem held_set {H h h':Heap} {l:List Env} {e L C:Addr} {a0:Value} {m:Str→Option Value} (x:Heap.HeldW H l e VE a0 L h) (hC:H.get? C=none) (hn:h.Ns C m) (hfr:h'.FunFrames H l) (hs:Heap.SameBut C h h'):Heap.HeldW H l e VE a0 L h':=by
 obtain ⟨x1,x2,x3,oe,vs,T,oT,ts,y1,y2,y3,y4,y5,y6,y7,y8,y9⟩:=x
 have ne:∀ b o (vs:Array Value),h.get? b=some o→o.data=.fields vs→b≠C:=fun b o vs e hd q=>by
  obtain ⟨o',_,_,ho',hd',_⟩:=hn
  rw [q,ho'] at e; obtain rfl:=Option.some.inj e
  rw [hd] at hd'; cases hd'
 exact ⟨fun b o q=>(hs.2 b (fun z=>by rw [z,hC] at q; cases q)).trans (x1 b o q),x2,hfr,oe,vs,T,oT,ts,(hs.2 _ (ne _ _ _ y1 y3)).trans y1,y2,y3,y4,y5,y6,(hs.2 _ (ne _ _ _ y7 y8)).trans y7,y8,y9⟩
theorem comp_loop {d:Nat} (hB:B.Ok d) {elt iter:Expr} {x:Str} {xp pos:Pos} {sc sc':Scope} {cl:List (Str × Addr)} {f:List Slot→Res PV} (hk:sc'.kind=.function) (hx:sc'.names.lookup x=some .local)
  {I C D:Addr} {l:List PV} {Sx:Nat→Heap→Prop} {H₀:Heap} (helt:SE prog w Γ (B.compC sc' cl x C) elt f) (hl:l.length≤1048576)
  {s₀:Shared} (hI₀:s₀.heap.get? I=none) (hb0:Γ.Base.StaysIn s₀.heap) (hIC:I≠C) (hID:I≠D) (hDC:D≠C) (hC₀:s₀.heap.get? C=none) (hD₀:s₀.heap.get? D=none)
  {R:Result→Shared→Prop} {s:Shared} (hex:Ext H₀ s₀ H₀ s) (hs:St Γ (B.compC sc' cl x C) H₀ [.unset] s) (it:It prog w B.A H₀ I l Sx) (h0:Sx 0 s.heap) (hD:OwnAt s.heap D []) (hHD:H₀.get? D=none) (hHI:H₀.get? I=none)
  (hR:match mapR (fun v=>f [.val v]) l with
   | .ok ps=>∀ s' H' ws m,Ext H₀ s₀ H' s'→s'.heap.Ns C m→H'.get? C=none→OwnAt s'.heap D ws→H'.get? D=none→RepL H' ps ws→ps.length≤1048576→R (.ok .next) s'
   | .exc=>∀ e s' H' a0 L m,Ext H₀ s₀ H' s'→s'.heap.Ns C m→H'.get? C=none→B.fenv.frame=some L→Heap.HeldW H' (B.fenv::B.outer) e VE a0 L s'.heap→R (.error (.ref e)) s'
   | .stuck=>False) :
  codeAny (model prog w) B.A (.compLoop (.ListComp elt [⟨.Name x xp,iter,[],0⟩] sc pos) 0 (.ref I) (.ref D) (B.compC sc' cl x C).env) R s:=by
 have hB':=hB.compC hk cl x C
 refine codeAny_compLoop_list (fun n s'=>∃ H' ρ' i ps ws,n=l.length - i∧i≤l.length∧Ext H₀ s₀ H' s'∧St Γ (B.compC sc' cl x C) H' ρ' s'∧ρ'.length=1∧H'.get? I=none∧Sx i s'.heap∧It prog w B.A H' I l Sx ∧
   OwnAt s'.heap D ws∧H'.get? D=none∧RepL H' ps ws∧ps.length=i ∧
   (mapR (fun v=>f [.val v]) l=(mapR (fun v=>f [.val v]) (l.drop i)).bind fun bs=>.ok (ps++bs))) ?_ l.length
  ⟨H₀,[.unset],0,[],[],rfl,Nat.zero_le _,hex,hs,rfl,hHI,h0,it,hD,hHD,by rw [RepL],rfl,by simp only [List.drop_zero,List.nil_append]; cases mapR (fun v=>f [.val v]) l <;> rfl⟩
 intro n s' hI
 refine nc fun hG=>?_
 obtain ⟨H',ρ',i,ps,ws,hn,hi,ex,hs',hlen,hI',hsx,it',hD',hHD',hrl,hpl,hmap⟩:=hI
 obtain ⟨fp,P,W,hfp,hP,hobj⟩:=id it'
 obtain ⟨oI,hoI,hoIt⟩:=hobj i _ hsx
 have ne:∀ b o',s'.heap.get? b=some o'→NF o'→b≠I:=fun b o' e hn q=>by
  obtain ⟨_,_,_,vs,hd⟩:=hoIt
  rw [q,hoI] at e; obtain rfl:=Option.some.inj e; exact hn vs hd
 have turned:∀ h',(∀ b o,b ∉ [I]→s'.heap.get? b=some o→h'.get? b=some o)→∀ tk,Ext H' s' H' { s' with heap:=h',toks:=tk }:=fun h' hk tk=>by
  have kp:∀ b o,s'.heap.get? b=some o→NF o→h'.get? b=some o:=fun b o e hn=>hk b o (by simpa using ne b o e hn) e
  exact ⟨stays_refl _,fun _ _ _ _ e=>e,fun b o e=>hk b o (by simpa using fun q=>by rw [q,hI'] at e; cases e) (hs'.stays b o e),fun b o e hn=>⟨o.slots,kp b o e hn⟩,rfl,rfl⟩
 by_cases hlt:i<l.length
 ·refine hG (W.item i s' _ _ hlt hsx fun v h' tk hv hsx' hk=>?_)
  clear hG
  refine nc fun hG=>?_
  obtain ⟨p,hpi,hrep⟩:=hP i v hlt hv
  have ex₁:=turned h' hk tk
  have hs₁:St Γ (B.compC sc' cl x C) H' ρ' { s' with heap:=h',toks:=tk }:=hs'.ext ex₁
  have hdrop:l.drop i=p::l.drop (i+1):=by
   rw [List.drop_eq_getElem_cons hlt]
   obtain ⟨_,e⟩:=List.getElem?_eq_some_iff.mp hpi
   rw [e]
  rw [hdrop,mapR_cons] at hmap
  obtain ⟨oJ,hoJ,hoJt⟩:=hobj (i+1) _ hsx'
  obtain ⟨T,hT,hcls,vs,hdat⟩:=id hoJt
  obtain ⟨Hp,k1,k2,k3,hs₂⟩:=hs₁.add (I:=I) hoJ hdat
  refine hG ?_
  clear hG
  refine wpAny_assign_Name (store_var2 (i:=0) hB' hs₂ rfl hx (hrep.mono k1) fun s₃ hs₃ ex₃ hsb₃=>?_)
  have hρ:putS ρ' 0 (.val p)=[.val p]:=by
   cases ρ' with
   | nil=>cases hlen
   | cons a r=>cases r with
    | nil=>rfl
    | cons b t=>simp at hlen
  rw [hρ] at hs₃
  have D₁:OwnAt h' D ws:=hD'.ups ex₁.ups
  have hDp:Hp.get? D=none:=by rw [k3 D (Ne.symm hID)]; exact hHD'
  have hCp:Hp.get? C=none:=by obtain ⟨_,_,_,h,_⟩:=hs₂.loc; exact h
  have D₃:OwnAt s₃.heap D ws:=by
   obtain ⟨o,n,a1,a2,a3,a4⟩:=D₁
   exact ⟨o,n,(hsb₃.2 D hDC).trans a1,a2,a3,a4⟩
  have back:∀ H₄ s₄,Ext Hp s₃ H₄ s₄→Ext H₀ s₀ (H₄.hide I) s₄:=fun H₄ s₄ e₄=>by
   have q₀:∀ b o,s₀.heap.get? b=some o→NF o→∃ sl,s₃.heap.get? b=some { o with slots:=sl }∧b≠I:=fun b o e hn=>by
    obtain ⟨sl,e'⟩:=ex.ups b o e hn
    have hbI:=ne b _ e' hn
    have hbC:b≠C:=fun z=>by rw [z,hC₀] at e; cases e
    exact ⟨sl,(hsb₃.2 b hbC).trans (hk b _ (by simpa using hbI) e'),hbI⟩
   refine ⟨fun b o q=>?_,fun b o q nf z=>?_,fun b o q=>e₄.stays b o (Heap.of_hide q),fun b o q nf=>?_,(e₄.same.1.trans ex₃.same.1).trans ex.same.1,(e₄.same.2.trans ex₃.same.2).trans ex.same.2⟩
   ·rw [Heap.hide_ne _ (fun z=>by rw [z,hHI] at q; cases q)]
    exact e₄.grow b o (k1 b o (ex.grow b o q))
   ·obtain ⟨sl,e',hbI⟩:=q₀ b o q nf
    refine none_of_stays (fun c o'=>Heap.of_hide) (e₄.old b _ e' nf ?_)
    rw [k3 b hbI]; exact ex.old b o q nf z
   ·obtain ⟨sl,e',_⟩:=q₀ b o q nf
    obtain ⟨sl',e''⟩:=e₄.ups b _ e' nf
    exact ⟨sl',e''⟩
  refine helt Hp [.val p] s₃ _ _ hs₃ ?_
  cases hf:f [.val p] with
  | stuck=>rw [hf] at hmap; rw [hmap] at hR; exact hR.elim
  | exc =>
   rw [hf] at hmap
   rw [show mapR (fun v=>f [.val v]) l=.exc from hmap] at hR
   intro e s₄ H₄ e₄ fl
   obtain ⟨L,hfr⟩:=hB'.frame hs₃
   show notedBy (model prog w) B.A (B.compC sc' cl x C).env _ (.ref e) s₄
   unfold notedBy
   rw [noteFrame_eq (env:=(B.compC sc' cl x C).env) (env':=B.fenv) hB'.fr]
   have hnone:∀ b,H₄.get? b=none→(H₄.hide I).get? b=none:=fun b q=>none_of_stays (fun c o'=>Heap.of_hide) q
   have fl':=fl.hide I e₄.stays
   refine note_flown hB.stack hfr fl' fun h₅ a0 held u=>?_
   obtain ⟨m,_,hnC,hC4,_⟩:=(hs₃.ext e₄).loc
   have b₄:=back H₄ s₄ e₄
   exact hR e { s₄ with heap:=h₅ } (H₄.hide I) a0 L m ⟨b₄.grow,b₄.old,held.1,b₄.ups.trans u,b₄.same⟩ (u.ns hnC) (hnone _ hC4) hfr held
  | ok y =>
   rw [hf] at hmap
   intro u s₄ H₄ e₄ ru
   have D₄:OwnAt s₄.heap D ws:=D₃.ups e₄.ups
   obtain ⟨o,n,a1,a2,a3,a4⟩:=id D₄
   have hD4:H₄.get? D=none:=by
    obtain ⟨o3,n3,b1,b2,b3,b4⟩:=id D₃
    exact e₄.old D o3 b1 (fun vs q=>by rw [b4] at q; cases q) hDp
   have hwl:ws.length≤1048576:=by rw [hrl.length,hpl]; lia
   refine list_append_plainL (its:=ws.toArray) ⟨o,n,a1,a2,a3,a4⟩ (fun h₅ hpl5 hsb₅=>?_) (by rw [List.size_toArray]; exact Nat.le_trans hwl (by decide))
   have kp5:∀ b o,s₄.heap.get? b=some o→b≠D→h₅.get? b=some o:=fun b o e hb=>(hsb₅.2 b hb).trans e
   have hst5:H₄.StaysIn h₅:=fun b o e=>kp5 b o (e₄.stays b o e) fun q=>by rw [q,hD4] at e; cases e
   have hs₄:=hs₃.ext e₄
   have hoK:H₄.get? I=some oJ:=e₄.grow _ _ k2
   have b₄:=back H₄ s₄ e₄
   have hs₅:St Γ (B.compC sc' cl x C) H₄ [.val p] { s₄ with heap:=h₅ }:=by
    obtain ⟨m,oa,c1,c2,c3,c4,c5⟩:=hs₄.loc
    refine ⟨hs₄.base,hst5,?_,m,oa,?_,c2,c3,fun j y hy=>?_,fun a b l l' hab ha hb=>?_⟩
    ·obtain ⟨o',n',d1,d2,d3,d4⟩:=hpl5
     have:=hs₄.frames
     clear hR
     revert this
     generalize (B.compC sc' cl x C).fenv::(B.compC sc' cl x C).outer=L
     intro this
     induction L with
     | nil=>trivial
     | cons v r ih =>
      obtain ⟨hk',⟨L',o₁,hf,hnn,ho₁,hd₁⟩,hr⟩:=this
      refine ⟨hk',?_,ih hr⟩
      by_cases q:L'=D
      ·subst q; exact ⟨_,o',hf,hnn,d1,fun vs q=>by rw [d4] at q; cases q⟩
      ·exact ⟨L',o₁,hf,hnn,kp5 _ _ ho₁ q,hd₁⟩
    ·obtain ⟨o',es',ep',d1,d2⟩:=c1
     exact ⟨o',es',ep',kp5 _ _ d1 (Ne.symm hDC),d2⟩
    ·have:=c4 j y hy
     revert this
     cases hg:getS [Slot.val p] j with
     | unset=>exact fun h=>h
     | val q=>exact fun h=>h
     | own l' =>
      exfalso
      cases j with
      | zero=>simp [getS] at hg
      | succ j=>simp [getS] at hg
    ·exfalso
     cases a with
     | zero=>simp [getS] at ha
     | succ a=>simp [getS] at ha
   refine ⟨l.length - (i+1),by rw [hn]; lia,H₄.hide I,[.val p],i+1,ps++[y],ws++[u],rfl,hlt,?_,hs₅.hide hoK hdat (none_of_stays hb0 hI₀),rfl,Heap.hide_self _ _,?_,?_,?_,none_of_stays (fun c o'=>Heap.of_hide) hD4,?_,by simp [hpl],?_⟩
   ·refine ⟨b₄.grow,b₄.old,fun b o q=>hst5 b o (Heap.of_hide q),fun b o q nf=>?_,b₄.same⟩
    obtain ⟨sl,e'⟩:=b₄.ups b o q nf
    exact ⟨sl,kp5 b _ e' fun z=>by rw [z,hD₀] at q; cases q⟩
   ·refine W.frame (i+1) h' _ hsx' fun b hb' o q=>?_
    by_cases hbI:b=I
    ·subst hbI
     rw [hoJ] at q; obtain rfl:=Option.some.inj q
     exact hst5 _ _ hoK
    ·obtain ⟨o',ho'⟩:=hfp b hb' hbI
     have:=hs₁.stays b o' ho'
     rw [show h'.get? b=some o from q] at this
     obtain rfl:=Option.some.inj this
     exact hst5 _ _ (e₄.grow _ _ (k1 b o ho'))
   ·exact it.mono b₄.grow
   ·obtain ⟨o',n',d1,d2,d3,d4⟩:=hpl5
    exact ⟨o',n',d1,d2,d3,by rw [d4]; simp⟩
   ·have sub:Sub H₄ (H₄.hide I):=fun b o' e hn=>by
     rw [Heap.hide_ne H₄ (fun q=>by rw [q,hoK] at e; obtain rfl:=Option.some.inj e; exact hn vs hdat)]; exact e
    exact (((hrl.mono k1).mono e₄.grow).sub sub).append (.one (ru.sub sub))
   ·rw [hmap]
    cases mapR (fun v=>f [.val v]) (l.drop (i+1)) with
    | ok bs=>simp [Res.bind]
    | exc=>rfl
    | stuck=>rfl
 ·have hie:i=l.length:=Nat.le_antisymm hi (Nat.le_of_not_lt hlt)
  rw [hie,List.drop_length] at hmap
  rw [hie] at hsx
  rw [show mapR (fun v=>f [.val v]) l=.ok ps from by rw [hmap]; show Res.ok (ps++[])=_; rw [List.append_nil]] at hR
  refine hG (W.done s' _ _ hsx fun h' tk hk=>?_)
  have ex₁:=turned h' hk tk
  have hs₁:St Γ (B.compC sc' cl x C) H' ρ' { s' with heap:=h',toks:=tk }:=hs'.ext ex₁
  obtain ⟨m,_,hnC,hC4,_⟩:=hs₁.loc
  exact hR { s' with heap:=h',toks:=tk } H' ws m (ex.trans ex₁) hnC hC4 (hD'.ups ex₁.ups) hHD' hrl (by lia)
end
end Mine
namespace Mine
open PySem PyProof.Rows
theorem neA {a b:Nat} (h:a≠b):a≠b:=h
theorem leA {a b:Nat} (h:a≤b):a≤b:=h
theorem ltA {a b:Nat} (h:a<b):a<b:=h
section
variable {prog:Program} {w:World} {Γ:Ct} {B:Bl}
theorem compOk_parts {sc:Scope} (h:compOk sc=true):sc.kind=.function∧(∀ x∈sc.names,x.2≠.free)∧(∀ x∈sc.names,x.2≠.cell)∧∀ x∈sc.names,x.2=.local→sc.names.lookup x.1=some .local:=by
 unfold compOk at h
 simp only [Bool.and_eq_true,beq_iff_eq,List.all_eq_true,Bool.or_eq_true,bne_iff_ne,ne_eq] at h
 obtain ⟨h1,h2⟩:=h
 refine ⟨h1,fun x hx q=>?_,fun x hx q=>?_,fun x hx q=>?_⟩
 ·rcases (h2 x hx).1 with z | z <;> rw [q] at z <;> cases z
 ·rcases (h2 x hx).1 with z | z <;> rw [q] at z <;> cases z
 ·rcases (h2 x hx).2 with z | z
  ·exact absurd q z
  ·exact z
theorem comp_run {d:Nat} (hB:B.Ok d) {elt iter:Expr} {x:Str} {xp pos:Pos} {sc sc':Scope} {cl:List (Str × Addr)} {f:List Slot→Res PV} (hcell:∀ x∈sc.names,x.2≠.cell) (hk:sc.kind=.function) (hk':sc'.kind=.function) (hx:sc'.names.lookup x=some .local)
  (helt:∀ C,SE prog w Γ (B.compC sc' cl x C) elt f) {H:Heap} {ρ:List Slot} {s:Shared} (hs:St Γ B H ρ s) {p:PV} {v:Value} {l:List PV} (hr:Rep H p v) (hl:itemsP p=.ok l)
  {E:Value→Shared→Prop} {K:Value→Env→Result→Shared→Prop}
  (hR:match mapR (fun v=>f [.val v]) l with
   | .ok ps=>∀ D C s' H' ws m,s.heap.get? C=none→s.heap.get? D=none→D≠C→B.env.locals<C→Ext H s H' s'→s'.heap.Ns C m→H'.get? C=none→OwnAt s'.heap D ws→H'.get? D=none→RepL H' ps ws→ps.length≤1048576 →
     K (.ref D) (compEnvOf sc cl C B.env) (.ok .next) s'
   | .exc=>∀ e C D s' H' a0 L m,s.heap.get? C=none→Ext H s H' s'→s'.heap.Ns C m→H'.get? C=none→B.fenv.frame=some L→Heap.HeldW H' (B.fenv::B.outer) e VE a0 L s'.heap →
     K (.ref D) (compEnvOf sc cl C B.env) (.error (.ref e)) s'
   | .stuck=>False) :
  wpAny (model prog w) B.A (pyIter v) (fun it s₂=>wpAny (model prog w) B.A (newList []) (fun acc s₃=>wpAny (model prog w) B.A (newFunctionEnv sc B.env.globals cl [] B.env.qual none .none (some B.env)) (fun cenv s₄ =>
   codeAny (model prog w) B.A (.compStart (.ListComp elt [⟨.Name x xp,iter,[],0⟩] sc pos) 0 it acc { cenv with scope:=sc' }) (K acc cenv) s₄) E s₃) E s₂) E s:=by
 refine iter_of hB.hand hs.stays hr hl fun s₂ Sx e₂ h1 h2 it h0=>?_
 have hs₂:=hs.ext e₂
 obtain ⟨fp,P,W,hfp,hP,hobj⟩:=id it
 obtain ⟨oI,hoI,_⟩:=hobj 0 _ h0
 refine wpAny_newObj_type ?_ (by show ([]:List Value).toArray.size≤sizeLine; exact Nat.zero_le _)
 refine wpAny_newFunctionEnv hcell (fun _ h=>nomatch h) (fun h' hns hsb=>?_) hk
 have hszp : (s₂.heap.push ({ cls := .type "list",data := .seq ([] : List Value).toArray } : Obj)).objs.size = s₂.heap.objs.size + 1 := Heap.size_push _ _
 generalize hD:s₂.heap.objs.size=D at *
 have hC : (s₂.heap.push ({ cls := .type "list",data := .seq ([] : List Value).toArray } : Obj)).objs.size = D + 1 := hszp
 rw [show ({ s₂ with heap := s₂.heap.push { cls := .type "list",data := .seq ([] : List Value).toArray } } : Shared).heap.objs.size = D + 1 from hC] at hns hsb ⊢
 have ID:@LT.lt Nat _ s.heap.objs.size D:=by rw [← hD]; exact Heap.lt_size hoI
 have kp:∀ b o,s₂.heap.get? b=some o→h'.get? b=some o:=fun b o e=>by
  have hb:@LT.lt Nat _ b D:=by rw [← hD]; exact Heap.lt_size e
  exact (hsb.2 b (neA (by lia))).trans (Heap.get?_push_of_some _ (Heap.get?_push_of_some _ e))
 have ex:Ext H s₂ H { s₂ with heap:=h',toks:=s₂.toks+0 }:=.keeps hs₂.stays kp
 have exs:Ext H s H { s₂ with heap:=h',toks:=s₂.toks+0 }:=e₂.trans ex
 have hsize:∀ b,s.heap.objs.size≤b→s.heap.get? b=none:=fun b hb=>none_of_size hb
 have hH:∀ b,D≤b→H.get? b=none:=fun b hb=>none_of_stays hs₂.stays (none_of_size (by rw [hD]; exact hb))
 have hloc:@LT.lt Nat _ B.env.locals s.heap.objs.size:=by obtain ⟨m,_,hn,_⟩:=hs.loc; exact hn.lt
 have hN:@LE.le Nat _ B.N₀ B.env.locals:=by obtain ⟨_,_,_,_,hN,_⟩:=hs.loc; exact hN
 have hOwn : OwnAt h' D [] := ⟨{ cls := .type "list",data := .seq ([] : List Value).toArray },0,(hsb.2 D (neA (by lia))).trans (Heap.get?_push_of_some _ (by
  have := Heap.get?_push_size s₂.heap (o := { cls := .type "list",data := .seq ([] : List Value).toArray }) rfl
  rw [hD] at this; exact this)),rfl,rfl,rfl⟩
 have main:codeAny (model prog w) B.A (.compLoop (.ListComp elt [⟨.Name x xp,iter,[],0⟩] sc pos) 0 (.ref s.heap.objs.size) (.ref D) (B.compC sc' cl x (D+1)).env) (K (.ref D) (compEnvOf sc cl (D+1) B.env)) { s₂ with heap:=h',toks:=s₂.toks+0 }:=by
  have hll:l.length≤1048576:=by
   cases p <;> simp only [itemsP] at hl <;> first | (cases hl; done) | skip
   ·cases hl; rw [Rep] at hr; obtain ⟨_,_,_,_,hz⟩:=hr; simpa using hz
   ·cases hl; rw [Rep] at hr; obtain ⟨_,_,_,_,hz,_⟩:=hr; exact hz
   ·cases hl; rw [Rep] at hr; obtain ⟨_,_,_,_,hz,_⟩:=hr; exact hz
  refine comp_loop hB hk' hx (helt (D+1)) hll (s₀:=s) (hsize _ (Nat.le_refl _)) (stays_trans hs.base hs.stays) (neA (by lia)) (neA (by lia)) (neA (by lia)) (hsize _ (leA (by lia))) (hsize _ (leA (by lia)))
   exs ⟨hs.base,ex.stays,frames_ext hs₂.frames ex,fun _=>none,fun _=>0,hns,hH (D+1) (leA (by lia)),(leA (by lia):B.N₀≤D+1),fun i y hy=>?_,fun a b l l' _ ha=>?_⟩ it (W.frame 0 s₂.heap h' h0 fun b _ o e=>kp b o e) hOwn (hH _ (Nat.le_refl _)) h1 ?_
  ·cases i with
   | zero=>trivial
   | succ i=>simp [Bl.compC] at hy
  ·cases a with
   | zero=>cases ha
   | succ a=>cases ha
  ·cases hm:mapR (fun v=>f [.val v]) l with
   | ok ps =>
    rw [hm] at hR
    exact fun s' H' ws m a b c e g i j=>hR D (D+1) s' H' ws m (hsize _ (leA (by lia))) (hsize _ (leA (by lia))) (neA (by lia)) (ltA (by lia)) a b c e g i j
   | exc =>
    rw [hm] at hR
    exact fun e s' H' a0 L m a b c g i=>hR e (D+1) D s' H' a0 L m (hsize _ (leA (by lia))) a b c g i
   | stuck=>rw [hm] at hR; exact hR
 refine codeAny_compStart_list main (W.self 0 _ _ _ ?_ main)
 exact W.frame 0 s₂.heap h' h0 fun b _ o e=>kp b o e
theorem comp_data {H H':Heap} {s s':Shared} {D C:Addr} {ps:List PV} {ws:List Value} (e:Ext H s H' s') {h'':Heap} (hC:H'.get? C=none) (hC₀:s.heap.get? C=none) (hD₀:s.heap.get? D=none) (hDC:D≠C) (hsb:∀ b,b≠C→h''.get? b=s'.heap.get? b)
  (hO:OwnAt s'.heap D ws) (hr:RepL H' ps ws) (hz:ps.length≤1048576):∃ H'',Ext H s H'' { s' with heap:=h'' }∧Rep H'' (.list ps) (.ref D)∧H''.get? C=none∧H'.StaysIn H'':=by
 obtain ⟨o,n,a1,a2,a3,a4⟩:=hO
 have hst:H'.StaysIn h'':=fun b o e'=>(hsb b (fun q=>by rw [q,hC] at e'; cases e')).trans (e.stays b o e')
 obtain ⟨H'',k1,k2,k3,k4⟩:=add_exists hst ((hsb D hDC).trans a1)
 refine ⟨H'',⟨stays_trans e.grow k1,fun b o' q nf z=>?_,k2,fun b o' q nf=>?_,e.same⟩,?_,?_,k1⟩
 ·rw [k4 b (fun y=>by rw [y,hD₀] at q; cases q)]; exact e.old b o' q nf z
 ·obtain ⟨sl,q'⟩:=e.ups b o' q nf
  exact ⟨sl,(hsb b (fun y=>by rw [y,hC₀] at q; cases q)).trans q'⟩
 ·rw [Rep]
  exact ⟨D,ws,rfl,⟨o,k3,a2,n,a4⟩,hz,hr.mono k1⟩
 ·rw [k4 C (Ne.symm hDC)]; exact hC
theorem frames_but {H H' h'':Heap} {s s':Shared} {C:Addr} {l:List Env} (x:s.heap.FunFrames H l) (e:Ext H s H' s') (hC₀:s.heap.get? C=none) (hsb:∀ b,b≠C→h''.get? b=s'.heap.get? b):h''.FunFrames H' l:=by
 have y:s.heap.FunFrames H' l:=funFrames_base' x fun b o ho hd hn=>e.old b o ho hd hn
 refine y.of_keeps fun b o ho hn=>?_
 obtain ⟨sl,q⟩:=e.ups b o ho hn
 exact ⟨_,(hsb b (fun z=>by rw [z,hC₀] at ho; cases ho)).trans q,rfl⟩
theorem comp_pass {d:Nat} (hB:B.Ok d) {sc:Scope} {C e L:Addr} {a0:Value} {H':Heap} {s':Shared} {h':Heap} {m:Str→Option Value} (hf:B.fenv.frame=some L) (hC:H'.get? C=none) (hn:s'.heap.Ns C m) (hsb:Heap.SameBut C s'.heap h') (hfr:h'.FunFrames H' (B.fenv::B.outer))
  (held:Heap.HeldW H' (B.fenv::B.outer) e VE a0 L s'.heap) {α:Type} {Q:α→Shared→Prop} {E:Value→Shared→Prop} (cenv:Env) (hce:cenv.frame=B.env.frame)
  (hE:∀ h'',Flown H' (B.fenv::B.outer) e h''→h'.UpToSlots h''→E (.ref e) { s' with heap:=h'' }) :
  wpAny (model prog w) B.A (PySem.passOn "comprehension.variables-let-go" (.ref e) cenv : Sem α) Q E { s' with heap := h' } := by
 have held':Heap.HeldW H' (B.fenv::B.outer) e VE a0 L h':=held_set held hC hn hfr hsb
 unfold PySem.passOn
 obtain ⟨oe,vs,T,oT,ts,he,hcls,hd,h1,r⟩:=id held'.2.2.2
 refine wpAny_bind (wpAny_field he hd h1 ?_)
 rw [if_neg (show ¬ ((Value.ref T == Value.none)=true) from by simp),hce,hB.fr,hf]
 refine wpAny_bind (setFlight_held (s:={ s' with heap:=h' }) held' fun h'' z u=>wpAny_throw (hE h'' ?_ u))
 exact held_flown (s:={ s' with heap:=h'' }) hf z
end
end Mine
namespace Mine
open PySem PyProof.Rows
section
variable {prog:Program} {w:World} {Γ:Ct} {B:Bl}
theorem se_comp {d:Nat} (hB:B.Ok d) {elt iter:Expr} {x:Str} {xp pos:Pos} {sc:Scope} {f g:List Slot→Res PV} (hc:compOk sc=true) (hx:sc.names.lookup x=some .local) (hns:notSet iter=true)
  (helt:∀ C,SE prog w Γ (B.comp sc x C) elt f) (hit:SE prog w Γ B iter g) :
  SE prog w Γ B (.ListComp elt [⟨.Name x xp,iter,[],0⟩] sc pos) (fun ρ=>(g ρ).bind fun y=>(itemsP y).bind fun l=>(mapR (fun v=>f [.val v]) l).bind fun vs=>.ok (.list vs)):=by
 intro H ρ s Q E hs hp
 obtain ⟨hk,hfree,hcell,hnames⟩:=compOk_parts hc
 refine wpAny_ListComp hfree hk hnames (hit H ρ s _ _ hs (Post.bind hp fun p v s₁ H₁ _ e₁ rr hp₁=>?_)) (folded_not hns)
 cases hl:itemsP p with
 | stuck=>rw [hl] at hp₁; exact hp₁.elim
 | exc=>cases p <;> cases hl
 | ok l =>
  rw [hl] at hp₁
  have hs₁:=hs.ext e₁
  refine comp_run hB hcell hk hk hx helt hs₁ rr hl (K:=fun acc cenv r s'=>∃ m,s'.heap.Ns cenv.locals m∧∀ h',Heap.SameBut cenv.locals s'.heap h' →
      match r with | .ok _ => Q acc { s' with heap := h' } | .error x => wpAny (model prog w) B.A (PySem.passOn "comprehension.variables-let-go" x { cenv with scope := sc }) Q E { s' with heap := h' }) ?_
  cases hm:mapR (fun v=>f [.val v]) l with
  | stuck=>rw [show ((Res.ok l).bind fun l=>(mapR (fun v=>f [.val v]) l).bind fun vs=>.ok (.list vs))=(Res.stuck:Res PV) from by show (mapR (fun v=>f [.val v]) l).bind _=_; rw [hm]; rfl] at hp₁; exact hp₁.elim
  | ok ps =>
   rw [show ((Res.ok l).bind fun l=>(mapR (fun v=>f [.val v]) l).bind fun vs=>.ok (.list vs))=(Res.ok (.list ps):Res PV) from by show (mapR (fun v=>f [.val v]) l).bind _=_; rw [hm]; rfl] at hp₁
   intro D C s' H' ws m hC₀ hD₀ hDC _ ex hn hC hO hHD hrl hz
   refine ⟨m,hn,fun h' hsb=>?_⟩
   obtain ⟨H'',e',r',_⟩:=comp_data ex hC hC₀ hD₀ hDC hsb.2 hO hrl hz
   exact hp₁.ok (s':={ s' with heap:=h' }) e' r'
  | exc =>
   rw [show ((Res.ok l).bind fun l=>(mapR (fun v=>f [.val v]) l).bind fun vs=>.ok (.list vs))=(Res.exc:Res PV) from by show (mapR (fun v=>f [.val v]) l).bind _=_; rw [hm]; rfl] at hp₁
   intro e C D s' H' a0 L m hC₀ ex hn hC hf held
   refine ⟨m,hn,fun h' hsb=>?_⟩
   refine comp_pass hB (sc:=sc) hf hC hn hsb (frames_but hs₁.frames ex hC₀ hsb.2) held _ rfl fun h'' fl u=>hp₁ e { s' with heap:=h'' } H' ⟨ex.grow,ex.old,fl.stays,fun b o q nf=>?_,ex.same⟩ fl
   obtain ⟨sl,q'⟩:=ex.ups b o q nf
   have hbC:b≠C:=fun y=>by rw [y,hC₀] at q; cases q
   obtain ⟨sl',q''⟩:=u b _ ((hsb.2 b hbC).trans q') nf
   exact ⟨sl',q''⟩
theorem st_but {d:Nat} (hB:B.Ok d) (hfn:B.fenv.frame=some B.env.locals) {H:Heap} {ρ:List Slot} {s:Shared} (hs:St Γ B H ρ s) {C:Addr} {m₀:Str→Option Value} (hn₀:s.heap.Ns C m₀) (hC:H.get? C=none) (hlt:B.env.locals<C)
  {h':Heap} (hsb:Heap.SameBut C s.heap h'):St Γ B H ρ { s with heap:=h' }:=by
 obtain ⟨m,oa,hn,hl,hN,hsl,hdd⟩:=hs.loc
 have hne:B.env.locals≠C:=Nat.ne_of_lt hlt
 refine ⟨hs.base,fun b o e=>(hsb.2 b (fun q=>by rw [q,hC] at e; cases e)).trans (hs.stays b o e),?_,m,oa,hn.sameBut hsb hne,hl,hN,fun i x hx=>?_,hdd⟩
 ·have:=hs.frames
  have low:∀ v∈B.fenv::B.outer,∀ L,v.frame=some L→L≠C:=fun v hv L hL=>by
   rcases List.mem_cons.mp hv with rfl | hv
   ·rw [hfn] at hL; obtain rfl:=Option.some.inj hL; exact hne
   ·exact Nat.ne_of_lt (Nat.lt_trans (Nat.lt_of_lt_of_le (hB.low v hv L hL) hN) hlt)
  revert this low
  generalize B.fenv::B.outer=l
  intro this low
  induction l with
  | nil=>trivial
  | cons v r ih =>
   obtain ⟨hk',⟨L',o₁,hf,hnn,ho₁,hd₁⟩,hr⟩:=this
   exact ⟨hk',⟨L',o₁,hf,hnn,(hsb.2 L' (low v (.head _) L' hf)).trans ho₁,hd₁⟩,ih hr fun u hu=>low u (.tail _ hu)⟩
 ·have:=hsl i x hx
  revert this
  cases getS ρ i with
  | unset=>exact fun h=>h
  | val p=>exact fun h=>h
  | own l =>
   intro ⟨hz,ws,a,b,c,d,e⟩
   obtain ⟨o,n,b1,b2,b3,b4⟩:=b
   refine ⟨hz,ws,a,⟨o,n,(hsb.2 _ fun q=>?_).trans b1,b2,b3,b4⟩,c,d,e⟩
   obtain ⟨o',_,_,ho',hd',_⟩:=hn₀
   rw [q,ho'] at b1; obtain rfl:=Option.some.inj b1
   rw [b4] at hd'; cases hd'
theorem ss_assign_comp {d:Nat} (hB:B.Ok d) (hfn:B.fenv.frame=some B.env.locals) {y:Str} {yp spos:Pos} {i:Nat} (hy:B.vs[i]?=some y) (hyk:B.env.kindOf y=some .local)
  {elt iter:Expr} {x:Str} {xp pos:Pos} {sc:Scope} {f g:List Slot→Res PV} (hc:compOk sc=true) (hx:sc.names.lookup x=some .local) (hns:notSet iter=true) (hln:compLine y yp (.ListComp elt [⟨.Name x xp,iter,[],0⟩] sc pos)=true)
  (helt:∀ C,SE prog w Γ (B.comp sc x C) elt f) (hit:SE prog w Γ B iter g) :
  SS prog w Γ B (.Assign [.Name y yp] (.ListComp elt [⟨.Name x xp,iter,[],0⟩] sc pos) spos)
   (fun ρ=>((g ρ).bind fun y=>(itemsP y).bind fun l=>(mapR (fun v=>f [.val v]) l).bind fun vs=>.ok (.list vs)).bind fun v=>.ok (.next,putS ρ i (.val v))):=by
 intro H ρ s Q E hs hp
 obtain ⟨hk,hfree,hcell,hnames⟩:=compOk_parts hc
 have hsw:swapsWith (.ListComp elt [⟨.Name x xp,iter,[],0⟩] sc pos) (some (.Name y yp)) spos.line B.env=pure true:=by
  simp only [compLine,onListComp,Bool.and_eq_true,beq_iff_eq,Bool.not_eq_true'] at hln
  show (pure (B.env.blockKind == .function && B.env.kindOf y == some .local && yp.line == pos.line && !(sc.names.any fun q=>q.1 == y && (q.2 == .local || q.2 == .cell))):Sem Bool)=pure true
  rw [kind_fn hB.kind,hyk,hln.1,hln.2]
  simp
 rw [exec_Assign_Name_used _ _ _ _ hsw]
 refine wpAny_bind (wpAny_standAt (wpAny_bind ?_))
 show wpAny _ _ (do let _ ← comprehension (.ListComp elt [⟨.Name x xp,iter,[],0⟩] sc pos) sc B.env iter.pos (newList []) false (eval iter B.env) (some (assign (.Name y yp) B.env))) _ _ _
 refine wpAny_bind (wpAny_comprehension_use rfl (folded_not hns) hfree hk hnames ?_)
 dsimp only at hp
 rw [bind_assoc'] at hp
 refine hit H ρ s _ _ hs (PostS.bind hp fun p v s₁ H₁ _ e₁ rr hp₁=>?_)
 cases hl:itemsP p with
 | stuck=>rw [hl] at hp₁; exact hp₁.elim
 | exc=>cases p <;> cases hl
 | ok l =>
  rw [hl] at hp₁
  have hs₁:=hs.ext e₁
  refine comp_run hB hcell hk hk hx helt hs₁ rr hl (K:=fun acc cenv r s'=>match r with
     | .ok _=>wpAny (model prog w) B.A (assign (.Name y yp) B.env acc) (fun _ s''=>∃ m,s''.heap.Ns cenv.locals m∧∀ h',Heap.SameBut cenv.locals s''.heap h'→wpAny (model prog w) B.A (pure ()) (fun _ s'=>wpAny (model prog w) B.A (pure .next) Q E s') E { s'' with heap:=h' }) E s'
     | .error x => ∃ m,s'.heap.Ns cenv.locals m ∧ ∀ h',Heap.SameBut cenv.locals s'.heap h' → wpAny (model prog w) B.A (PySem.passOn "comprehension.variables-let-go" x { cenv with scope := sc }) _ E { s' with heap := h' }) ?_
  cases hm:mapR (fun v=>f [.val v]) l with
  | stuck =>
   have hp₁:PostS Γ B H₁ s₁ (((mapR (fun v=>f [.val v]) l).bind fun vs=>.ok (.list vs)).bind fun v=>.ok (.next,putS ρ i (.val v))) Q E:=hp₁
   rw [hm] at hp₁; exact hp₁.elim
  | ok ps =>
   have hp₁:PostS Γ B H₁ s₁ (((mapR (fun v=>f [.val v]) l).bind fun vs=>.ok (.list vs)).bind fun v=>.ok (.next,putS ρ i (.val v))) Q E:=hp₁
   rw [hm] at hp₁
   intro D C s' H' ws m hC₀ hD₀ hDC hlt ex hn hC hO hHD hrl hz
   obtain ⟨H'',e',r',hC'',_⟩:=comp_data ex hC hC₀ hD₀ hDC (h'':=s'.heap) (fun _ _=>rfl) hO hrl hz
   have hs':=hs₁.ext e'
   refine wpAny_assign_Name (store_var2 hB hs' hy hyk r' fun s'' hs'' ex'' hsb=>?_)
   have hne:C≠B.env.locals:=Nat.ne_of_gt hlt
   have hn'':s''.heap.Ns C m:=hn.sameBut hsb hne
   refine ⟨m,hn'',fun h' hsb'=>wpAny_pure (wpAny_pure ?_)⟩
   have hfin:=st_but hB hfn hs'' hn'' hC'' hlt hsb'
   refine hp₁ .next { s'' with heap:=h' } H'' ?_ hfin rfl
   have e2:=e'.toS.trans ex''
   refine ⟨e2.grow,e2.old,hfin.stays,fun b o hb q nf=>?_,e2.same⟩
   obtain ⟨sl,q'⟩:=e2.ups b o hb q nf
   have hbC:b≠C:=fun z=>by rw [z,hC₀] at q; cases q
   exact ⟨sl,(hsb'.2 b hbC).trans q'⟩
  | exc =>
   have hp₁:PostS Γ B H₁ s₁ (((mapR (fun v=>f [.val v]) l).bind fun vs=>.ok (.list vs)).bind fun v=>.ok (.next,putS ρ i (.val v))) Q E:=hp₁
   rw [hm] at hp₁
   intro e C D s' H' a0 L m hC₀ ex hn hC hf held
   refine ⟨m,hn,fun h' hsb=>?_⟩
   refine comp_pass hB (sc:=sc) hf hC hn hsb (frames_but hs₁.frames ex hC₀ hsb.2) held _ rfl fun h'' fl u=>hp₁ e { s' with heap:=h'' } H' ?_ fl
   refine ⟨ex.grow,fun b o _ q nf z=>ex.old b o q nf z,fl.stays,fun b o _ q nf=>?_,ex.same⟩
   obtain ⟨sl,q'⟩:=ex.ups b o q nf
   have hbC:b≠C:=fun y=>by rw [y,hC₀] at q; cases q
   obtain ⟨sl',q''⟩:=u b _ ((hsb.2 b hbC).trans q') nf
   exact ⟨sl',q''⟩
end
end Mine
namespace Mine
open PySem
section
variable {prog:Program} {w:World} {Γ:Ct} {B:Bl}
theorem rep_int {H:Heap} {i:Int} {v:Value} (h:Rep H (.int i) v):∃ t,v=.int i t:=by rw [Rep] at h; exact h
theorem rep_bytes {H:Heap} {l:List Int} {v:Value} (h:Rep H (.bytes l) v):∃ b t,v=.bytes b t∧bInt b=l∧l.length≤1048576:=by rw [Rep] at h; exact h
theorem rep_tuple {H:Heap} {l:List PV} {v:Value} (h:Rep H (.tuple l) v):∃ a ws,v=.ref a∧H.IsTuple a ws.toArray∧l.length≤1048576∧RepL H l ws:=by rw [Rep] at h; exact h
theorem rep_list {H:Heap} {l:List PV} {v:Value} (h:Rep H (.list l) v):∃ a ws,v=.ref a∧H.IsList a ws.toArray∧l.length≤1048576∧RepL H l ws:=by rw [Rep] at h; exact h
theorem isList_up {H h:Heap} (s:H.StaysIn h) {a:Addr} {l:Array Value} (x:H.IsList a l):h.IsList a l:=let ⟨o,e,c,d⟩:=x; ⟨o,s _ _ e,c,d⟩
theorem isTuple_up {H h:Heap} (s:H.StaysIn h) {a:Addr} {l:Array Value} (x:H.IsTuple a l):h.IsTuple a l:=let ⟨o,e,c,d⟩:=x; ⟨o,s _ _ e,c,d⟩
theorem bInt_length (b:Array UInt8):(bInt b).length=b.size:=by simp [bInt]
theorem bInt_append (a b:Array UInt8):bInt (a++b)=bInt a++bInt b:=by simp [bInt]
theorem repInt (H:Heap) (i:Int) (t:Tok):Rep H (.int i) (.int i t):=by rw [Rep]; exact ⟨t,rfl⟩
theorem repBytes (H:Heap) {b:Array UInt8} (t:Tok) {l:List Int} (e:bInt b=l) (hz:l.length≤lim):Rep H (.bytes l) (.bytes b t):=by rw [Rep]; exact ⟨b,t,rfl,e,hz⟩
theorem repBool (H:Heap) (b:Bool):Rep H (.bool b) (.bool b):=by rw [Rep]
theorem made {H:Heap} {s:Shared} (hs:H.StaysIn s.heap) {T:String} {ws:List Value}:∃ H',(∀ s':Shared,(s'.heap=s.heap.push { cls:=Value.type T,data:=Data.seq ws.toArray }∧s'.os=s.os∧s'.gens=s.gens)→Ext H s H' s')∧H'.get? s.heap.objs.size=some { cls:=Value.type T,data:=Data.seq ws.toArray } :=
 Ext.alloc hs _ rfl
theorem add_ll {H:Heap} {s:Shared} {A:Around} {fr:List Env} {l m:List PV} {a b:Value} {Q E:Value→Shared→Prop} (hs:H.StaysIn s.heap) (ra:Rep H (.list l) a) (rb:Rep H (.list m) b)
  (hz:l.length+m.length≤lim) (hp:Post Rep fr H s (.ok (.list (l++m))) Q E):wpAny (model prog w) A (binaryOp .Add a b) Q E s:=by
 obtain ⟨p,vs,rfl,hl,_,hr⟩:=rep_list ra
 obtain ⟨q,us,rfl,hl',_,hr'⟩:=rep_list rb
 obtain ⟨⟨cls,dd,data,sl⟩,ho,hc,n,hd⟩:=isList_up hs hl
 obtain ⟨⟨cls2,dd2,data2,sl2⟩,ho2,hc2,n2,hd2⟩:=isList_up hs hl'
 simp only at hc hd hc2 hd2
 subst hc hd hc2 hd2
 have e:vs.toArray++us.toArray=(vs++us).toArray:=by simp
 have hsz:vs.length+us.length≤sizeLine:=by rw [hr.length,hr'.length]; exact lim_line hz
 refine PySem.concat_meets ⟨_,ho,rfl⟩ ⟨_,ho2,rfl⟩ PySem.noFill_list_add PySem.seq_list_add PySem.F.slot_list_add PySem.F.entry_list_add (PySem.F.args_list_add_2 _ _) (PyProof.Rows.list_addW p q vs.toArray us.toArray n n2 dd dd2 sl sl2 (by simpa using hsz)) ⟨ho,ho2,?_⟩
 rw [e]
 obtain ⟨H',ex,hg⟩ := made hs (T := "list") (ws := vs ++ us)
 refine hp.ok (ex _ ⟨rfl,rfl,rfl⟩) ?_
 rw [Rep]
 exact ⟨_,_,rfl,⟨_,hg,rfl,_,rfl⟩,by rw [List.length_append]; exact hz,(hr.append hr').mono (ex { s with heap:=s.heap.push _ } ⟨rfl,rfl,rfl⟩).grow⟩
theorem mul_bi {H:Heap} {s:Shared} {A:Around} {fr:List Env} {l:List Int} {n:Int} {a b:Value} {Q E:Value→Shared→Prop} (hs:H.StaysIn s.heap) (ra:Rep H (.bytes l) a) (rb:Rep H (.int n) b)
  (h0:l≠[]) (h16:l.length≤16) (h1:-(lim:Int)≤n) (h2:n≤lim) (hz:l.length * n.toNat≤lim) (hp:Post Rep fr H s (.ok (.bytes (List.replicate n.toNat l).flatten)) Q E) :
  wpAny (model prog w) A (binaryOp .Mult a b) Q E s:=by
 obtain ⟨c,t,rfl,hc,_⟩:=rep_bytes ra
 obtain ⟨u,rfl⟩:=rep_int rb
 obtain ⟨cl⟩:=c
 have hl:cl.length=l.length:=by rw [← hc]; simp [bInt]
 have hb:cl≠[]:=fun e=>h0 (by subst e; rw [← hc]; rfl)
 refine PySem.W.bytes_mul_any hb (by simpa [lim] using h1) (by simpa [lim] using h2) (by lia) fun t' k=>hp.ok (.refl hs) (repBytes _ _ ?_ ?_)
 ·subst hc
  simp [bInt]
 ·simpa [Nat.mul_comm] using hz
theorem so_bin {op:Operator} {o:BOp} (ho:bopOk op o=true):∀ H ρ s x y a b,St Γ B H ρ s→Rep H x a→Rep H y b→SO prog w B (binaryOp op a b) H s (binP o x y):=by
 intro H ρ s x y a b hst ra rb Q E hp
 have hs:=hst.stays
 cases of_decide_eq_true ho
 let Z (r:Res PV):Prop:=Post Rep (B.fenv::B.outer) H s r Q E
 have hz:Z .stuck→False:=id
 cases o with
 | add =>
  let G (x y:PV):Prop:=Rep H x a→Rep H y b→wpAny (model prog w) B.A (binaryOp .Add a b) Q E s
  cases x with
  | int i=>exact onI_k (Z:=Z) (P:=G (.int i)) hz hp (fun j hp ra rb=>by
    obtain ⟨t,rfl⟩:=ra
    obtain ⟨u,rfl⟩:=rb
    exact P.add_int (hp.ok (.refl hs) (repInt _ _ _))) ra rb
  | bytes l=>exact onB_k (Z:=Z) (P:=G (.bytes l)) hz hp (fun m hp ra rb=>when_k (Z:=Z) hz hp fun hz hp=>by
    obtain ⟨b1,t,rfl,h1,h1'⟩:=ra
    obtain ⟨b2,u,rfl,h2,h2'⟩:=rb
    have e1:=bInt_length b1
    have e2:=bInt_length b2
    rw [h1] at e1; rw [h2] at e2
    refine PySem.W.KBy.add_bytes (by unfold lim at hz; lia) fun t' k=>hp.ok (.refl hs) (repBytes _ _ ?_ (by rw [List.length_append]; exact hz))
    rw [bInt_append,h1,h2]) ra rb
  | list l=>exact onL_k (Z:=Z) (P:=G (.list l)) hz hp (fun m hp ra rb=>when_k (Z:=Z) hz hp fun hz hp=>add_ll hs ra rb hz hp) ra rb
  | _=>exact (hz hp).elim
 | sub =>
  exact onI_k (Z:=Z) (P:=fun x=>Rep H x a→wpAny (model prog w) B.A (binaryOp .Sub a b) Q E s) hz hp (fun i hp ra=>onI_k (Z:=Z) (P:=fun y=>Rep H y b→wpAny (model prog w) B.A (binaryOp .Sub a b) Q E s) hz hp (fun j hp rb=>by
   obtain ⟨t,rfl⟩:=ra
   obtain ⟨u,rfl⟩:=rb
   exact P.sub_int (hp.ok (.refl hs) (repInt _ _ _))) rb) ra
 | mul =>
  let G (x y:PV):Prop:=Rep H x a→Rep H y b→wpAny (model prog w) B.A (binaryOp .Mult a b) Q E s
  cases x with
  | int i=>exact onI_k (Z:=Z) (P:=G (.int i)) hz hp (fun j hp ra rb=>when_k (Z:=Z) hz hp fun hz hp=>by
    obtain ⟨t,rfl⟩:=ra
    obtain ⟨u,rfl⟩:=rb
    exact P.mul_int (hp.ok (.refl hs) (repInt _ _ _)) (IntMulOk.of_left (intBits_le_64 (by lia) (by lia)))) ra rb
  | bytes l=>exact onI_k (Z:=Z) (P:=G (.bytes l)) hz hp (fun n hp ra rb=>when_k (Z:=Z) hz hp fun hz hp=>mul_bi hs ra rb hz.1 hz.2.1 hz.2.2.1 hz.2.2.2.1 hz.2.2.2.2 hp) ra rb
  | _=>exact (hz hp).elim
 | fdiv =>
  exact onI_k (Z:=Z) (P:=fun x=>Rep H x a→wpAny (model prog w) B.A (binaryOp .FloorDiv a b) Q E s) hz hp (fun i hp ra=>onI_k (Z:=Z) (P:=fun y=>Rep H y b→wpAny (model prog w) B.A (binaryOp .FloorDiv a b) Q E s) hz hp (fun j hp rb =>
   when_k (Z:=Z) hz hp fun hz hp=>by
    obtain ⟨t,rfl⟩:=ra
    obtain ⟨u,rfl⟩:=rb
    refine PyProof.Rows.floordiv_int (by lia) ?_ (Or.inl (PyProof.noPylong_small (by lia)))
    rw [Int.fdiv_eq_ediv_of_nonneg _ (by lia)]
    exact hp.ok (.refl hs) (repInt _ _ _)) rb) ra
 | mod =>
  exact onI_k (Z:=Z) (P:=fun x=>Rep H x a→wpAny (model prog w) B.A (binaryOp .Mod a b) Q E s) hz hp (fun i hp ra=>onI_k (Z:=Z) (P:=fun y=>Rep H y b→wpAny (model prog w) B.A (binaryOp .Mod a b) Q E s) hz hp (fun j hp rb =>
   when_k (Z:=Z) hz hp fun hz hp=>by
    obtain ⟨t,rfl⟩:=ra
    obtain ⟨u,rfl⟩:=rb
    refine PyProof.Rows.mod_int' (by lia) ?_
    rw [Int.fmod_eq_emod_of_nonneg _ (by lia)]
    exact hp.ok (.refl hs) (repInt _ _ _)) rb) ra
end
end Mine
namespace Mine
open PySem PySem.W PySem.SeqAt
section
variable {A:Around} {s:Shared}
theorem eqAt_of {a b:Value} {k:Bool} (h:RcAt A s a b k) (hk:a=b→k=true) (hf:∀ x t,a≠.float x t):EqAt A s a b k:=fun prog w E Q hq=>by
 unfold eqBool
 refine wpAny_holding ?_
 refine wpAny_ite_split (fun hab=>?_) (fun _=>?_)
 ·rw [hk (eq_of_beq hab)] at hq
  exact wpAny_bind (wpAny_rule (wpAny_pure hq))
 ·cases a <;> first | exact wpAny_bind (h prog w E _ (wpAny_truthy_bool hq)) | exact absurd rfl (hf _ _)
theorem rc_bytes (b c:Array UInt8) (t u:Tok):RcAt A s (.bytes b t) (.bytes c u) (b.toList == c.toList):=fun prog w E Q h=>PySem.W.eq_bytes h
theorem rcNe_bytes (b c:Array UInt8) (t u:Tok):RcNeAt A s (.bytes b t) (.bytes c u) (!(b.toList == c.toList)):=fun prog w E Q h=>PySem.W.ne_bytes h
theorem isTuple_inj {h:Heap} {a:Addr} {x y:Array Value} (p:h.IsTuple a x) (q:h.IsTuple a y):x=y:=by
 obtain ⟨o,e,_,n,d⟩:=p
 obtain ⟨o',e',_,n',d'⟩:=q
 rw [e] at e'; cases e'
 rw [d] at d'; injection d'
theorem isList_inj {h:Heap} {a:Addr} {x y:Array Value} (p:h.IsList a x) (q:h.IsList a y):x=y:=by
 obtain ⟨o,e,_,n,d⟩:=p
 obtain ⟨o',e',_,n',d'⟩:=q
 rw [e] at e'; cases e'
 rw [d] at d'; injection d'
theorem nn {α:Type} {k:α} {p:Prop} (h:none=some k):p:=nomatch h
theorem and2_k {x y:Option Bool} {k:Bool} {p:Prop} (h:and2 x y=some k) (f:∀ a b,x=some a→y=some b→(a && b)=k→p):p:=by
 cases x with
 | none=>exact nn h
 | some a=>cases y with
  | none=>exact nn h
  | some b=>exact f a b rfl rfl (Option.some.inj h)
inductive EqV:Nat→PV→PV→Bool→Prop
 | none {n:Nat}:EqV n .none .none true
 | bool {n:Nat} {a b:Bool}:EqV n (.bool a) (.bool b) (a == b)
 | int {n:Nat} {a b:Int}:EqV n (.int a) (.int b) (a == b)
 | str {n:Nat} {a b:List Nat}:EqV n (.str a) (.str b) (a == b)
 | bytes {n:Nat} {a b:List Int}:EqV n (.bytes a) (.bytes b) (a == b)
 | tup {n:Nat} {l m:List PV} {k:Bool} (h:eqDs n l m=some k):EqV (n+1) (.tuple l) (.tuple m) k
 | lst {n:Nat} {l m:List PV} {k:Bool} (e:l.length=m.length) (h:eqDs n l m=some k):EqV (n+1) (.list l) (.list m) k
 | lsd {n:Nat} {l m:List PV} (e:l.length≠m.length):EqV (n+1) (.list l) (.list m) false
theorem ev_of {n:Nat} {x y:PV} {k b:Bool} (h:some b=some k) (q:EqV n x y b):EqV n x y k:=Option.some.inj h ▸ q
theorem tup_v:∀ {n:Nat} {a b:List PV} {k:Bool},(match n with | 0=>none | n+1=>eqDs n a b)=some k→EqV n (.tuple a) (.tuple b) k
 | 0,_,_,_,h=>nn h
 | _+1,_,_,_,h=>.tup h
theorem lst_v:∀ {n:Nat} {a b:List PV} {k:Bool},(match n with | 0=>none | n+1=>if a.length == b.length then eqDs n a b else some false)=some k→EqV n (.list a) (.list b) k
 | 0,_,_,_,h=>nn h
 | n+1,a,b,k,h=>by
  cases hz:a.length == b.length with
  | false =>
   have h:(if a.length == b.length then eqDs n a b else some false)=some k:=h
   rw [hz] at h; exact ev_of h (.lsd fun e=>by rw [e,beq_self_eq_true] at hz; cases hz)
  | true =>
   have h:(if a.length == b.length then eqDs n a b else some false)=some k:=h
   rw [hz] at h; exact .lst (eq_of_beq hz) h
theorem eqD_v {n:Nat} {x y:PV} {k:Bool} (h:eqD n x y=some k):EqV n x y k:=by
 cases x with
 | none=>cases y <;> first | exact nn h | exact ev_of h .none
 | bool a=>cases y <;> first | exact nn h | exact ev_of h .bool
 | int a=>cases y <;> first | exact nn h | exact ev_of h .int
 | flt a=>exact nn h
 | str a=>cases y <;> first | exact nn h | exact ev_of h .str
 | bytes a=>cases y <;> first | exact nn h | exact ev_of h .bytes
 | tuple a=>cases y <;> first | exact nn h | exact tup_v h
 | list a=>cases y <;> first | exact nn h | exact lst_v h
 | dict0=>exact nn h
theorem EqV.self {n:Nat} {x y:PV} {k:Bool} (v:EqV n x y k) (e:x=y) (ih:∀ m,n=m+1→∀ (l:List PV) {b:Bool},eqDs m l l=some b→b=true):k=true:=by
 cases v with
 | none=>rfl
 | bool=>cases e; exact beq_self_eq_true _
 | int=>cases e; exact beq_self_eq_true _
 | str=>cases e; exact beq_self_eq_true _
 | bytes=>cases e; exact beq_self_eq_true _
 | tup h=>cases e; exact ih _ rfl _ h
 | lst _ h=>cases e; exact ih _ rfl _ h
 | lsd h=>cases e; exact absurd rfl h
theorem eqDs_self {n:Nat} (ih:∀ (p:PV) {b:Bool},eqD n p p=some b→b=true):∀ (l:List PV) {b:Bool},eqDs n l l=some b→b=true
 | [],_,h=>(Option.some.inj h).symm
 | p::r,b,h=>and2_k (show and2 (eqD n p p) (eqDs n r r)=some b from h) fun x y h1 h2 h3=>by rw [← h3,ih p h1,eqDs_self ih r h2]; rfl
theorem eqD_self:∀ (n:Nat) (p:PV) {b:Bool},eqD n p p=some b→b=true
 | 0,p,_,h=>(eqD_v h).self rfl fun _ e=>nomatch e
 | n+1,p,_,h=>(eqD_v h).self rfl fun m e=>by cases e; exact eqDs_self (eqD_self n)
end
theorem pairs_at {H:Heap} {n:Nat} {A:Around} {s:Shared} (ih:∀ {x y:PV} {a b:Value} {k:Bool},eqD n x y=some k→Rep H x a→Rep H y b→EqAt A s a b k) :
  ∀ {l m:List PV} {vs us:List Value} {k:Bool},eqDs n l m=some k→RepL H l vs→RepL H m us →
   ∃ e:Nat→Bool,(∀ j (h1:j<vs.length) (h2:j<us.length),EqAt A s vs[j] us[j] (e j))∧((List.range (min vs.length us.length)).all e && vs.length == us.length)=k
 | [],[],vs,us,k,h,r1,r2=>by
  cases r1; cases r2; cases h
  exact ⟨fun _=>false,fun j h1=>absurd h1 (Nat.not_lt_zero _),rfl⟩
 | [],_::_,vs,us,k,h,r1,r2=>by
  obtain ⟨w,t,rfl,_⟩:=r2; cases r1; cases h
  exact ⟨fun _=>false,fun j h1=>absurd h1 (Nat.not_lt_zero _),by rw [List.length_nil,Nat.zero_min]; rfl⟩
 | _::_,[],vs,us,k,h,r1,r2=>by
  obtain ⟨w,t,rfl,_⟩:=r1; cases r2; cases h
  exact ⟨fun _=>false,fun j _ h1=>absurd h1 (Nat.not_lt_zero _),by rw [List.length_nil,Nat.min_zero]; rfl⟩
 | p::r,q::t,vs,us,k,h,r1,r2=>by
  obtain ⟨v,vs',rfl,hv,hr1⟩:=r1
  obtain ⟨u,us',rfl,hu,hr2⟩:=r2
  refine and2_k (show and2 (eqD n p q) (eqDs n r t)=some k from h) fun x y h1 h2 h=>?_
  obtain ⟨e,he,hk⟩:=pairs_at ih h2 hr1 hr2
  refine ⟨fun j=>match j with | 0=>x | j+1=>e j,fun j g1 g2=>?_,?_⟩
  ·cases j with
   | zero=>exact ih h1 hv hu
   | succ j=>exact he j (Nat.lt_of_succ_lt_succ g1) (Nat.lt_of_succ_lt_succ g2)
  ·rw [← h,← hk,List.length_cons,List.length_cons,Nat.succ_min_succ,List.range_succ_eq_map,List.all_cons,List.all_map,Bool.and_assoc]
   show (x && ((List.range (min vs'.length us'.length)).all e && (vs'.length+1 == us'.length+1)))=_
   congr 2
   rw [Bool.eq_iff_iff,beq_iff_eq,beq_iff_eq,Nat.add_right_cancel_iff]
noncomputable def tyN:PV→Nat
 | .none=>0
 | .bool _=>1
 | .int _=>2
 | .flt _=>3
 | .str _=>4
 | .bytes _=>5
 | .tuple _=>6
 | .list _=>7
 | .dict0=>8
noncomputable def clsN:Value→Nat
 | .type T => if T = "tuple" then 6 else if T = "list" then 7 else 8
 | _=>9
noncomputable def vtyN (H:Heap):Value→Nat
 | .none=>0
 | .bool _=>1
 | .int _ _=>2
 | .float _ _=>3
 | .str _ _=>4
 | .bytes _ _=>5
 | .ref a=>((H.get? a).map fun o=>clsN o.cls).getD 9
 | _=>9
theorem vty_ref {H:Heap} {a:Addr} {o:Obj} {T:String} (e:H.get? a=some o) (c:o.cls=.type T):vtyN H (.ref a)=clsN (.type T):=by
 show ((H.get? a).map fun o=>clsN o.cls).getD 9=_
 rw [e,← c]; rfl
theorem vty_of {H:Heap} {p:PV} {v:Value} (r:Rep H p v):vtyN H v=tyN p:=by
 cases p with
 | none=>cases r; rfl
 | bool b=>cases r; rfl
 | int i=>obtain ⟨t,rfl⟩:=r; rfl
 | flt x=>obtain ⟨t,rfl,_⟩:=r; rfl
 | str l=>obtain ⟨_,_,rfl,_⟩:=r; rfl
 | bytes l=>obtain ⟨_,_,rfl,_⟩:=r; rfl
 | tuple l=>obtain ⟨a,ws,rfl,⟨o,e,c,_⟩,_⟩:=r; exact vty_ref e c
 | list l=>obtain ⟨a,ws,rfl,⟨o,e,c,_⟩,_⟩:=r; exact vty_ref e c
 | dict0=>exact r.elim
theorem same_ty {H:Heap} {x y:PV} {v:Value} (h1:Rep H x v) (h2:Rep H y v):(tyN y == tyN x)=true:=beq_iff_eq.2 ((vty_of h2).symm.trans (vty_of h1))
theorem of0 {P:PV→Prop} {y:PV} (e:(tyN y == 0)=true) (k:P .none):P y:=@PV.casesOn (fun y=>(tyN y == 0)=true→P y) y (fun _=>k) (fun _=>ff) (fun _=>ff) (fun _=>ff) (fun _=>ff) (fun _=>ff) (fun _=>ff) (fun _=>ff) ff e
theorem of1 {P:PV→Prop} {y:PV} (e:(tyN y == 1)=true) (k:∀ a,P (.bool a)):P y:=@PV.casesOn (fun y=>(tyN y == 1)=true→P y) y ff (fun a _=>k a) (fun _=>ff) (fun _=>ff) (fun _=>ff) (fun _=>ff) (fun _=>ff) (fun _=>ff) ff e
theorem of2 {P:PV→Prop} {y:PV} (e:(tyN y == 2)=true) (k:∀ a,P (.int a)):P y:=@PV.casesOn (fun y=>(tyN y == 2)=true→P y) y ff (fun _=>ff) (fun a _=>k a) (fun _=>ff) (fun _=>ff) (fun _=>ff) (fun _=>ff) (fun _=>ff) ff e
theorem of3 {P:PV→Prop} {y:PV} (e:(tyN y == 3)=true) (k:∀ a,P (.flt a)):P y:=@PV.casesOn (fun y=>(tyN y == 3)=true→P y) y ff (fun _=>ff) (fun _=>ff) (fun a _=>k a) (fun _=>ff) (fun _=>ff) (fun _=>ff) (fun _=>ff) ff e
theorem of4 {P:PV→Prop} {y:PV} (e:(tyN y == 4)=true) (k:∀ a,P (.str a)):P y:=@PV.casesOn (fun y=>(tyN y == 4)=true→P y) y ff (fun _=>ff) (fun _=>ff) (fun _=>ff) (fun a _=>k a) (fun _=>ff) (fun _=>ff) (fun _=>ff) ff e
theorem of5 {P:PV→Prop} {y:PV} (e:(tyN y == 5)=true) (k:∀ a,P (.bytes a)):P y:=@PV.casesOn (fun y=>(tyN y == 5)=true→P y) y ff (fun _=>ff) (fun _=>ff) (fun _=>ff) (fun _=>ff) (fun a _=>k a) (fun _=>ff) (fun _=>ff) ff e
theorem of6 {P:PV→Prop} {y:PV} (e:(tyN y == 6)=true) (k:∀ a,P (.tuple a)):P y:=@PV.casesOn (fun y=>(tyN y == 6)=true→P y) y ff (fun _=>ff) (fun _=>ff) (fun _=>ff) (fun _=>ff) (fun _=>ff) (fun a _=>k a) (fun _=>ff) ff e
theorem of7 {P:PV→Prop} {y:PV} (e:(tyN y == 7)=true) (k:∀ a,P (.list a)):P y:=@PV.casesOn (fun y=>(tyN y == 7)=true→P y) y ff (fun _=>ff) (fun _=>ff) (fun _=>ff) (fun _=>ff) (fun _=>ff) (fun _=>ff) (fun a _=>k a) ff e
mutual
theorem Rep.det {H:Heap}:∀ {x y:PV} {v:Value},Rep H x v→Rep H y v→x=y
 | .none,y,v,h1,h2=>of0 (P:=fun y=>.none=y) (same_ty h1 h2) rfl
 | .bool b,y,v,h1,h2=>of1 (P:=fun y=>Rep H y v→.bool b=y) (same_ty h1 h2) (fun c h2=>by cases h1; cases h2; rfl) h2
 | .int b,y,v,h1,h2=>of2 (P:=fun y=>Rep H y v→.int b=y) (same_ty h1 h2) (fun c h2=>by obtain ⟨t,rfl⟩:=h1; obtain ⟨_,h⟩:=h2; cases h; rfl) h2
 | .flt b,y,v,h1,h2=>of3 (P:=fun y=>Rep H y v→.flt b=y) (same_ty h1 h2) (fun c h2=>by obtain ⟨t,rfl,_⟩:=h1; obtain ⟨_,h,_⟩:=h2; cases h; rfl) h2
 | .str b,y,v,h1,h2=>of4 (P:=fun y=>Rep H y v→.str b=y) (same_ty h1 h2) (fun c h2=>by obtain ⟨s,t,rfl,e⟩:=h1; obtain ⟨_,_,h,e'⟩:=h2; cases h; rw [← e,← e']) h2
 | .bytes b,y,v,h1,h2=>of5 (P:=fun y=>Rep H y v→.bytes b=y) (same_ty h1 h2) (fun c h2=>by obtain ⟨s,t,rfl,e,_⟩:=h1; obtain ⟨_,_,h,e',_⟩:=h2; cases h; rw [← e,← e']) h2
 | .tuple l,y,v,h1,h2=>of6 (P:=fun y=>Rep H y v→.tuple l=y) (same_ty h1 h2) (fun c h2=>by
  obtain ⟨a,ws,rfl,t,_,r⟩:=h1
  obtain ⟨_,us,e,t',_,r'⟩:=h2; cases e
  cases List.toArray_inj (isTuple_inj t t')
  rw [RepL.det r r']) h2
 | .list l,y,v,h1,h2=>of7 (P:=fun y=>Rep H y v→.list l=y) (same_ty h1 h2) (fun c h2=>by
  obtain ⟨a,ws,rfl,t,_,r⟩:=h1
  obtain ⟨_,us,e,t',_,r'⟩:=h2; cases e
  cases List.toArray_inj (isList_inj t t')
  rw [RepL.det r r']) h2
 | .dict0,y,v,h1,h2=>h1.elim
theorem RepL.det {H:Heap}:∀ {l m:List PV} {ws:List Value},RepL H l ws→RepL H m ws→l=m
 | [],[],ws,h1,h2=>rfl
 | [],q::t,ws,h1,h2=>by cases h1; obtain ⟨_,_,h,_⟩:=h2; cases h
 | p::r,[],ws,h1,h2=>by cases h2; obtain ⟨_,_,h,_⟩:=h1; cases h
 | p::r,q::t',ws,h1,h2=>by
  obtain ⟨w,t,rfl,hp,hr⟩:=h1
  obtain ⟨w',t'',h,hq,hr'⟩:=h2
  cases h
  rw [Rep.det hp hq,RepL.det hr hr']
end
theorem bInt_inj {a b:Array UInt8}:bInt a=bInt b→a=b:=by
 intro h
 have:a.toList=b.toList:=by
  have inj:Function.Injective (fun c:UInt8=>(c.toNat:Int)):=fun x y e=>UInt8.toNat_inj.1 (Int.ofNat.inj e)
  exact (List.map_inj_right (fun x y e=>inj e)).1 h
 exact Array.toList_inj.1 this
theorem bInt_beq (a b:Array UInt8):(a.toList == b.toList)=(bInt a == bInt b):=by
 rw [Bool.eq_iff_iff,beq_iff_eq,beq_iff_eq]
 exact ⟨fun h=>by rw [Array.toList_inj.1 h],fun h=>by rw [bInt_inj h]⟩
theorem str_beq' (a b:Str):(a == b)=(a.cps.toList == b.cps.toList):=(SeqAt.str_beq a b).symm
theorem eq_of_rc {H:Heap} {n:Nat} {x y:PV} {a b:Value} {k:Bool} {A:Around} {s:Shared} (h:eqD n x y=some k) (r1:Rep H x a) (r2:Rep H y b) (hb:NoneBooked s.heap) (hr:RcAt A s a b k):EqAt A s a b k:=by
 by_cases hf:∃ z t,a=.float z t
 ·obtain ⟨z,t,rfl⟩:=hf
  refine of3 (P:=fun x=>Rep H x (.float z t)→eqD n x y=some k→EqAt A s (.float z t) b k) (beq_iff_eq.2 (vty_of r1).symm) (fun c r1 h=>?_) r1 h
  obtain ⟨_,e,ht⟩:=r1; cases e
  exact nn h
 ·exact eqAt_of hr (fun e=>by subst e; have:=Rep.det r1 r2; subst this; exact eqD_self n x h) (fun z t e=>hf ⟨z,t,e⟩)
theorem len_all {α:Type} {R:Bool→Prop} {vs us:List α} {e:Nat→Bool} (h:vs.length=us.length) (x:R ((List.range vs.length).all e)):R ((List.range (min vs.length us.length)).all e && vs.length == us.length):=by
 rw [← h,Nat.min_self,beq_self_eq_true,Bool.and_true]; exact x
theorem rc_at {H:Heap}:∀ (n:Nat) {x y:PV} {a b:Value} {k:Bool} {A:Around} {s:Shared},eqD n x y=some k→Rep H x a→Rep H y b→H.StaysIn s.heap→NoneBooked s.heap→A.units+n<cLine →
  RcAt A s a b k:=by
 intro n
 induction n using Nat.strongRecOn with
 | ind n ih =>
  intro x y a b k A s h r1 r2 hs hb hu
  cases eqD_v h with
  | none=>cases r1; cases r2; exact .none_none
  | bool=>cases r1; cases r2; exact .bool_bool _ _
  | int =>
   obtain ⟨t,rfl⟩:=r1
   obtain ⟨u,rfl⟩:=r2
   exact .int_int _ _ _ _
  | str =>
   obtain ⟨p,t,rfl,e⟩:=r1
   obtain ⟨q,u,rfl,e'⟩:=r2
   rw [← e,← e',← str_beq']; exact .str_str _ _ _ _
  | bytes =>
   obtain ⟨p,t,rfl,e,_⟩:=r1
   obtain ⟨q,u,rfl,e',_⟩:=r2
   rw [← e,← e',← bInt_beq]; exact rc_bytes _ _ _ _
  | @tup n _ _ _ h =>
   obtain ⟨c,vs,rfl,hl,_,q1⟩:=r1
   obtain ⟨c',us,rfl,hl',_,q2⟩:=r2
   obtain ⟨e,he,rfl⟩:=pairs_at (A:=A.in1) (s:=s) (fun h r r'=>eq_of_rc h r r' hb (ih n (Nat.lt_succ_self n) h r r' hs hb (by show A.units+1+n<cLine; lia))) h q1 q2
   exact RcAt.tuples (items:=vs.toArray) (items2:=us.toArray) (isTuple_up hs hl) (isTuple_up hs hl') (by lia) he
  | @lst n _ _ _ hlen h =>
   obtain ⟨c,vs,rfl,hl,_,q1⟩:=r1
   obtain ⟨c',us,rfl,hl',_,q2⟩:=r2
   obtain ⟨e,he,rfl⟩:=pairs_at (A:=A.in1) (s:=s) (fun h r r'=>eq_of_rc h r r' hb (ih n (Nat.lt_succ_self n) h r r' hs hb (by show A.units+1+n<cLine; lia))) h q1 q2
   exact len_all (q1.length.trans (hlen.trans q2.length.symm)) (RcAt.lists (items:=vs.toArray) (items2:=us.toArray) (isList_up hs hl) (isList_up hs hl') (q1.length.trans (hlen.trans q2.length.symm)) (by lia) he)
  | lsd hlen =>
   obtain ⟨c,vs,rfl,hl,_,q1⟩:=r1
   obtain ⟨c',us,rfl,hl',_,q2⟩:=r2
   exact RcAt.lists_lengths (items:=vs.toArray) (items2:=us.toArray) (isList_up hs hl) (isList_up hs hl') (bne_iff_ne.2 (by show vs.length≠us.length; rw [q1.length,q2.length]; exact hlen)) (by lia)
theorem eq_at {H:Heap} (n:Nat) {x y:PV} {a b:Value} {k:Bool} {A:Around} {s:Shared} (h:eqD n x y=some k) (r1:Rep H x a) (r2:Rep H y b) (hs:H.StaysIn s.heap) (hb:NoneBooked s.heap) (hu:A.units+n<cLine) :
  EqAt A s a b k:=eq_of_rc h r1 r2 hb (rc_at n h r1 r2 hs hb hu)
theorem rcNe_at {H:Heap} {n:Nat} {x y:PV} {a b:Value} {k:Bool} {A:Around} {s:Shared} (h:eqD n x y=some k) (r1:Rep H x a) (r2:Rep H y b) (hs:H.StaysIn s.heap) (hb:NoneBooked s.heap) (hu:A.units+n<cLine)
  (hok:neOk x y=true) :
  RcNeAt A s a b (!k):=by
  cases eqD_v h with
  | none=>cases r1; cases r2; exact .none_none
  | bool=>cases r1; cases r2; exact .bool_bool _ _
  | int =>
   obtain ⟨t,rfl⟩:=r1
   obtain ⟨u,rfl⟩:=r2
   exact .int_int _ _ _ _
  | str =>
   obtain ⟨p,t,rfl,e⟩:=r1
   obtain ⟨q,u,rfl,e'⟩:=r2
   rw [← e,← e',← str_beq']; exact .str_str _ _ _ _
  | bytes =>
   obtain ⟨p,t,rfl,e,_⟩:=r1
   obtain ⟨q,u,rfl,e',_⟩:=r2
   rw [← e,← e',← bInt_beq]; exact rcNe_bytes _ _ _ _
  | @tup n _ _ _ h =>
   obtain ⟨c,vs,rfl,hl,_,q1⟩:=r1
   obtain ⟨c',us,rfl,hl',_,q2⟩:=r2
   obtain ⟨e,he,rfl⟩:=pairs_at (A:=A.in1) (s:=s) (fun h r r'=>eq_at n h r r' hs hb (by show A.units+1+n<cLine; lia)) h q1 q2
   exact RcNeAt.tuples (items:=vs.toArray) (items2:=us.toArray) (isTuple_up hs hl) (isTuple_up hs hl') (by lia) he
  | @lst n _ _ _ hlen h =>
   obtain ⟨c,vs,rfl,hl,_,q1⟩:=r1
   obtain ⟨c',us,rfl,hl',_,q2⟩:=r2
   obtain ⟨e,he,rfl⟩:=pairs_at (A:=A.in1) (s:=s) (fun h r r'=>eq_at n h r r' hs hb (by show A.units+1+n<cLine; lia)) h q1 q2
   exact len_all (R:=fun k=>RcNeAt A s (.ref c) (.ref c') (!k)) (q1.length.trans (hlen.trans q2.length.symm)) (RcNeAt.lists (items:=vs.toArray) (items2:=us.toArray) (isList_up hs hl) (isList_up hs hl') (q1.length.trans (hlen.trans q2.length.symm)) (by lia) he)
  | lsd hlen =>
   obtain ⟨c,vs,rfl,hl,_,q1⟩:=r1
   obtain ⟨c',us,rfl,hl',_,q2⟩:=r2
   exact RcNeAt.lists_lengths (items:=vs.toArray) (items2:=us.toArray) (isList_up hs hl) (isList_up hs hl') (bne_iff_ne.2 (by show vs.length≠us.length; rw [q1.length,q2.length]; exact hlen)) (by lia)
end Mine
namespace Mine
open PySem PySem.W PySem.SeqAt
theorem gives_contains (b:Array UInt8) (t:Tok) (n:Int) (u:Tok) (h0:0≤n) (h1:n<256):Gives (Builtin.«bytes.__contains__» ⟨[.bytes b t,.int n u],[]⟩) (.val (.bool (b.contains n.toNat.toUInt8))) :=
 .of_wp fun M A E s Q h=>by
  obtain ⟨hp,g,d,tk,os⟩:=s
  have f1:=AutoSeq1.idx_int
  have f3 : Builtin.Bytes.buffer? "bytes.__contains__" (.bytes b t) = pure (some b) := KBy.buffer_eq
  have f2:¬ ((decide (n<0) || decide (n ≥ 256))=true):=by simp; lia
  wp_walk
  exact ⟨_,rfl,h⟩
theorem contains_int {b:Array UInt8} {l:List Int} (e:bInt b=l) {n:Int} (h0:0≤n) (h1:n<256):b.contains n.toNat.toUInt8=decide (n∈l):=by
 subst e
 rw [Bool.eq_iff_iff,Array.contains_iff_mem,decide_eq_true_iff]
 unfold bInt
 rw [List.mem_map]
 have hn:(n.toNat.toUInt8).toNat=n.toNat:=by simp; lia
 constructor
 ·intro h
  exact ⟨_,Array.mem_toList_iff.2 h,by rw [hn]; lia⟩
 ·rintro ⟨c,hc,rfl⟩
  have:(↑c.toNat:Int).toNat.toUInt8=c:=by simp
  rw [this]
  exact Array.mem_toList_iff.1 hc
theorem memD_some {n:Nat} {x:PV}:∀ {l:List PV} {k:Bool},memD n x l=some k→(∀ p∈l,∃ j,eqD n p x=some j)∧k=l.any (fun p=>eqD n p x == some true)
 | [],k,h=>⟨fun _ q=>(by cases q),(Option.some.inj h).symm⟩
 | p::r,k,h=>by
  have h:(match eqD n p x,memD n x r with | some a,some b=>some (a || b) | _,_=>none)=some k:=h
  cases h1:eqD n p x with
  | none=>rw [h1] at h; exact nn h
  | some a =>
   cases h2:memD n x r with
   | none=>rw [h1,h2] at h; exact nn h
   | some b =>
    rw [h1,h2] at h
    obtain ⟨g1,g2⟩:=memD_some h2
    refine ⟨fun q hq=>?_,?_⟩
    ·rcases List.mem_cons.1 hq with rfl | hq
     ·exact ⟨a,h1⟩
     ·exact g1 q hq
    ·rw [← Option.some.inj h,g2,List.any_cons,h1]; cases a <;> rfl
theorem RepL.mem {H:Heap}:∀ {l:List PV} {ws:List Value} {v:Value},RepL H l ws→v∈ws→∃ p∈l,Rep H p v
 | [],ws,v,h,hv=>by rw [RepL] at h; subst h; cases hv
 | p::r,ws,v,h,hv=>by
  rw [RepL] at h
  obtain ⟨w,t,rfl,hp,hr⟩:=h
  rcases List.mem_cons.1 hv with rfl | hv
  ·exact ⟨p,by simp,hp⟩
  ·obtain ⟨q,hq,hr⟩:=hr.mem hv; exact ⟨q,by simp [hq],hr⟩
open Classical in
theorem mem_any {H:Heap} {n:Nat} {x:PV} {a:Value} {A:Around} {s:Shared} {l:List PV} {ws:List Value} {k:Bool} (h:memD n x l=some k) (rx:Rep H x a) (rl:RepL H l ws)
  (hs:H.StaysIn s.heap) (hb:NoneBooked s.heap) (hu:A.units+n<cLine):∃ e:Value→Bool,(∀ y,y∈ws→EqAt A s y a (e y))∧ws.any e=k:=by
 obtain ⟨h1,h2⟩:=memD_some h
 have key:∀ {y:Value} {p:PV},Rep H p y→(∃ j,eqD n p x=some j)→decide (∃ q,Rep H q y∧eqD n q x=some true)=(eqD n p x == some true):=by
  intro y p hp ⟨j,hj⟩
  rw [Bool.eq_iff_iff,decide_eq_true_iff,beq_iff_eq]
  constructor
  ·rintro ⟨q,hq,he⟩; rw [Rep.det hp hq]; exact he
  ·intro he; exact ⟨p,hp,he⟩
 refine ⟨fun y=>decide (∃ q,Rep H q y∧eqD n q x=some true),fun y hy=>?_,?_⟩
 ·obtain ⟨p,hp,hr⟩:=rl.mem hy
  obtain ⟨j,hj⟩:=h1 p hp
  have hd:=key hr ⟨j,hj⟩
  have hj':(eqD n p x == some true)=j:=by rw [hj]; cases j <;> rfl
  show EqAt A s y a (decide (∃ q,Rep H q y∧eqD n q x=some true))
  rw [hd,hj']
  exact eq_at n hj hr rx hs hb hu
 ·rw [h2]
  clear h2 h
  induction l generalizing ws with
  | nil=>rw [RepL] at rl; subst rl; rfl
  | cons p r ih =>
   rw [RepL] at rl
   obtain ⟨v,t,rfl,hp,hr⟩:=rl
   rw [List.any_cons,List.any_cons,ih hr (fun q hq=>h1 q (by simp [hq])),key hp (h1 p (by simp))]
section
variable {prog:Program} {w:World} {Γ:Ct} {B:Bl}
theorem booked {H:Heap} {ρ:List Slot} {s:Shared} (hΓ:Γ.Ok) (hs:St Γ B H ρ s):NoneBooked s.heap:=by
 obtain ⟨mc,h1,h2⟩:=hΓ.statics
 exact ⟨mc,h1.keeps (stays_trans hs.base hs.stays),h2⟩
theorem none_of {H:Heap} {x:PV} {a:Value} (ra:Rep H x a):plainIs a .none=true∧isNone x=(a == Value.none):=by
 cases x with
 | none=>cases ra; exact ⟨rfl,rfl⟩
 | bool _=>cases ra; exact ⟨rfl,rfl⟩
 | int _=>obtain ⟨_,rfl⟩:=ra; exact ⟨rfl,rfl⟩
 | flt _=>obtain ⟨_,rfl,_⟩:=ra; exact ⟨rfl,rfl⟩
 | str _=>obtain ⟨_,_,rfl,_⟩:=ra; exact ⟨rfl,rfl⟩
 | bytes _=>obtain ⟨_,_,rfl,_⟩:=ra; exact ⟨rfl,rfl⟩
 | tuple _=>obtain ⟨_,_,rfl,_⟩:=ra; exact ⟨rfl,rfl⟩
 | list _=>obtain ⟨_,_,rfl,_⟩:=ra; exact ⟨rfl,rfl⟩
 | dict0=>exact ra.elim
theorem so_cmp {d:Nat} (hΓ:Γ.Ok) (hB:B.Ok d) {op:CmpOp} {o:COp} (ho:copOk op o=true):CmpOk prog w Γ B op o:=by
 intro H ρ s x y a b hst ra rb Q E hp
 have hs:=hst.stays
 have hun:=hB.units
 have hbk:=booked hΓ hst
 cases of_decide_eq_true ho
 let Z (r:Res Bool):Prop:=Post Rep (B.fenv::B.outer) H s (r.bind fun r=>.ok (.bool r)) Q E
 have hz:Z .stuck→False:=id
 cases o with
 | eq =>
  have hp:Z (ofO (eqD 12 x y)):=hp
  cases h:eqD 12 x y with
  | none=>rw [h] at hp; exact (hz hp).elim
  | some k =>
   rw [h] at hp
   exact rc_at 12 h ra rb hs hbk (by lia) prog w E Q (hp.ok (.refl hs) (repBool _ _))
 | ne =>
  refine when_k (Z:=Z) hz hp fun hok hp=>?_
  cases h:eqD 12 x y with
  | none=>rw [h] at hp; exact (hz hp).elim
  | some k =>
   rw [h] at hp
   exact rcNe_at h ra rb hs hbk (by lia) hok prog w E Q (hp.ok (.refl hs) (repBool _ _))
 | lt =>
  exact onI_k (Z:=Z) (P:=fun x=>Rep H x a→wpAny (model prog w) B.A (compareOp .Lt a b) Q E s) hz hp (fun i hp ra=>onI_k (Z:=Z) (P:=fun y=>Rep H y b→wpAny (model prog w) B.A (compareOp .Lt a b) Q E s) hz hp (fun j hp rb=>by
   obtain ⟨t,rfl⟩:=ra
   obtain ⟨u,rfl⟩:=rb
   exact P.lt_int (hp.ok (.refl hs) (repBool _ _))) rb) ra
 | le =>
  exact onI_k (Z:=Z) (P:=fun x=>Rep H x a→wpAny (model prog w) B.A (compareOp .LtE a b) Q E s) hz hp (fun i hp ra=>onI_k (Z:=Z) (P:=fun y=>Rep H y b→wpAny (model prog w) B.A (compareOp .LtE a b) Q E s) hz hp (fun j hp rb=>by
   obtain ⟨t,rfl⟩:=ra
   obtain ⟨u,rfl⟩:=rb
   exact P.le_int (hp.ok (.refl hs) (repBool _ _))) rb) ra
 | gt =>
  exact onI_k (Z:=Z) (P:=fun x=>Rep H x a→wpAny (model prog w) B.A (compareOp .Gt a b) Q E s) hz hp (fun i hp ra=>onI_k (Z:=Z) (P:=fun y=>Rep H y b→wpAny (model prog w) B.A (compareOp .Gt a b) Q E s) hz hp (fun j hp rb=>by
   obtain ⟨t,rfl⟩:=ra
   obtain ⟨u,rfl⟩:=rb
   exact P.gt_int (hp.ok (.refl hs) (repBool _ _))) rb) ra
 | ge =>
  exact onI_k (Z:=Z) (P:=fun x=>Rep H x a→wpAny (model prog w) B.A (compareOp .GtE a b) Q E s) hz hp (fun i hp ra=>onI_k (Z:=Z) (P:=fun y=>Rep H y b→wpAny (model prog w) B.A (compareOp .GtE a b) Q E s) hz hp (fun j hp rb=>by
   obtain ⟨t,rfl⟩:=ra
   obtain ⟨u,rfl⟩:=rb
   exact P.ge_int (hp.ok (.refl hs) (repBool _ _))) rb) ra
 | is_ =>
  exact onN_k (Z:=Z) (P:=fun y=>Rep H y b→wpAny (model prog w) B.A (compareOp .Is a b) Q E s) hz hp (fun hp rb=>by
   cases rb
   rw [(none_of ra).2] at hp
   exact wpAny_is_plain (none_of ra).1 (hp.ok (.refl hs) (repBool _ _))) rb
 | isNot =>
  exact onN_k (Z:=Z) (P:=fun y=>Rep H y b→wpAny (model prog w) B.A (compareOp .IsNot a b) Q E s) hz hp (fun hp rb=>by
   cases rb
   rw [(none_of ra).2] at hp
   exact wpAny_isNot_plain (none_of ra).1 (hp.ok (.refl hs) (repBool _ _))) rb
 | in_ =>
  cases y with
  | bytes l=>exact onI_k (Z:=Z) (P:=fun x=>Rep H x a→wpAny (model prog w) B.A (compareOp .In a b) Q E s) hz hp (fun n hp ra=>when_k (Z:=Z) hz hp fun hz hp=>by
    obtain ⟨t,rfl⟩:=ra
    obtain ⟨c,u,rfl,e,_⟩:=rb
    refine in_gives (typeIs_bytes s c u) FB.slot_bytes_contains FB.entry_bytes_contains (FB.args_bytes_contains_2 _ _) (gives_contains c u n t hz.1 hz.2) ?_
    rw [contains_int e hz.1 hz.2]
    exact hp.ok (.refl hs) (repBool _ _)) ra
  | tuple l =>
   have hp:Post Rep (B.fenv::B.outer) H s ((ofO (memD 12 x l)).bind fun r=>.ok (.bool r)) Q E:=hp
   cases h:memD 12 x l with
   | none=>rw [h] at hp; exact hp.elim
   | some k =>
    rw [h] at hp
    obtain ⟨c,ws,rfl,hl,_,hr⟩:=rb
    obtain ⟨e,he,hk⟩:=mem_any (A:=B.A.in1) h ra hr hs hbk (by show B.A.units+1+12<cLine; lia)
    refine in_tupleAt e (isTuple_up hs hl) (fun y hy=>he y (List.mem_toArray.1 hy)) ?_
    rw [List.any_toArray,hk]
    exact hp.ok (.refl hs) (repBool _ _)
  | list l =>
   have hp:Post Rep (B.fenv::B.outer) H s ((ofO (memD 12 x l)).bind fun r=>.ok (.bool r)) Q E:=hp
   cases h:memD 12 x l with
   | none=>rw [h] at hp; exact hp.elim
   | some k =>
    rw [h] at hp
    obtain ⟨c,ws,rfl,hl,_,hr⟩:=rb
    obtain ⟨e,he,hk⟩:=mem_any (A:=B.A.in1) h ra hr hs hbk (by show B.A.units+1+12<cLine; lia)
    refine in_listAt e (isList_up hs hl) (fun y hy=>he y (List.mem_toArray.1 hy)) ?_
    rw [List.any_toArray,hk]
    exact hp.ok (.refl hs) (repBool _ _)
  | _=>exact (hz hp).elim
 | notIn =>
  cases y with
  | bytes l=>exact onI_k (Z:=Z) (P:=fun x=>Rep H x a→wpAny (model prog w) B.A (compareOp .NotIn a b) Q E s) hz hp (fun n hp ra=>when_k (Z:=Z) hz hp fun hz hp=>by
    obtain ⟨t,rfl⟩:=ra
    obtain ⟨c,u,rfl,e,_⟩:=rb
    refine notIn_gives (typeIs_bytes s c u) FB.slot_bytes_contains FB.entry_bytes_contains (FB.args_bytes_contains_2 _ _) (gives_contains c u n t hz.1 hz.2) ?_
    rw [contains_int e hz.1 hz.2]
    exact hp.ok (.refl hs) (repBool _ _)) ra
  | tuple l =>
   have hp:Post Rep (B.fenv::B.outer) H s ((ofO ((memD 12 x l).map (!·))).bind fun r=>.ok (.bool r)) Q E:=hp
   cases h:memD 12 x l with
   | none=>rw [h] at hp; exact hp.elim
   | some k =>
    rw [h] at hp
    obtain ⟨c,ws,rfl,hl,_,hr⟩:=rb
    obtain ⟨e,he,hk⟩:=mem_any (A:=B.A.in1) h ra hr hs hbk (by show B.A.units+1+12<cLine; lia)
    refine notIn_tupleAt e (isTuple_up hs hl) (fun y hy=>he y (List.mem_toArray.1 hy)) ?_
    rw [List.any_toArray,hk]
    exact hp.ok (.refl hs) (repBool _ _)
  | list l =>
   have hp:Post Rep (B.fenv::B.outer) H s ((ofO ((memD 12 x l).map (!·))).bind fun r=>.ok (.bool r)) Q E:=hp
   cases h:memD 12 x l with
   | none=>rw [h] at hp; exact hp.elim
   | some k =>
    rw [h] at hp
    obtain ⟨c,ws,rfl,hl,_,hr⟩:=rb
    obtain ⟨e,he,hk⟩:=mem_any (A:=B.A.in1) h ra hr hs hbk (by show B.A.units+1+12<cLine; lia)
    refine notIn_listAt e (isList_up hs hl) (fun y hy=>he y (List.mem_toArray.1 hy)) ?_
    rw [List.any_toArray,hk]
    exact hp.ok (.refl hs) (repBool _ _)
  | _=>exact (hz hp).elim
end
end Mine
namespace Mine
open PySem PySem.W PySem.SeqAt PyProof.Rows
theorem sub_plain {slice:Expr} (h:notSlice slice=true) (o i:Value):subscripted slice false o i=operate [o,i] (getItem o i):=by
 cases slice <;> first | rfl | cases h
section
variable {prog:Program} {w:World} {Γ:Ct} {B:Bl}
theorem item_any {H:Heap} {s:Shared} {A:Around} {fr:List Env} {value slice:Expr} {x y:PV} {a b:Value} {Q E:Value→Shared→Prop} (hs:H.StaysIn s.heap) (ra:Rep H x a) (rb:Rep H y b)
  (hn:notSlice slice=true) (hp:Post Rep fr H s (idxP x y) Q E):wpAny (model prog w) A (subscriptTail value slice a b) Q E s:=by
 cases x <;> cases y <;> try exact hp.elim
 ·rename_i l i
  refine when_k (Z:=fun r=>Post Rep fr H s r Q E) id hp fun h0 hp=>?_
  ·skip
   cases hi:l[i.toNat]? with
   | none=>rw [hi] at hp; exact hp.elim
   | some n =>
    rw [hi] at hp
    obtain ⟨c,t,rfl,e,hz⟩:=rep_bytes ra
    obtain ⟨u,rfl⟩:=rep_int rb
    have hlt:=(List.getElem?_eq_some_iff.1 hi).1
    have hc:c.toList.length=l.length:=by rw [← e]; simp [bInt]
    have e':c.toList.toArray=c:=Array.toArray_toList
    refine tail_any (T := "bytes") (typeIs_bytes s c t) FB.slot_bytes_getitem.lookup ?_ (sub_plain hn _ _)
    rw [← e']
    refine getItem_bytes (by lia) h0 (by lia) ?_
    have:((c.toList.getD i.toNat 0).toNat:Int)=n:=by
     have h3:i.toNat<c.toList.length:=by lia
     subst e
     simp only [bInt,List.getElem?_map,List.getElem?_eq_getElem h3,Option.map_some,Option.some.injEq] at hi
     rw [List.getD_eq_getElem?_getD,List.getElem?_eq_getElem h3]; exact hi
    rw [this]
    exact hp.ok (.refl hs) (repInt _ _ _)
 ·rename_i l i
  obtain ⟨c,ws,rfl,hl,hz,hr⟩:=rep_tuple ra
  obtain ⟨u,rfl⟩:=rep_int rb
  have hlen:=hr.length
  refine when_k (Z:=fun r=>Post Rep fr H s r Q E) id hp fun h0 hp=>?_
  ·skip
   cases hi:l[i.toNat]? with
   | none=>rw [hi] at hp; exact hp.elim
   | some p =>
    rw [hi] at hp
    obtain ⟨v,hv,hrv⟩:=hr.get hi
    have hlt:=(List.getElem?_eq_some_iff.1 hv).1
    refine item_tupleT (l:=ws) (j:=i.toNat) (isTuple_up hs hl) (by lia) (by lia) ?_ hv (hp.ok (.refl hs) hrv) (sub_plain hn _ _)
    have h1:¬ i<0:=by lia
    have h2:i<ws.length:=by lia
    simp [seqIndex?,h1,h0,h2]
 ·rename_i l i
  obtain ⟨c,ws,rfl,hl,hz,hr⟩:=rep_list ra
  obtain ⟨u,rfl⟩:=rep_int rb
  have hlen:=hr.length
  refine when_k (Z:=fun r=>Post Rep fr H s r Q E) id hp fun h0 hp=>?_
  ·skip
   cases hi:l[i.toNat]? with
   | none=>rw [hi] at hp; exact hp.elim
   | some p =>
    rw [hi] at hp
    obtain ⟨v,hv,hrv⟩:=hr.get hi
    have hlt:=(List.getElem?_eq_some_iff.1 hv).1
    refine tail_any (T := "list") (isList_up hs hl).typeIs slot_list_getitem.lookup (wpAny_getItem_list (isList_up hs hl) h0 (by lia) (by simpa using hv) (hp.ok (.refl hs) hrv)) (sub_plain hn _ _)
theorem se_idx {v i:Expr} {pos:Pos} {f g:List Slot→Res PV} (hv:SE prog w Γ B v f) (hi:SE prog w Γ B i g) (hn:notSlice i=true) :
  SE prog w Γ B (.Subscript v i pos) (fun ρ=>(f ρ).bind fun x=>(g ρ).bind fun y=>idxP x y):=by
 intro H ρ s Q E hs hp
 refine Subscript_ (hv H ρ s _ _ hs (Post.bind hp fun x a s₁ H₁ _ e₁ ra hp₁=>?_))
 refine hi H₁ ρ s₁ _ _ (hs.ext e₁) (Post.bind hp₁ fun y b s₂ H₂ _ e₂ rb hp₂=>?_)
 exact item_any ((hs.ext e₁).ext e₂).stays (ra.mono e₂.grow) rb hn hp₂
theorem cut_clip {α:Type} (l:List α) (lo hi:Option Int) (h0:∀ a,lo=some a→0≤a) (h1:∀ a,hi=some a→0≤a) :
  (l.drop (lo.elim 0 (clipAt l.length))).take (hi.elim l.length (clipAt l.length) - lo.elim 0 (clipAt l.length))=cutL l lo hi:=by
 have key:∀ (a h:Nat),(l.drop (min a l.length)).take (min h l.length - min a l.length)=(l.take h).drop a:=by
  intro a h
  apply List.ext_getElem?
  intro i
  rw [List.getElem?_take,List.getElem?_drop,List.getElem?_drop,List.getElem?_take]
  by_cases ha:a≤l.length
  ·rw [Nat.min_eq_left ha]
   split <;> split <;> first | rfl | lia | (rw [List.getElem?_eq_none]; lia) | skip
  ·split <;> split <;> first | rfl | lia | skip
   ·rw [List.getElem?_eq_none (by lia)]
 have c:∀ a:Int,0≤a→clipAt l.length a=min a.toNat l.length:=fun a ha=>by
  obtain ⟨n,rfl⟩:=Int.eq_ofNat_of_zero_le ha
  rw [clipAt_nat]; rfl
 unfold cutL
 cases lo with
 | none =>
  cases hi with
  | none=>simp
  | some h =>
   have:=key 0 h.toNat
   simp only [Option.elim,c h (h1 h rfl)]
   simpa using this
 | some a =>
  cases hi with
  | none =>
   have:=key a.toNat l.length
   simp only [Option.elim,c a (h0 a rfl)]
   simpa using this
  | some h =>
   simp only [Option.elim,c a (h0 a rfl),c h (h1 h rfl)]
   exact key a.toNat h.toNat
noncomputable def RepO (H:Heap):Option PV→Value→Prop
 | none,v=>v=.none
 | some p,v=>Rep H p v
theorem RepO.mono {H H':Heap} (h:H.StaysIn H') {p:Option PV} {v:Value} (x:RepO H p v):RepO H' p v:=by
 cases p with
 | none=>exact x
 | some p=>exact Rep.mono h x
noncomputable def SP (prog:Program) (w:World) (Γ:Ct) (B:Bl) (e:Option Expr) (f:List Slot→Res (Option PV)):Prop :=
 ∀ H ρ s (Q E:Value→Shared→Prop),St Γ B H ρ s→Post RepO (B.fenv::B.outer) H s (f ρ) Q E→wpAny (model prog w) B.A (evalPart e B.env) Q E s
theorem sp_none:SP prog w Γ B none (fun _=>.ok none):=by
 intro H ρ s Q E hs hp
 rw [evalPart_none]
 exact wpAny_pure (hp.ok (.refl hs.stays) rfl)
theorem sp_some {e:Expr} {f:List Slot→Res PV} (h:SE prog w Γ B e f):SP prog w Γ B (some e) (fun ρ=>(f ρ).bind fun v=>.ok (some v)):=by
 intro H ρ s Q E hs hp
 rw [evalPart_some]
 refine h H ρ s _ _ hs (Post.bind hp fun x a s₁ H₁ _ e₁ ra hp₁=>?_)
 exact hp₁.ok (.refl (hs.ext e₁).stays) ra
theorem part_of {H:Heap} {p:Option PV} {v:Value} {l:Option Int} (r:RepO H p v) (h:endP p=.ok l):IsPart v l∧∀ a,l=some a→0≤a:=by
 cases p with
 | none=>cases h; cases r; exact ⟨.none,by simp⟩
 | some p =>
  cases p <;> simp only [endP,reduceCtorEq] at h
  split at h
  ·rename_i h0
   cases h
   obtain ⟨t,rfl⟩:=rep_int (H:=H) r
   exact ⟨.int _ _,fun a e=>by cases e; exact h0⟩
  ·cases h
theorem cutL_len {α:Type} (l:List α) (lo hi:Option Int):(cutL l lo hi).length≤l.length:=by
 unfold cutL
 cases lo <;> cases hi <;> simp <;> lia
theorem slice_any {H:Heap} {s:Shared} {A:Around} {fr:List Env} {value:Expr} {eo eh:Option Expr} {p:Pos} {x:PV} {a vl vh:Value} {lo hi:Option Int} {Q E:Value→Shared→Prop} (hs:H.StaysIn s.heap) (ra:Rep H x a)
  (pl:IsPart vl lo) (ph:IsPart vh hi) (h0:∀ a,lo=some a→0≤a) (h1:∀ a,hi=some a→0≤a) (hp:Post Rep fr H s (slcP x lo hi) Q E) :
  wpAny (model prog w) A (subscriptTail value (.Slice eo eh none p) a (.ref s.heap.objs.size)) Q E { s with heap := s.heap.push { cls := .type "slice",data := .fields #[vl,vh,.none] } } := by
 have ex : Ext H s H { s with heap := s.heap.push { cls := .type "slice",data := .fields #[vl,vh,.none] } } := Ext.push hs { cls := .type "slice",data := .fields #[vl,vh,.none] }
 have hs':=ex.stays
 replace hp:=hp.ext ex
 cases x <;> try exact hp.elim
 ·rename_i l
  obtain ⟨c,t,rfl,e,hz⟩:=rep_bytes ra
  have hk:=KBc.ints_picked (show KBw.bInts c=l from e) lo hi
  rw [cut_clip l lo hi h0 h1] at hk
  have hlen:(KBy.picked c lo hi).size=(cutL l lo hi).length:=by rw [← hk,KBw.ints_length]
  have hle:=cutL_len l lo hi
  refine tail_any (T := "bytes") (typeIs_bytes _ c t) FB.slot_bytes_getitem.lookup ?_ rfl
  refine getItem_meets (typeIs_bytes _ _ _) (by decide) FB.slot_bytes_getitem FB.entry_bytes_getitem (FB.args_bytes_getitem_2 _ _) (KBc.meets_slice2 c t _ pl ph)
   ⟨Heap.IsSliceOf.new _ _ _ _,by rw [hlen]; exact lim_line (by unfold lim; lia),fun t' k=>hp.ok (.refl hs') (repBytes _ _ hk (by unfold lim; lia))⟩
 ·rename_i l
  obtain ⟨c,ws,rfl,hl,hz,hr⟩:=rep_list ra
  have hlen:=hr.length
  have ht:=isList_up hs' hl
  refine tail_any (T := "list") (Heap.IsList.typeIs (s := { s with heap := _ }) ht) slot_list_getitem.lookup ?_ rfl
  refine wpAny_getItem_list_slice (s:={ s with heap:=_ }) (items:=ws.toArray) ht (Heap.IsSliceOf.new _ _ _ _) pl ph .none (by simp) ?_ (by simp [hlen]; exact lim_line hz)
  have hcut:slicePick ws.toArray lo hi none=(cutL ws lo hi).toArray:=by
   rw [slicePick_plain]
   have:=cut_clip ws lo hi h0 h1
   simpa using this
  rw [hcut]
  obtain ⟨H',ex',hg⟩ := made (s := { s with heap := _ }) hs' (T := "list") (ws := cutL ws lo hi)
  refine hp.ok (ex' _ ⟨rfl,rfl,rfl⟩) ?_
  have hle:=cutL_len l lo hi
  rw [Rep]
  refine ⟨_,_,rfl,⟨_,hg,rfl,_,rfl⟩,by lia,?_⟩
  refine RepL.mono (ex' { s with heap:=Heap.push (Heap.push _ _) _ } ⟨rfl,rfl,rfl⟩).grow ?_
  unfold cutL
  cases lo <;> cases hi <;> first | exact hr.drop _ | exact (hr.take _).drop _
theorem se_slc {v:Expr} {eo eh:Option Expr} {p pos:Pos} {f:List Slot→Res PV} {g h:List Slot→Res (Option PV)} (hv:SE prog w Γ B v f) (hl:SP prog w Γ B eo g) (hh:SP prog w Γ B eh h) :
  SE prog w Γ B (.Subscript v (.Slice eo eh none p) pos) (fun ρ=>(f ρ).bind fun x=>(g ρ).bind fun l=>(h ρ).bind fun h=>(endP l).bind fun l'=>(endP h).bind fun h'=>slcP x l' h'):=by
 intro H ρ s Q E hs hp
 refine Subscript_ (hv H ρ s _ _ hs (Post.bind hp fun x a s₁ H₁ _ e₁ ra hp₁=>?_))
 refine wpAny_Slice (hl H₁ ρ s₁ _ _ (hs.ext e₁) (Post.bind hp₁ fun y b s₂ H₂ _ e₂ rb hp₂=>?_))
 refine hh H₂ ρ s₂ _ _ ((hs.ext e₁).ext e₂) (Post.bind hp₂ fun z c s₃ H₃ _ e₃ rc hp₃=>?_)
 rw [evalPart_none]
 refine wpAny_pure ?_
 cases h1:endP y with
 | stuck=>rw [h1] at hp₃; exact hp₃.elim
 | exc=>cases y with
  | none=>cases h1
  | some y=>cases y <;> simp only [endP,reduceCtorEq] at h1; split at h1 <;> cases h1
 | ok l' =>
  rw [h1] at hp₃
  cases h2:endP z with
  | stuck=>simp only [h2,Res.bind] at hp₃; exact hp₃.elim
  | exc=>cases z with
   | none=>cases h2
   | some z=>cases z <;> simp only [endP,reduceCtorEq] at h2; split at h2 <;> cases h2
  | ok h' =>
   simp only [h2,Res.bind] at hp₃
   obtain ⟨q1,q2⟩:=part_of (rb.mono e₃.grow) h1
   obtain ⟨q3,q4⟩:=part_of rc h2
   exact slice_any (((hs.ext e₁).ext e₂).ext e₃).stays ((ra.mono e₂.grow).mono e₃.grow) q1 q3 q2 q4 hp₃
end
end Mine
namespace Mine
open PySem PySem.W PySem.SeqAt PyProof.Rows
noncomputable def tyOf:PV→String
 | .none => "NoneType"
 | .bool _ => "bool"
 | .int _ => "int"
 | .flt _ => "float"
 | .str _ => "str"
 | .bytes _ => "bytes"
 | .tuple _ => "tuple"
 | .list _ => "list"
 | .dict0 => "dict"
theorem typeIs_of {H:Heap} {p:PV} {v:Value} {s:Shared} (hs:H.StaysIn s.heap) (r:Rep H p v):s.TypeIs v (tyOf p):=by
 cases p <;> rw [Rep] at r
 ·subst r; rfl
 ·subst r; rfl
 ·obtain ⟨t,rfl⟩:=r; exact typeIs_int s _ t
 ·obtain ⟨t,rfl,_⟩:=r; rfl
 ·obtain ⟨x,t,rfl,_⟩:=r; exact typeIs_str s x t
 ·obtain ⟨x,t,rfl,_⟩:=r; exact typeIs_bytes s x t
 ·obtain ⟨a,ws,rfl,⟨o,e,c,_⟩,_⟩:=r; exact ⟨o,hs _ _ e,c⟩
 ·obtain ⟨a,ws,rfl,⟨o,e,c,_⟩,_⟩:=r; exact ⟨o,hs _ _ e,c⟩
 ·exact r.elim
theorem frag_nil (h:Heap):Frag.In [] h:=fun a o e=>by cases e
theorem kit_of {H : Heap} {p : PV} {v : Value} {s : Shared} (hs : H.StaysIn s.heap) (r : Rep H p v) : ∃ P : Heap → Prop,KitX [] v (.type (tyOf p)) P ∧ P s.heap ∧ v ≠ .builtin "__main__.__loader__#opaque" := by
 cases p <;> rw [Rep] at r
 ·subst r; exact ⟨_,kitx_none,trivial,nofun⟩
 ·subst r; exact ⟨_,kitx_bool,trivial,nofun⟩
 ·obtain ⟨t,rfl⟩:=r; exact ⟨_,kitx_int,trivial,nofun⟩
 ·obtain ⟨t,rfl,_⟩:=r; exact ⟨_,kitx_float,trivial,nofun⟩
 ·obtain ⟨x,t,rfl,_⟩:=r; exact ⟨_,kitx_str,trivial,nofun⟩
 ·obtain ⟨x,t,rfl,_⟩:=r; exact ⟨_,kitx_bytes,trivial,nofun⟩
 ·obtain ⟨a,ws,rfl,⟨o,e,c,_⟩,_⟩:=r; exact ⟨_,kitx_tuple,⟨o,hs _ _ e,c⟩,nofun⟩
 ·obtain ⟨a,ws,rfl,⟨o,e,c,_⟩,_⟩:=r; exact ⟨_,kitx_list,⟨o,hs _ _ e,c⟩,nofun⟩
 ·exact r.elim
theorem kit_one (p:PV) (t:Ty) (h:isBool p=false):kitOne [] (.type (tyOf p)) (.type (tyName t))=some (isP p t):=by
 cases p <;> cases t <;> first | (cases h; done) | kernel_rfl
theorem kit_any (p:PV) (h:isBool p=false):∀ ts:List Ty,kitAny [] (.type (tyOf p)) (ts.map fun t=>Value.type (tyName t))=some (ts.any (isP p))
 | []=>rfl
 | t::r=>by
  rw [List.map_cons,kitAny,kit_one p t h,List.any_cons]
  cases isP p t
  ·simpa using kit_any p h r
  ·rfl
theorem boot_ty (t:Ty):bootBuiltins (Str.ofString (tyName t))=some (.type (tyName t)):=by cases t <;> kernel_rfl
theorem words_ty (t:Ty):Str.ofString (tyName t)∈words:=by cases t <;> decide
section
variable {prog:Program} {w:World} {Γ:Ct} {B:Bl}
theorem word_split {N : Nm} {x : Str} {s : String} (h : N.isWord x s = true) : x = Str.ofString s ∧ N.names.lookup x = some .globalImplicit ∧ (x == ("__debug__" : Str)) = false := by
 unfold Nm.isWord at h
 rw [Bool.and_eq_true] at h
 exact ⟨by simpa using h.1,glob_names h.2⟩
theorem call1_b {d : Nat} (hΓ : Γ.Ok) (hB : B.Ok d) {x : Str} {xp pos : Pos} {e : Expr} {id : String} (hx : x ∈ words) (hb : bootBuiltins x = some (.builtin id)) (hk : B.env.kindOf x = some .globalImplicit) (hd : (x == ("__debug__" : Str)) = false) (hst : notStar e = true)
  {H:Heap} {ρ:List Slot} {s:Shared} {Q E:Value→Shared→Prop} (hs:St Γ B H ρ s) (h:wpAny (model prog w) B.A (eval e B.env) (fun v s₁=>wpAny (model prog w) B.A (call (.builtin id) [v]) Q E s₁) E s) :
  wpAny (model prog w) B.A (eval (.Call (.Name x xp) [e] [] pos) B.env) Q E s:=by
 refine Call_Name rfl (word_name hΓ hB hk hd hx hb hs ?_)
 have htr:backTo pos (starEach [e] B.env)=[(false,eval e B.env)]:=by rw [starEach_cons hst]; rfl
 rw [htr]
 exact Calls.callWith_builtin rfl (Calls.evalArgs_plain (Calls.spliced_cons (wpAny_mono h (fun v s₁ h₁=>Calls.spliced_nil h₁) fun _ _ z=>z)))
theorem call1_t {d : Nat} (hΓ : Γ.Ok) (hB : B.Ok d) {x : Str} {xp pos : Pos} {e : Expr} {id : String} (hx : x ∈ words) (hb : bootBuiltins x = some (.type id)) (hk : B.env.kindOf x = some .globalImplicit) (hd : (x == ("__debug__" : Str)) = false) (hst : notStar e = true)
  {H:Heap} {ρ:List Slot} {s:Shared} {Q E:Value→Shared→Prop} (hs:St Γ B H ρ s) (h:wpAny (model prog w) B.A (eval e B.env) (fun v s₁=>wpAny (model prog w) B.A (call (.type id) [v]) Q E s₁) E s) :
  wpAny (model prog w) B.A (eval (.Call (.Name x xp) [e] [] pos) B.env) Q E s:=by
 refine Call_Name rfl (word_name hΓ hB hk hd hx hb hs ?_)
 have htr:backTo pos (starEach [e] B.env)=[(false,eval e B.env)]:=by rw [starEach_cons hst]; rfl
 rw [htr]
 exact PySem.callWith_type rfl (Calls.evalArgs_plain (Calls.spliced_cons (wpAny_mono h (fun v s₁ h₁=>Calls.spliced_nil h₁) fun _ _ z=>z)))
theorem len_of {H:Heap} {s:Shared} {A:Around} {fr:List Env} {x:PV} {a:Value} {Q E:Value→Shared→Prop} (hs:H.StaysIn s.heap) (ra:Rep H x a) (hp:Post Rep fr H s (lenP x) Q E) :
  wpAny (model prog w) A (call (.builtin "len") [a]) Q E s := by
 cases x <;> try exact hp.elim
 ·obtain ⟨c,t,rfl,e,hz⟩:=rep_bytes ra
  have hl:=bInt_length c
  rw [e] at hl
  refine PySem.W.len_bytes (by lia) ?_
  rw [← hl]
  exact hp.ok (.refl hs) (repInt _ _ _)
 ·obtain ⟨c,ws,rfl,hl,hz,hr⟩:=rep_tuple ra
  have hlen:=hr.length
  refine len_tuple (isTuple_up hs hl) (by simp [hlen]; lia) ?_
  rw [show ws.toArray.size=_ from by simpa using hlen]
  exact hp.ok (.refl hs) (repInt _ _ _)
 ·obtain ⟨c,ws,rfl,hl,hz,hr⟩:=rep_list ra
  have hlen:=hr.length
  refine len_list (isList_up hs hl) (by simp [hlen]; lia) ?_
  rw [show ws.toArray.size=_ from by simpa using hlen]
  exact hp.ok (.refl hs) (repInt _ _ _)
theorem se_len {d : Nat} (hΓ : Γ.Ok) (hB : B.Ok d) {x : Str} {xp pos : Pos} {e : Expr} {f : List Slot → Res PV} (hx : x = Str.ofString "len") (hk : B.env.kindOf x = some .globalImplicit) (hd : (x == ("__debug__" : Str)) = false) (hst : notStar e = true)
  (he:SE prog w Γ B e f):SE prog w Γ B (.Call (.Name x xp) [e] [] pos) (fun ρ=>(f ρ).bind lenP):=by
 intro H ρ s Q E hs hp
 subst hx
 refine call1_b hΓ hB (id := "len") (by decide) (by kernel_rfl) hk hd hst hs (he H ρ s _ _ hs (Post.bind hp fun p v s₁ H₁ _ e₁ rr hp₁ => ?_))
 exact len_of (hs.ext e₁).stays rr hp₁
theorem se_len_var {d : Nat} (hΓ : Γ.Ok) (hB : B.Ok d) {x y : Str} {xp yp pos : Pos} {i : Nat} (hx : x = Str.ofString "len") (hk : B.env.kindOf x = some .globalImplicit) (hd : (x == ("__debug__" : Str)) = false)
  (hv : B.vs[i]? = some y) (hky : B.env.kindOf y = some .local) (hdy : (y == ("__debug__" : Str)) = false) :
  SE prog w Γ B (.Call (.Name x xp) [.Name y yp] [] pos) (fun ρ=>match getS ρ i with | .val v=>lenP v | .own l=>.ok (.int l.length) | .unset=>.stuck):=by
 intro H ρ s Q E hs hp
 cases hg:getS ρ i with
 | unset=>simp only [hg] at hp; exact hp.elim
 | val v =>
  refine se_len hΓ hB hx hk hd rfl (se_var hB hv hky hdy) H ρ s Q E hs ?_
  simp only [hg] at hp ⊢
  exact hp
 | own l =>
  simp only [hg] at hp
  subst hx
  refine call1_b hΓ hB (id := "len") (by decide) (by kernel_rfl) hk hd rfl hs ?_
  obtain ⟨m,oa,hn,hl,hN,hsl,hdd⟩:=hs.loc
  have h1:=hsl i y hv
  rw [hg] at h1
  obtain ⟨hz,ws,hm,ho,hr,_⟩:=h1
  refine wpAny_Name (wpAny_loadName_local hB.kind hky hn hm ?_) hdy
  have hlen:=hr.length
  have hz':l.length≤1048576:=hz
  refine len_list ho.list (by simp [hlen]; lia) ?_
  rw [show ws.toArray.size=_ from by simpa using hlen]
  exact hp.ok (.refl hs.stays) (repInt _ _ _)
theorem ty_name {d : Nat} (hΓ : Γ.Ok) (hB : B.Ok d) {y : Str} {yp : Pos} {t : Ty} (hy : y = Str.ofString (tyName t)) (hk : B.env.kindOf y = some .globalImplicit) (hd : (y == ("__debug__" : Str)) = false)
  {H:Heap} {ρ:List Slot} {s:Shared} (hs:St Γ B H ρ s) {Q E:Value→Shared→Prop} (h:Q (.type (tyName t)) s):wpAny (model prog w) B.A (eval (.Name y yp) B.env) Q E s:=by
 subst hy
 exact word_name hΓ hB hk hd (words_ty t) (boot_ty t) hs h
theorem se_isin1 {d : Nat} (hΓ : Γ.Ok) (hB : B.Ok d) {x y : Str} {xp yp pos : Pos} {e : Expr} {t : Ty} {f : List Slot → Res PV} (hx : x = Str.ofString "isinstance") (hk : B.env.kindOf x = some .globalImplicit) (hd : (x == ("__debug__" : Str)) = false)
  (hst : notStar e = true) (he : SE prog w Γ B e f) (hy : y = Str.ofString (tyName t)) (hky : B.env.kindOf y = some .globalImplicit) (hdy : (y == ("__debug__" : Str)) = false) :
  SE prog w Γ B (.Call (.Name x xp) [e,.Name y yp] [] pos) (fun ρ=>(f ρ).bind fun x=>if isBool x then .stuck else .ok (.bool (isP x t))):=by
 intro H ρ s Q E hs hp
 subst hx
 refine Call_Name rfl (word_name hΓ hB hk hd (by decide) (v := .builtin "isinstance") (by kernel_rfl) hs ?_)
 have htr:backTo pos (starEach [e,.Name y yp] B.env)=[(false,eval e B.env),(false,eval (.Name y yp) B.env)]:=by rw [starEach_cons hst]; rfl
 rw [htr]
 refine Calls.callWith_builtin rfl (Calls.evalArgs_plain (Calls.spliced_cons (he H ρ s _ _ hs (Post.bind hp fun p v s₁ H₁ _ e₁ rr hp₁=>?_))))
 have hs₁:=hs.ext e₁
 refine Calls.spliced_cons (ty_name hΓ hB hy hky hdy hs₁ (Calls.spliced_nil ?_))
 cases hb:isBool p with
 | true=>simp only [hb,if_true] at hp₁; exact hp₁.elim
 | false =>
  simp only [hb,Bool.false_eq_true,if_false] at hp₁
  obtain ⟨P,Z,hP,hne⟩:=kit_of hs₁.stays rr
  exact kia_one Z (frag_nil _) hP (kit_one p t hb) hne fun tk=>hp₁.ok (.refl hs₁.stays) (repBool _ _)
theorem ty_names {d:Nat} (hΓ:Γ.Ok) (hB:B.Ok d) {N:Nm} (hN:B.env.scope.names=N.names):∀ {es:List Expr} {ts:List Ty},chkTs N es ts=true→∀ {H:Heap} {ρ:List Slot} {s:Shared} {Q:List Value→Shared→Prop} {E:Value→Shared→Prop},St Γ B H ρ s →
  ∀ {pos:Pos},Q (ts.map fun t=>Value.type (tyName t)) s→wpAny (model prog w) B.A (spliced (backTo pos (starEach es B.env))) Q E s
 | es,[],hc,H,ρ,s,Q,E,hs,pos,h=>onL0_k (P:=fun es=>wpAny (model prog w) B.A (spliced (backTo pos (starEach es B.env))) Q E s) (by cases es <;> exact hc:onL0 es true=true) fun _=>Calls.spliced_nil h
 | [],_::_,h,_,_,_,_,_,_,_,_=>ff h
 | e::r,t::u,h,H,ρ,s,Q,E,hs,pos,hq =>
  onName_k (P:=fun e=>wpAny (model prog w) B.A (spliced (backTo pos (starEach (e::r) B.env))) Q E s) (show onName e _=true from h) fun y yp h=>by
   obtain ⟨h1,h2,h3⟩:=word_split (aL h)
   rw [starEach_cons rfl]
   show wpAny _ _ (spliced ((false,eval (.Name y yp) B.env)::backTo pos (starEach r B.env))) _ _ _
   refine Calls.spliced_cons (ty_name hΓ hB h1 (by unfold Env.kindOf; rw [hN]; exact h2) h3 hs ?_)
   exact ty_names hΓ hB hN (aR h) hs hq
theorem se_isin {d : Nat} (hΓ : Γ.Ok) (hB : B.Ok d) {N : Nm} (hN : B.env.scope.names = N.names) {x : Str} {xp tp pos : Pos} {k : Nat} {e : Expr} {es : List Expr} {ts : List Ty} {f : List Slot → Res PV} (hx : x = Str.ofString "isinstance") (hk : B.env.kindOf x = some .globalImplicit)
  (hd : (x == ("__debug__" : Str)) = false) (hst : notStar e = true) (he : SE prog w Γ B e f) (ht : chkTs N es ts = true) (hz : ts.length ≤ lim) :
  SE prog w Γ B (.Call (.Name x xp) [e,.Tuple es k tp] [] pos) (fun ρ=>(f ρ).bind fun x=>if isBool x then .stuck else .ok (.bool (ts.any (isP x)))):=by
 intro H ρ s Q E hs hp
 subst hx
 refine Call_Name rfl (word_name hΓ hB hk hd (by decide) (v := .builtin "isinstance") (by kernel_rfl) hs ?_)
 have htr:backTo pos (starEach [e,.Tuple es k tp] B.env)=[(false,eval e B.env),(false,eval (.Tuple es k tp) B.env)]:=by rw [starEach_cons hst]; rfl
 rw [htr]
 refine Calls.callWith_builtin rfl (Calls.evalArgs_plain (Calls.spliced_cons (he H ρ s _ _ hs (Post.bind hp fun p v s₁ H₁ _ e₁ rr hp₁=>?_))))
 have hs₁:=hs.ext e₁
 refine Calls.spliced_cons (Tuple_ (ty_names hΓ hB hN ht hs₁ ?_))
 refine wpAny_newObj_type (Calls.spliced_nil ?_) (by show (ts.map fun t=>Value.type (tyName t)).toArray.size≤sizeLine; simp; exact lim_line hz)
 cases hb:isBool p with
 | true=>simp only [hb,if_true] at hp₁; exact hp₁.elim
 | false =>
  simp only [hb,Bool.false_eq_true,if_false] at hp₁
  have ex : Ext H₁ s₁ H₁ { s₁ with heap := s₁.heap.push { cls := .type "tuple",data := .seq (ts.map fun t => Value.type (tyName t)).toArray } } := Ext.push hs₁.stays { cls := .type "tuple",data := .seq (ts.map fun t => Value.type (tyName t)).toArray }
  obtain ⟨P,Z,hP,hne⟩:=kit_of (s:={ s₁ with heap:=_ }) ex.stays rr
  exact kia_tup (s:={ s₁ with heap:=_ }) Z (frag_nil _) hP (Heap.get?_push_size _ rfl) (kit_any p hb ts) hne fun tk=>hp₁.ok (ex.trans (.refl ex.stays)) (repBool _ _)
theorem ints_are {H:Heap}:∀ {l:List PV} {ns:List Int} {ws:List Value},intsOf l=some ns→RepL H l ws→IntsAre ws ns
 | [],ns,ws,h,r=>by
  rw [RepL] at r; subst r; simp [intsOf] at h; subst h; exact .nil
 | p::t,ns,ws,h,r=>by
  rw [RepL] at r
  obtain ⟨v,u,rfl,rp,rt⟩:=r
  cases p <;> simp only [intsOf,reduceCtorEq] at h
  rename_i i
  cases ht:intsOf t with
  | none=>rw [ht] at h; cases h
  | some ms =>
   rw [ht] at h; cases h
   obtain ⟨tk,rfl⟩:=rep_int rp
   exact .cons i tk (ints_are ht rt)
theorem byteArr_int {ns:List Int} (h:∀ n∈ns,0≤n∧n<256):bInt (byteArr ns)=ns:=by
 unfold bInt byteArr
 rw [List.map_map]
 conv=>rhs; rw [← List.map_id ns]
 apply List.map_congr_left
 intro n hn
 have:=h n hn
 simp
 lia
theorem bytes_of {H:Heap} {s:Shared} {A:Around} (hh:A.handled=none) {fr:List Env} {x:PV} {a:Value} {Q E:Value→Shared→Prop} (hs:H.StaysIn s.heap) (ra:Rep H x a) (hp:Post Rep fr H s (bytesP x) Q E) :
  wpAny (model prog w) A (call (.type "bytes") [a]) Q E s := by
 cases x <;> try exact hp.elim
 rename_i l
 simp only [bytesP] at hp
 cases hi:intsOf l with
 | none=>rw [hi] at hp; exact hp.elim
 | some ns =>
  rw [hi] at hp
  simp only at hp
  split at hp
  ·rename_i hr
   obtain ⟨c,ws,rfl,hl,hz,hrl⟩:=rep_list ra
   have hia:=ints_are hi hrl
   have e1:=hrl.length
   have e2:ns.length=ws.length:=hia.length.symm
   refine call_bytes_ints (isList_up hs hl) hia hr (by rw [e1]; exact lim_line hz) hh fun h' t k hk=>hp.ok (.keeps hs hk) (repBytes _ _ (byteArr_int hr) (by rw [e2,e1]; exact hz))
  ·exact hp.elim
theorem se_mkBytes {d : Nat} (hΓ : Γ.Ok) (hB : B.Ok d) {x : Str} {xp pos : Pos} {e : Expr} {f : List Slot → Res PV} (hx : x = Str.ofString "bytes") (hk : B.env.kindOf x = some .globalImplicit) (hd : (x == ("__debug__" : Str)) = false) (hst : notStar e = true)
  (he:SE prog w Γ B e f):SE prog w Γ B (.Call (.Name x xp) [e] [] pos) (fun ρ=>(f ρ).bind bytesP):=by
 intro H ρ s Q E hs hp
 subst hx
 refine call1_t hΓ hB (id := "bytes") (by decide) (by kernel_rfl) hk hd hst hs (he H ρ s _ _ hs (Post.bind hp fun p v s₁ H₁ _ e₁ rr hp₁ => ?_))
 exact bytes_of hB.hand (hs.ext e₁).stays rr hp₁
theorem se_mkList {d : Nat} (hΓ : Γ.Ok) (hB : B.Ok d) {x : Str} {xp pos : Pos} {e : Expr} {f : List Slot → Res PV} (hx : x = Str.ofString "list") (hk : B.env.kindOf x = some .globalImplicit) (hd : (x == ("__debug__" : Str)) = false) (hst : notStar e = true)
  (he:SE prog w Γ B e f):SE prog w Γ B (.Call (.Name x xp) [e] [] pos) (fun ρ=>(f ρ).bind listP):=by
 intro H ρ s Q E hs hp
 subst hx
 refine call1_t hΓ hB (id := "list") (by decide) (by kernel_rfl) hk hd hst hs (he H ρ s _ _ hs (Post.bind hp fun p v s₁ H₁ _ e₁ rr hp₁ => ?_))
 have hs₁:=(hs.ext e₁).stays
 cases p <;> try exact hp₁.elim
 rename_i l
 obtain ⟨c,ws,rfl,hl,hz,hr⟩:=rep_list rr
 obtain ⟨o,ho,hc,n,hd'⟩:=isList_up hs₁ hl
 refine call_list_seq c (.inl rfl) ho hc hd' (fun h' c' hk hg=>?_) (by simp [hr.length]; exact lim_line hz)
 obtain ⟨H',h1,h2,h3,h4⟩:=add_exists (stays_trans hs₁ hk) hg
 have ex:Ext H₁ s₁ H' { s₁ with heap:=h' }:=⟨h1,fun b o' hb _ en=>by rw [h4 b (Nat.ne_of_lt (Heap.lt_size hb))]; exact en,h2,.of_keeps hk,rfl,rfl⟩
 refine hp₁.ok (ex.trans (.refl ex.stays)) ?_
 rw [Rep]
 exact ⟨_,ws,rfl,⟨_,h3,rfl,_,rfl⟩,hz,hr.mono ex.grow⟩
theorem bools_get:∀ {l:List PV} {bs:List Bool} {i:Nat} {p:PV},boolsOf l=some bs→l[i]?=some p→∃ b,p=.bool b∧bs[i]?=some b
 | [],_,_,_,_,e=>by simp at e
 | q::t,bs,i,p,h,e=>by
  cases q <;> simp only [boolsOf,reduceCtorEq] at h
  cases ht:boolsOf t with
  | none=>rw [ht] at h; cases h
  | some ms =>
   rw [ht] at h; cases h
   cases i with
   | zero=>simp at e; exact ⟨_,e.symm,by simp⟩
   | succ i=>simp at e; obtain ⟨b,hb,hb'⟩:=bools_get ht e; exact ⟨b,hb,by simpa using hb'⟩
theorem bools_len:∀ {l:List PV} {bs:List Bool},boolsOf l=some bs→bs.length=l.length
 | [],_,h=>by simp [boolsOf] at h; subst h; rfl
 | q::t,bs,h=>by
  cases q <;> simp only [boolsOf,reduceCtorEq] at h
  cases ht:boolsOf t with
  | none=>rw [ht] at h; cases h
  | some ms=>rw [ht] at h; cases h; simp [bools_len ht]
theorem se_all {d : Nat} (hΓ : Γ.Ok) (hB : B.Ok d) {x : Str} {xp pos : Pos} {e : Expr} {f : List Slot → Res PV} (hx : x = Str.ofString "all") (hk : B.env.kindOf x = some .globalImplicit) (hd : (x == ("__debug__" : Str)) = false) (hst : notStar e = true)
  (he:SE prog w Γ B e f):SE prog w Γ B (.Call (.Name x xp) [e] [] pos) (fun ρ=>(f ρ).bind allP):=by
 intro H ρ s Q E hs hp
 subst hx
 refine call1_b hΓ hB (id := "all") (by decide) (by kernel_rfl) hk hd hst hs (he H ρ s _ _ hs (Post.bind hp fun p v s₁ H₁ _ e₁ rr hp₁ => ?_))
 have hs₁:=(hs.ext e₁).stays
 cases p <;> try exact hp₁.elim
 rename_i l hfl
 simp only [allP,onL] at hp₁
 cases hb:boolsOf l with
 | none=>rw [hb] at hp₁; exact hp₁.elim
 | some bs =>
  rw [hb] at hp₁
  have hlen:=bools_len hb
  refine call_all_walk (iter_of (A:=B.A.in1) hB.hand hs₁ rr rfl fun s' Sx ex hH hn hI hS=>?_)
  obtain ⟨fp,P,W,h1,h2,h3⟩:=hI
  refine ⟨_,fp,[s₁.heap.objs.size],l.length,fun i v=>i<l.length∧P i v,Sx,fun i=>bs.getD i false,rfl,⟨W.sub,W.frame,fun i s Q E hi st hQ=>W.item i s Q E hi st fun v h' tk hp=>hQ v h' tk ⟨hi,hp⟩,W.done,W.self⟩,hS,?_,fun h' tk hk'=>?_⟩
  ·rintro i v s Q E ⟨hi,hPv⟩ hq
   obtain ⟨p,hp,hr⟩:=h2 i v hi hPv
   obtain ⟨b,rfl,hbi⟩:=bools_get hb hp
   rw [rep_bool hr]
   refine wpAny_truthy_bool ?_
   simpa [List.getD_eq_getElem?_getD,hbi] using hq
  ·have e2:((List.range l.length).all fun i=>bs.getD i false)=bs.all id:=by
    rw [← hlen,Bool.eq_iff_iff]
    simp only [List.all_eq_true,List.mem_range,id]
    constructor
    ·intro h x hx
     obtain ⟨n,hn,rfl⟩:=List.getElem_of_mem hx
     simpa [List.getD_eq_getElem?_getD,hn] using h n hn
    ·intro h i hi
     simpa [List.getD_eq_getElem?_getD,hi] using h _ (List.getElem_mem hi)
   rw [e2]
   have kp:∀ b o,H₁.get? b=some o→h'.get? b=some o:=fun b o e=>hk' b o (by intro hm; simp at hm; rw [hm,hH] at e; cases e) (ex.stays b o e)
   have up:s₁.heap.UpToSlots h':=fun b o e hne=>by
    obtain ⟨sl,q⟩:=ex.ups b o e hne
    exact ⟨sl,hk' b _ (by intro hm; simp at hm; rw [hm,hn] at e; cases e) q⟩
   exact hp₁.ok (v:=.bool (bs.all id)) (s':={ s' with heap:=h',toks:=tk }) ⟨stays_refl _,fun _ _ _ _ e=>e,kp,up,ex.same⟩ (repBool _ _)
theorem se_typeIs {d : Nat} (hΓ : Γ.Ok) (hB : B.Ok d) {x y : Str} {xp yp cp pos : Pos} {e : Expr} {t : Ty} {f : List Slot → Res PV} (hx : x = Str.ofString "type") (hk : B.env.kindOf x = some .globalImplicit) (hd : (x == ("__debug__" : Str)) = false)
  (hst : notStar e = true) (he : SE prog w Γ B e f) (hy : y = Str.ofString (tyName t)) (hky : B.env.kindOf y = some .globalImplicit) (hdy : (y == ("__debug__" : Str)) = false) :
  SE prog w Γ B (.Compare (.Call (.Name x xp) [e] [] cp) [.Is] [.Name y yp] pos) (fun ρ=>(f ρ).bind fun x=>.ok (.bool (isP x t))):=by
 intro H ρ s Q E hs hp
 subst hx
 refine wpAny_Compare1 ?_ rfl
 refine call1_t hΓ hB (id := "type") (by decide) (by kernel_rfl) hk hd hst hs (he H ρ s _ _ hs (Post.bind hp fun p v s₁ H₁ _ e₁ rr hp₁ => ?_))
 have hs₁:=hs.ext e₁
 refine call_type_of (typeIs_of hs₁.stays rr) (by cases p <;> (simp only [tyOf]; decide)) ?_
 refine ty_name hΓ hB hy hky hdy hs₁ ?_
 refine wpAny_is_plain rfl (hp₁.ok (.refl hs₁.stays) ?_)
 have:isP p t=(Value.type (tyOf p) == Value.type (tyName t)):=by cases p <;> cases t <;> kernel_rfl
 rw [this]; exact repBool _ _
theorem se_neg {i:Int} {k:Nat} {p pos:Pos} {n:Nat} (h:i=(n:Int)):SE prog w Γ B (.UnaryOp .USub (.Constant (.int i) k p) pos) (fun _=>.ok (.int (-(n:Int)))):=by
 intro H ρ s Q E hs hp
 subst h
 refine wpAny_UnaryOp ?_
 rw [eval_Constant]
 have key:wpAny (model prog w) B.A (unaryOp .USub (.int n s.toks)) Q E { s with toks:=s.toks+1 }:=P.neg_int (hp.ok (.refl hs.stays) (repInt _ _ _))
 exact fun _ _ _=>key
theorem se_strFlt {a:Str} {b:UInt64} {k k' n:Nat} {p p' pos:Pos}:SE prog w Γ B (.Tuple [.Constant (.str a) k p,.Constant (.float b) k' p'] n pos) (fun _=>.ok (.tuple [.str a.cps.toList,.flt b])):=by
 intro H ρ s Q E hs hp
 refine Tuple_ ?_
 rw [starEach_cons rfl,starEach_cons rfl]
 show wpAny _ _ (spliced [(false,eval (.Constant (.str a) k p) B.env),(false,eval (.Constant (.float b) k' p') B.env)]) _ _ _
 have key:wpAny (model prog w) B.A (newTuple [.str a s.toks,.float b (s.toks+1)]) Q E { s with toks:=s.toks+1+1 }:=by
  refine tup_new (l:=[.str a.cps.toList,.flt b]) hs.stays ?_ (show 2≤lim by decide) (hp.ext (.refl hs.stays))
  rw [RepL]
  refine ⟨_,_,rfl,by rw [Rep]; exact ⟨a,_,rfl,rfl⟩,?_⟩
  exact RepL.one (by rw [Rep]; exact ⟨_,rfl,Nat.succ_ne_zero _⟩)
 have k2:wpAny (model prog w) B.A (eval (.Constant (.float b) k' p') B.env) (fun v s₁=>wpAny (model prog w) B.A (newTuple [.str a s.toks,v]) Q E s₁) E { s with toks:=s.toks+1 }:=by
  rw [eval_Constant]
  exact fun _ _ _=>key
 have k1:wpAny (model prog w) B.A (eval (.Constant (.str a) k p) B.env) (fun v₁ s₁=>wpAny (model prog w) B.A (eval (.Constant (.float b) k' p') B.env) (fun v s₂=>wpAny (model prog w) B.A (newTuple [v₁,v]) Q E s₂) E s₁) E s:=by
  rw [eval_Constant]
  exact fun _ _ _=>k2
 exact Calls.spliced_cons (wpAny_mono k1 (fun v s₁ h₁=>Calls.spliced_cons (wpAny_mono h₁ (fun v' s₂ h₂=>Calls.spliced_nil h₂) fun _ _ z=>z)) fun _ _ z=>z)
end
end Mine
namespace Mine
open PySem PySem.W PySem.SeqAt PyProof.Rows
open AutoSeq1 (wpAny_loadPart')
inductive BsAre:List Value→List (Array UInt8)→Prop
 | nil:BsAre [] []
 | cons (b:Array UInt8) (t:Tok) {vs bs}:BsAre vs bs→BsAre (.bytes b t::vs) (b::bs)
theorem take_eq {id:String} {b:Array UInt8} {t:Tok}:Builtin.Bytes.takeBufferQuiet? id (.bytes b t) 0=pure (some (b,none)):=by
 unfold Builtin.Bytes.takeBufferQuiet? Builtin.Bytes.takeBuffer?
 have e:((0:Int) == Builtin.Bytes.fullReadOnly)=false:=by decide +kernel
 rw [KBy.special_eq KBy.look_buffer,KBy.own_buffer,e,KBy.buffer_eq]
 kernel_rfl
theorem BsAre.get:∀ {vs:List Value} {bs:List (Array UInt8)} {i:Nat} {b:Array UInt8},BsAre vs bs→bs[i]?=some b→∃ t,vs[i]?=some (.bytes b t)
 | _,_,_,_,.nil,e=>by simp at e
 | _,_,0,_,.cons b t h,e=>by simp at e; subst e; exact ⟨t,by simp⟩
 | _,_,i+1,_,.cons b t h,e=>by simp at e; obtain ⟨u,hu⟩:=h.get e; exact ⟨u,by simpa using hu⟩
theorem BsAre.length:∀ {vs:List Value} {bs:List (Array UInt8)},BsAre vs bs→bs.length=vs.length
 | _,_,.nil=>rfl
 | _,_,.cons b t h=>by simp [h.length]
theorem letGo_none {M:Model} {A:Around} {E:Value→Shared→Prop} {s:Shared} {keep:List Value} {Q:Unit→Shared→Prop}:∀ {taken:List (Value × Option Value)},(∀ q∈taken,q.2=none)→Q () s→wpAny M A (Builtin.Bytes.joinLetGo taken keep) Q E s
 | [],_,h=>wpAny_pure h
 | (x,w)::r,hn,h=>by
  have hw:w=none:=hn (x,w) (by simp)
  subst hw
  unfold Builtin.Bytes.joinLetGo
  exact wpAny_bind (wpAny_letGo (letGo_none (fun q hq=>hn q (by simp [hq])) h))
theorem join_meets (sep:Array UInt8) (t:Tok) (l:Addr) (items:Array Value) (n:Nat) (dd:Option Addr) (sl:Array (Option Value)) (bs:List (Array UInt8)) (hb:BsAre items.toList bs)
  (hz:bs.foldl (fun x y=>x+y.size) (sep.size * (bs.length - 1))≤16777216) (hz2:(Builtin.Bytes.joined sep bs).size≤sizeLine) (hz1:bs.length=1→∀ b∈bs,Builtin.Bytes.joined sep bs=b) :
  Meets (Builtin.«bytes.join» ⟨[.bytes sep t,.ref l],[]⟩) (fun _ R s => s.heap.get? l = some { cls := .type "list",dict := dd,data := .seq items n,slots := sl } ∧
   ∀ t' k,R (.ok (.ret (.bytes (Builtin.Bytes.joined sep bs) t'))) { s with toks:=k }):=by
 refine .of_wp fun prog w A R s h=>?_
 obtain ⟨hl,h⟩:=h
 have hT : s.TypeIs (.ref l) "list" := ⟨_,hl,rfl⟩
 unfold Builtin.«bytes.join» Builtin.Bytes.joinM
 wp_walk using wpAny_loadPart' hl
 have hfin:∀ {b:Array (Array UInt8) × List (Value × Option Value)} {Q:PySem.Fin→Shared→Prop},b.1=bs.toArray→(∀ q∈b.2,q.2=none)→(∀ tk k,Q (.done (.ret (.bytes (Builtin.Bytes.joined sep bs) tk))) { s with toks:=k }) →
   wpAny (model prog w) A.in1 (do
    let sep ← Builtin.Bytes.payload (Value.bytes sep t)
    if Builtin.Bytes.tooLong (Array.foldl (fun x1 x2=>x1+x2.size) (sep.size * (b.1.size - 1)) b.1)=true then
     (unsupported (toString (toString Builtin.Bytes.Kind.bytes.name ++ toString ".join") ++ toString ":memory") : Sem PUnit)
    let result ← Builtin.Bytes.Kind.bytes.new (Builtin.Bytes.joined sep b.1.toList)
    holding (result::b.2.flatMap fun (y,u)=>y::u.toList) point
    Builtin.Bytes.joinLetGo b.2 [result]
    ret result) Q (fun e s'=>R (.error e) s') s:=by
  rintro ⟨b1,b2⟩ Q hb1 hb2 hq
  simp only at hb1 hb2
  subst hb1
  refine wpAny_bind (wpAny_of_eq (a:=sep) rfl ?_)
  have h1:Builtin.Bytes.tooLong (Array.foldl (fun x1 x2=>x1+x2.size) (sep.size * (bs.toArray.size - 1)) bs.toArray)=false:=by
   refine KBy.tooLong_not ?_
   simpa using hz
  simp only [h1,Bool.false_eq_true,if_false]
  refine wpAny_bind ?_
  show wpAny _ _ (mkBytes (Builtin.Bytes.joined sep bs)) _ _ _
  refine wpAny_mkBytes ?_ hz2
  refine wpAny_bind (wpAny_holding (wpAny_point ?_))
  refine wpAny_bind (letGo_none hb2 ?_)
  exact wpAny_pure (hq _ _)
 obtain ⟨vs⟩:=items
 have hlen:=hb.length
 match vs,hb,hl,hlen with
 | [],hb,hl,hlen =>
  cases hb
  show wpAny _ _ (forIn _ _ _ >>= _) _ _ _
  refine wpAny_bind ?_
  rw [Std.Legacy.Range.forIn_eq_forIn_range']
  show wpAny _ _ (forIn [] _ _) _ _ _
  rw [List.forIn_nil]
  refine wpAny_pure ?_
  exact hfin rfl (by simp) fun tk k=>⟨_,rfl,h tk k⟩
 | [x],hb,hl,hlen =>
  cases hb with
  | cons b u hb' =>
   cases hb'
   show wpAny _ _ (typeOf _ >>= _) _ _ _
   wp_walk using wpAny_loadPart' hl
   refine ⟨.bytes b u,rfl,?_⟩
   have e:=hz1 rfl b (by simp)
   have:=h u s.toks
   rw [e] at this
   exact this
 | x::y::r,hb,hl,hlen =>
  show wpAny _ _ (forIn _ _ _ >>= _) _ _ _
  refine wpAny_bind ?_
  rw [Std.Legacy.Range.forIn_eq_forIn_range']
  simp only [Std.Legacy.Range.size,Nat.sub_zero,Nat.add_sub_cancel,Nat.div_one]
  have hsz:(Array.mk (x::y::r)).size=bs.length:=by rw [hlen]; rfl
  refine wpAny_forIn_list _ (fun rest b s'=>∃ i,s'=s∧rest=List.range' i (bs.length - i)∧i≤bs.length∧b.1=(bs.take i).toArray∧(∀ q∈b.2,q.1.onHeap=false∧q.2=none)) _ ?_ ?_ _ _ ⟨0,rfl,by rw [hsz]; simp,by lia,by simp,by simp⟩
  ·rintro j rest ⟨b1,b2⟩ s' hI
   refine nc fun hG=>?_
   obtain ⟨i,es,hr,hi,hb1,hb2⟩:=hI
   simp only at hb1 hb2
   have hlt:i<bs.length:=by
    rcases Nat.lt_or_ge i bs.length with h | h
    ·exact h
    ·rw [Nat.sub_eq_zero_of_le h] at hr; simp at hr
   obtain ⟨ej,hrest⟩:j=i∧rest=List.range' (i+1) (bs.length - (i+1)):=by
    have e:bs.length - i=(bs.length - (i+1))+1:=by lia
    rw [e,List.range'_succ] at hr
    injection hr with h1 h2
    exact ⟨h1,h2⟩
   obtain ⟨u,hu⟩:=hb.get (List.getElem?_eq_getElem hlt)
   have hgd:(Array.mk (x::y::r)).getD j Value.none=.bytes bs[i] u:=by
    have:(Array.mk (x::y::r))[j]?=some (.bytes bs[i] u):=by rw [ej]; simpa using hu
    rw [Array.getD_eq_getD_getElem?,this]; rfl
   have hany:(Builtin.Bytes.Kind.bytes == Builtin.Bytes.Kind.bytearray || b2.any fun x=>x.fst.onHeap)=false:=by
    have:(b2.any fun x=>x.fst.onHeap)=false:=by
     rw [List.any_eq_false]; intro q hq; simp [(hb2 q hq).1]
    rw [this]; decide
   refine hG ?_
   clear hG
   subst es
   refine wpAny_bind ?_
   show wpAny _ _ (load l >>= _) _ _ _
   refine wpAny_bind (wpAny_load hl (wpAny_pure ?_))
   simp only [hany,hgd,Bool.false_eq_true,if_false]
   refine wpAny_bind (wpAny_holding (wpAny_of_eq take_eq ?_))
   simp only
   refine wpAny_bind ?_
   show wpAny _ _ (load l >>= _) _ _ _
   refine wpAny_bind (wpAny_load hl (wpAny_pure ?_))
   simp only [bne_self_eq_false,Bool.false_eq_true,if_false]
   refine wpAny_pure ⟨i+1,rfl,hrest,by lia,?_,?_⟩
   ·simp only [hb1]
    rw [List.take_add_one,List.getElem?_eq_getElem hlt]; simp
   ·intro q hq
    simp only [List.mem_append,List.mem_singleton] at hq
    rcases hq with hq | rfl
    ·exact hb2 q hq
    ·exact ⟨rfl,rfl⟩
  ·rintro ⟨b1,b2⟩ s' ⟨i,rfl,hr,hi,hb1,hb2⟩
   simp only at hb1 hb2
   have:i=bs.length:=by
    rcases Nat.lt_or_ge i bs.length with h | h
    ·have e:bs.length - i=(bs.length - (i+1))+1:=by lia
     rw [e,List.range'_succ] at hr; cases hr
    ·lia
   subst this
   exact hfin (by simpa using hb1) (fun q hq=>(hb2 q hq).2) fun tk k=>⟨_,rfl,h tk k⟩
theorem joined_go (sep:List UInt8):∀ (ps:List (Array UInt8)) (k:Nat) (out:Array UInt8),0<k→((ps.zipIdx k).foldl (fun out (x:Array UInt8 × Nat)=>(if x.2 > 0 then out++sep.toArray else out)++x.1) out).toList=out.toList++(ps.map fun b=>sep++b.toList).flatten
 | [],k,out,_=>by simp
 | p::r,k,out,hk=>by
  simp only [List.zipIdx_cons,List.foldl_cons]
  rw [joined_go sep r (k+1) _ (by lia)]
  simp [hk]
theorem glue_cons (s a:List Int) (r:List (List Int)):glue s (a::r)=a++(r.map fun b=>s++b).flatten:=by
 induction r generalizing a with
 | nil=>simp [glue]
 | cons b r ih=>rw [glue,ih]; simp
theorem joined_glue (sep:Array UInt8) (bs:List (Array UInt8)):bInt (Builtin.Bytes.joined sep bs)=glue (bInt sep) (bs.map bInt):=by
 obtain ⟨sp⟩:=sep
 cases bs with
 | nil=>rfl
 | cons b r =>
  rw [List.map_cons,glue_cons]
  unfold Builtin.Bytes.joined bInt
  have:=joined_go sp r 1 b (by lia)
  simp only [List.zipIdx_cons,List.foldl_cons,Nat.zero_add]
  have e0:((if (0:Nat) > 0 then (#[]:Array UInt8)++(Array.mk sp) else #[])++b)=b:=by simp
  have e1:(Array.mk sp)=sp.toArray:=rfl
  rw [e1] at e0 ⊢
  rw [e0,this]
  simp [List.map_flatten,Function.comp_def]
theorem glue_len (s:List Int):∀ (cs:List (List Int)) (k:Nat),k+(glue s cs).length=cs.foldl (fun x y=>x+y.length) (k+s.length * (cs.length - 1))
 | [],k=>by simp [glue]
 | [a],k=>by simp [glue]
 | a::b::r,k=>by
  have ih:=glue_len s (b::r) (k+a.length+s.length)
  rw [glue]
  simp only [List.length_append,List.foldl_cons,List.length_cons,Nat.add_sub_cancel] at ih ⊢
  have e:k+(a.length+s.length+(glue s (b::r)).length)=k+a.length+s.length+(glue s (b::r)).length:=by lia
  rw [e,ih]
  congr 1
  rw [Nat.mul_add,Nat.mul_one]
  lia
theorem slot_join : PySem.Slot "bytes" "join" "bytes.join" :=
 .of (owner := "bytes") (n := "join") (by rw [typeLookup_type,builtinLookup_eq_fast]; kernel_rfl) (by decide +kernel) (by decide +kernel) (by decide +kernel)
  (by first | exact .inl (by decide +kernel) | exact .inr (by decide +kernel)) (by rw [isSubtype_type]; kernel_rfl)
theorem type_join : typeOf (.builtin "bytes.join") = pure (.type "method_descriptor") := by show builtinType _ = _; rw [builtinType_eq_fast]; kernel_rfl
theorem entry_join : entryFor table "bytes.join" = some Builtin.«bytes.join» := entryFor_of_tree (by kernel_rfl)
theorem args_join (a b : Value) : argsOk "bytes.join" ⟨[a,b],[]⟩ := by
 unfold argsOk; rw [signature?_of (id := "bytes.join") (n := ['n','i','o','j']) (o := ['s','e','t','y','b']) (by kernel_rfl) FB.owner_bytes]; kernel_rfl
theorem bs_are {H:Heap}:∀ {l:List PV} {cs:List (List Int)} {ws:List Value},chunksOf l=some cs→RepL H l ws→∃ bs,BsAre ws bs∧bs.map bInt=cs
 | [],cs,ws,h,r=>by
  rw [RepL] at r; subst r; simp [chunksOf] at h; subst h; exact ⟨[],.nil,rfl⟩
 | p::t,cs,ws,h,r=>by
  rw [RepL] at r
  obtain ⟨v,u,rfl,rp,rt⟩:=r
  cases p <;> simp only [chunksOf,reduceCtorEq] at h
  rename_i i
  cases ht:chunksOf t with
  | none=>rw [ht] at h; cases h
  | some ms =>
   rw [ht] at h; cases h
   obtain ⟨b,tk,rfl,e,_⟩:=rep_bytes rp
   obtain ⟨bs,h1,h2⟩:=bs_are ht rt
   exact ⟨b::bs,.cons b tk h1,by rw [List.map_cons,e,h2]⟩
section
variable {prog:Program} {w:World} {Γ:Ct} {B:Bl}
theorem foldl_bInt:∀ (bs:List (Array UInt8)) (k:Nat),bs.foldl (fun x y=>x+y.size) k=(bs.map bInt).foldl (fun x y=>x+y.length) k
 | [],_=>rfl
 | b::r,k=>by simp only [List.foldl_cons,List.map_cons]; rw [foldl_bInt r,bInt_length]
theorem join_of {H:Heap} {s:Shared} {A:Around} {fr:List Env} {sep:Array UInt8} {t:Tok} {x:PV} {a:Value} {Q E:Value→Shared→Prop} (hs:H.StaysIn s.heap) (ra:Rep H x a)
  (hp : Post Rep fr H s (joinP (.bytes (bInt sep)) x) Q E) : wpAny (model prog w) A (call (.builtin "bytes.join") [.bytes sep t,a]) Q E s := by
 cases x <;> try exact hp.elim
 rename_i l
 simp only [joinP] at hp
 cases hc:chunksOf l with
 | none=>rw [hc] at hp; exact hp.elim
 | some cs =>
  rw [hc] at hp
  simp only at hp
  split at hp
  ·rename_i hz
   obtain ⟨c,ws,rfl,hl,_,hr⟩:=rep_list ra
   obtain ⟨bs,hb,hm⟩:=bs_are hc hr
   obtain ⟨⟨cls,dd,data,sl⟩,ho,hcl,n,hd⟩:=isList_up hs hl
   simp only at hcl hd
   subst hcl hd
   have hj:=joined_glue sep bs
   rw [hm] at hj
   have hsz:(Builtin.Bytes.joined sep bs).size=(glue (bInt sep) cs).length:=by rw [← hj,bInt_length]
   refine call_meets slot_join (typeIs_bytes _ _ _) entry_join (args_join _ _) (join_meets sep t c ws.toArray n dd sl bs hb ?_ (by rw [hsz]; exact lim_line hz.2) ?_) ⟨ho,fun t' k=>hp.ok (.refl hs) (repBytes _ _ hj hz.2)⟩
   ·have:=glue_len (bInt sep) cs 0
    rw [foldl_bInt,hm,show sep.size=(bInt sep).length by rw [bInt_length],show bs.length=cs.length by rw [← hm]; simp]
    simp only [Nat.zero_add] at this
    rw [← this]
    exact Nat.le_trans hz.2 (by decide)
   ·intro h1 b hbm
    match bs,h1,hbm with
    | [b'],_,hbm =>
     simp at hbm; subst hbm
     unfold Builtin.Bytes.joined
     simp
  ·exact hp.elim
theorem se_join {d : Nat} (hB : B.Ok d) {b : List UInt8} {k : Nat} {cp apos pos : Pos} {m : Str} {e : Expr} {l : List Int} {f : List Slot → Res PV} (hm : m = Str.ofString "join") (hl : litOk (.bytes b) (.bytes l) = true) (hst : notStar e = true)
  (hline:(apos.endLine == pos.line)=true) (he:SE prog w Γ B e f) :
  SE prog w Γ B (.Call (.Attribute (.Constant (.bytes b) k cp) m apos) [e] [] pos) (fun ρ=>(Res.ok (PV.bytes l)).bind fun x=>(f ρ).bind fun y=>joinP x y):=by
 intro H ρ s Q E hs hp
 subst hm
 have hbl:bInt b.toArray=l:=eq_of_beq (show (b.map (fun c=>(c.toNat:Int)) == l)=true from hl)
 have hseq:starEach [e] B.env=[(false,eval e B.env)]:=by rw [starEach_cons hst]; rfl
 refine Call_method1 rfl hseq hline ?_
 have key : MethodOnS prog w B.A E "join" (.bytes b.toArray s.toks) pos [(false,eval e B.env)] Q { s with toks := s.toks + 1 } := by
  refine ⟨"bytes","bytes.join",FB.plainAttrs_bytes,slot_join,type_join,typeIs_bytes _ _ _,(fun _ e => nomatch e),?_⟩
  refine Calls.callWith_builtin rfl (Calls.evalArgs_plain (Calls.spliced_cons (he H ρ { s with toks:=s.toks+1 } _ _ (hs.ext (s':={ s with toks:=s.toks+1 }) (.refl hs.stays)) (Post.bind (Post.ext (s':={ s with toks:=s.toks+1 }) hp (.refl hs.stays)) fun p v s₁ H₁ _ e₁ rr hp₁=>Calls.spliced_nil ?_))))
  rw [← hbl] at hp₁
  exact join_of e₁.stays rr hp₁
 rw [eval_Constant]
 exact fun _ _ _=>key
end
end Mine
namespace Mine
open PySem
theorem inv_lit {N:Nm} {e:PySem.Expr} {v:PV} {P:PySem.Expr→Prop} (h:chkE N e (.lit v)=true) (K:∀ c k p,litOk c v=true→shortLit v=true→P (.Constant c k p)):P e :=
 onConstant_k (P:=fun e=>P e) (show onConstant e _=true from h) fun c k p h=>K c k p (aL h) (aR h)
theorem inv_neg {N:Nm} {e:PySem.Expr} {n:Nat} {P:PySem.Expr→Prop} (h:chkE N e (.neg n)=true) (K:∀ i k p q,(i == (n:Int))=true→P (.UnaryOp .USub (.Constant (.int i) k p) q)):P e :=
 onUnaryOp_k (P:=fun e=>P e) (show onUnaryOp e _=true from h) fun z1 z2 q h=>onUSub_k (P:=fun z1=>P (.UnaryOp z1 z2 q)) h fun h=>onConstant_k (P:=fun z2=>P (.UnaryOp .USub z2 q)) h fun z3 k p h=>onint_k (P:=fun z3=>P (.UnaryOp .USub (.Constant z3 k p) q)) h fun i h=>K i k p q h
theorem inv_var {N:Nm} {e:PySem.Expr} {i:Nat} {P:PySem.Expr→Prop} (h:chkE N e (.var i)=true) (K:∀ x p,N.isVar x i=true→P (.Name x p)):P e :=
 onName_k (P:=fun e=>P e) (show onName e _=true from h) fun x p h=>K x p h
theorem inv_glob {N:Nm} {e:PySem.Expr} {i:Nat} {P:PySem.Expr→Prop} (h:chkE N e (.glob i)=true) (K:∀ x p,(N.gs[i]? == some x)=true→N.isGlob x=true→P (.Name x p)):P e :=
 onName_k (P:=fun e=>P e) (show onName e _=true from h) fun x p h=>K x p (aL h) (aR h)
theorem inv_strFlt {N:Nm} {e:PySem.Expr} {s:List Nat} {x:UInt64} {P:PySem.Expr→Prop} (h:chkE N e (.strFlt s x)=true) (K:∀ a k p b k2 p2 k3 p3,(a.cps.toList == s)=true→(b == x)=true→P (.Tuple [.Constant (.str a) k p,.Constant (.float b) k2 p2] k3 p3)):P e :=
 onTuple_k (P:=fun e=>P e) (show onTuple e _=true from h) fun z4 k3 p3 h=>onL2_k (P:=fun z4=>P (.Tuple z4 k3 p3)) h fun z5 z6 h=>onConstant_k (P:=fun z5=>P (.Tuple [z5,z6] k3 p3)) h fun z7 k p h=>onstr_k (P:=fun z7=>P (.Tuple [(.Constant z7 k p),z6] k3 p3)) h fun a h=>onConstant_k (P:=fun z6=>P (.Tuple [(.Constant (.str a) k p),z6] k3 p3)) h fun z8 k2 p2 h=>onfloat_k (P:=fun z8=>P (.Tuple [(.Constant (.str a) k p),(.Constant z8 k2 p2)] k3 p3)) h fun b h=>K a k p b k2 p2 k3 p3 (aL h) (aR h)
theorem inv_tup {N:Nm} {e:PySem.Expr} {l:List CE} {P:PySem.Expr→Prop} (h:chkE N e (.tup l)=true) (K:∀ es k p,chkEs N es l=true→P (.Tuple es k p)):P e :=
 onTuple_k (P:=fun e=>P e) (show onTuple e _=true from h) fun es k p h=>K es k p h
theorem inv_lst {N:Nm} {e:PySem.Expr} {l:List CE} {P:PySem.Expr→Prop} (h:chkE N e (.lst l)=true) (K:∀ es p,chkEs N es l=true→P (.List es p)):P e :=
 onList_k (P:=fun e=>P e) (show onList e _=true from h) fun es p h=>K es p h
theorem inv_bin {N:Nm} {e:PySem.Expr} {o:BOp} {a b:CE} {P:PySem.Expr→Prop} (h:chkE N e (.bin o a b)=true) (K:∀ l op r p,bopOk op o=true→chkE N l a=true→chkE N r b=true→P (.BinOp l op r p)):P e :=
 onBinOp_k (P:=fun e=>P e) (show onBinOp e _=true from h) fun l op r p h=>K l op r p (aL (aL h)) (aR (aL h)) (aR h)
theorem inv_cmp {N:Nm} {e:PySem.Expr} {o:COp} {a b:CE} {P:PySem.Expr→Prop} (h:chkE N e (.cmp o a b)=true) (K:∀ l op r p,copOk op o=true→chkE N l a=true→chkE N r b=true→(!behindInMarks op r)=true→P (.Compare l [op] [r] p)):P e :=
 onCompare_k (P:=fun e=>P e) (show onCompare e _=true from h) fun l z9 z10 p h=>onL1_k (P:=fun z9=>P (.Compare l z9 z10 p)) h fun op h=>onL1_k (P:=fun z10=>P (.Compare l [op] z10 p)) h fun r h=>K l op r p (aL (aL (aL h))) (aR (aL (aL h))) (aR (aL h)) (aR h)
theorem inv_cmp2 {N:Nm} {e:PySem.Expr} {o p:COp} {a b c:CE} {P:PySem.Expr→Prop} (h:chkE N e (.cmp2 o p a b c)=true) (K:∀ l op oq r q ps,copOk op o=true→copOk oq p=true→chkE N l a=true→chkE N r b=true→chkE N q c=true→(!behindInMarks oq q)=true→P (.Compare l [op,oq] [r,q] ps)):P e :=
 onCompare_k (P:=fun e=>P e) (show onCompare e _=true from h) fun l z11 z12 ps h=>onL2_k (P:=fun z11=>P (.Compare l z11 z12 ps)) h fun op oq h=>onL2_k (P:=fun z12=>P (.Compare l [op,oq] z12 ps)) h fun r q h=>K l op oq r q ps (aL (aL (aL (aL (aL h))))) (aR (aL (aL (aL (aL h))))) (aR (aL (aL (aL h)))) (aR (aL (aL h))) (aR (aL h)) (aR h)
theorem inv_and {N:Nm} {e:PySem.Expr} {l:List CE} {P:PySem.Expr→Prop} (h:chkE N e (.and_ l)=true) (K:∀ es p,chkEs N es l=true→P (.BoolOp .And es p)):P e :=
 onBoolOp_k (P:=fun e=>P e) (show onBoolOp e _=true from h) fun z13 es p h=>onAnd_k (P:=fun z13=>P (.BoolOp z13 es p)) h fun h=>K es p h
theorem inv_or {N:Nm} {e:PySem.Expr} {l:List CE} {P:PySem.Expr→Prop} (h:chkE N e (.or_ l)=true) (K:∀ es p,chkEs N es l=true→P (.BoolOp .Or es p)):P e :=
 onBoolOp_k (P:=fun e=>P e) (show onBoolOp e _=true from h) fun z14 es p h=>onOr_k (P:=fun z14=>P (.BoolOp z14 es p)) h fun h=>K es p h
theorem inv_not {N:Nm} {e:PySem.Expr} {a:CE} {P:PySem.Expr→Prop} (h:chkE N e (.not_ a)=true) (K:∀ x p,chkE N x a=true→P (.UnaryOp .Not x p)):P e :=
 onUnaryOp_k (P:=fun e=>P e) (show onUnaryOp e _=true from h) fun z15 x p h=>onNot_k (P:=fun z15=>P (.UnaryOp z15 x p)) h fun h=>K x p h
theorem inv_ite {N:Nm} {e:PySem.Expr} {c x y:CE} {P:PySem.Expr→Prop} (h:chkE N e (.ite c x y)=true) (K:∀ t b o p,chkE N t c=true→chkE N b x=true→chkE N o y=true→P (.IfExp t b o p)):P e :=
 onIfExp_k (P:=fun e=>P e) (show onIfExp e _=true from h) fun t b o p h=>K t b o p (aL (aL h)) (aR (aL h)) (aR h)
theorem inv_slc {N:Nm} {e:PySem.Expr} {a:CE} {l u:Option CE} {P:PySem.Expr→Prop} (h:chkE N e (.slc a l u)=true) (K:∀ v lo hi p q,chkE N v a=true→chkO N lo l=true→chkO N hi u=true→P (.Subscript v (.Slice lo hi none p) q)):P e :=
 onSubscript_k (P:=fun e=>P e) (show onSubscript e _=true from h) fun v z16 q h=>onSlice_k (P:=fun z16=>P (.Subscript v z16 q)) h fun lo hi z17 p h=>onNone_k (P:=fun z17=>P (.Subscript v (.Slice lo hi z17 p) q)) h fun h=>K v lo hi p q (aL (aL h)) (aR (aL h)) (aR h)
theorem inv_idx {N:Nm} {e:PySem.Expr} {a j:CE} {P:PySem.Expr→Prop} (h:chkE N e (.idx a j)=true) (K:∀ v i p,chkE N v a=true→chkE N i j=true→notSlice i=true→P (.Subscript v i p)):P e :=
 onSubscript_k (P:=fun e=>P e) (show onSubscript e _=true from h) fun v i p h=>K v i p (aL (aL h)) (aR (aL h)) (aR h)
theorem inv_len {N : Nm} {e : PySem.Expr} {a : CE} {P : PySem.Expr → Prop} (h : chkE N e (.len a) = true) (K : ∀ x xp e1 p,N.isWord x "len" = true → chkE N e1 a = true → notStar e1 = true → P (.Call (.Name x xp) [e1] [] p)) : P e :=
 onCall_k (P:=fun e=>P e) (show onCall e _=true from h) fun z18 z19 z20 p h=>onName_k (P:=fun z18=>P (.Call z18 z19 z20 p)) h fun x xp h=>onL1_k (P:=fun z19=>P (.Call (.Name x xp) z19 z20 p)) h fun e1 h=>onL0_k (P:=fun z20=>P (.Call (.Name x xp) [e1] z20 p)) h fun h=>K x xp e1 p (aL (aL h)) (aR (aL h)) (aR h)
theorem inv_isin {N : Nm} {e : PySem.Expr} {a : CE} {l : List Ty} {P : PySem.Expr → Prop} (h : chkE N e (.isin a l) = true) (K : ∀ x xp e1 ts k p q,N.isWord x "isinstance" = true → chkE N e1 a = true → chkTs N ts l = true → decide (l.length ≤ 1048576) = true → notStar e1 = true → P (.Call (.Name x xp) [e1,.Tuple ts k p] [] q)) : P e :=
 onCall_k (P:=fun e=>P e) (show onCall e _=true from h) fun z21 z22 z23 q h=>onName_k (P:=fun z21=>P (.Call z21 z22 z23 q)) h fun x xp h=>onL2_k (P:=fun z22=>P (.Call (.Name x xp) z22 z23 q)) h fun e1 z24 h=>onTuple_k (P:=fun z24=>P (.Call (.Name x xp) [e1,z24] z23 q)) h fun ts k p h=>onL0_k (P:=fun z23=>P (.Call (.Name x xp) [e1,(.Tuple ts k p)] z23 q)) h fun h=>K x xp e1 ts k p q (aL (aL (aL (aL h)))) (aR (aL (aL (aL h)))) (aR (aL (aL h))) (aR (aL h)) (aR h)
theorem inv_isin1 {N : Nm} {e : PySem.Expr} {a : CE} {t : Ty} {P : PySem.Expr → Prop} (h : chkE N e (.isin1 a t) = true) (K : ∀ x xp e1 y p q,N.isWord x "isinstance" = true → chkE N e1 a = true → N.isWord y (tyName t) = true → notStar e1 = true → P (.Call (.Name x xp) [e1,.Name y p] [] q)) : P e :=
 onCall_k (P:=fun e=>P e) (show onCall e _=true from h) fun z25 z26 z27 q h=>onName_k (P:=fun z25=>P (.Call z25 z26 z27 q)) h fun x xp h=>onL2_k (P:=fun z26=>P (.Call (.Name x xp) z26 z27 q)) h fun e1 z28 h=>onName_k (P:=fun z28=>P (.Call (.Name x xp) [e1,z28] z27 q)) h fun y p h=>onL0_k (P:=fun z27=>P (.Call (.Name x xp) [e1,(.Name y p)] z27 q)) h fun h=>K x xp e1 y p q (aL (aL (aL h))) (aR (aL (aL h))) (aR (aL h)) (aR h)
theorem inv_mkBytes {N : Nm} {e : PySem.Expr} {a : CE} {P : PySem.Expr → Prop} (h : chkE N e (.mkBytes a) = true) (K : ∀ x xp e1 p,N.isWord x "bytes" = true → chkE N e1 a = true → notStar e1 = true → P (.Call (.Name x xp) [e1] [] p)) : P e :=
 onCall_k (P:=fun e=>P e) (show onCall e _=true from h) fun z29 z30 z31 p h=>onName_k (P:=fun z29=>P (.Call z29 z30 z31 p)) h fun x xp h=>onL1_k (P:=fun z30=>P (.Call (.Name x xp) z30 z31 p)) h fun e1 h=>onL0_k (P:=fun z31=>P (.Call (.Name x xp) [e1] z31 p)) h fun h=>K x xp e1 p (aL (aL h)) (aR (aL h)) (aR h)
theorem inv_mkList {N : Nm} {e : PySem.Expr} {a : CE} {P : PySem.Expr → Prop} (h : chkE N e (.mkList a) = true) (K : ∀ x xp e1 p,N.isWord x "list" = true → chkE N e1 a = true → notStar e1 = true → P (.Call (.Name x xp) [e1] [] p)) : P e :=
 onCall_k (P:=fun e=>P e) (show onCall e _=true from h) fun z32 z33 z34 p h=>onName_k (P:=fun z32=>P (.Call z32 z33 z34 p)) h fun x xp h=>onL1_k (P:=fun z33=>P (.Call (.Name x xp) z33 z34 p)) h fun e1 h=>onL0_k (P:=fun z34=>P (.Call (.Name x xp) [e1] z34 p)) h fun h=>K x xp e1 p (aL (aL h)) (aR (aL h)) (aR h)
theorem inv_all {N : Nm} {e : PySem.Expr} {a : CE} {P : PySem.Expr → Prop} (h : chkE N e (.all_ a) = true) (K : ∀ x xp e1 p,N.isWord x "all" = true → chkE N e1 a = true → notStar e1 = true → P (.Call (.Name x xp) [e1] [] p)) : P e :=
 onCall_k (P:=fun e=>P e) (show onCall e _=true from h) fun z35 z36 z37 p h=>onName_k (P:=fun z35=>P (.Call z35 z36 z37 p)) h fun x xp h=>onL1_k (P:=fun z36=>P (.Call (.Name x xp) z36 z37 p)) h fun e1 h=>onL0_k (P:=fun z37=>P (.Call (.Name x xp) [e1] z37 p)) h fun h=>K x xp e1 p (aL (aL h)) (aR (aL h)) (aR h)
theorem inv_typeIs {N : Nm} {e : PySem.Expr} {a : CE} {t : Ty} {P : PySem.Expr → Prop} (h : chkE N e (.typeIs a t) = true) (K : ∀ x xp e1 p y q r,N.isWord x "type" = true → chkE N e1 a = true → N.isWord y (tyName t) = true → notStar e1 = true → P (.Compare (.Call (.Name x xp) [e1] [] p) [.Is] [.Name y q] r)) : P e :=
 onCompare_k (P:=fun e=>P e) (show onCompare e _=true from h) fun z32 z33 z34 r h=>onCall_k (P:=fun z32=>P (.Compare z32 z33 z34 r)) h fun z35 z36 z37 p h=>onName_k (P:=fun z35=>P (.Compare (.Call z35 z36 z37 p) z33 z34 r)) h fun x xp h=>onL1_k (P:=fun z36=>P (.Compare (.Call (.Name x xp) z36 z37 p) z33 z34 r)) h fun e1 h=>onL0_k (P:=fun z37=>P (.Compare (.Call (.Name x xp) [e1] z37 p) z33 z34 r)) h fun h=>onL1_k (P:=fun z33=>P (.Compare (.Call (.Name x xp) [e1] [] p) z33 z34 r)) h fun z38 h=>onIs_k (P:=fun z38=>P (.Compare (.Call (.Name x xp) [e1] [] p) [z38] z34 r)) h fun h=>onL1_k (P:=fun z34=>P (.Compare (.Call (.Name x xp) [e1] [] p) [.Is] z34 r)) h fun z39 h=>onName_k (P:=fun z39=>P (.Compare (.Call (.Name x xp) [e1] [] p) [.Is] [z39] r)) h fun y q h=>K x xp e1 p y q r (aL (aL (aL h))) (aR (aL (aL h))) (aR (aL h)) (aR h)
theorem inv_call {N:Nm} {e:PySem.Expr} {f:Nat} {args:List CE} {P:PySem.Expr→Prop} (h:chkE N e (.call f args)=true) (K:∀ x xp es p,(N.fs[f]? == some x)=true→N.isGlob x=true→chkEs N es args=true→(!es.isEmpty)=true→P (.Call (.Name x xp) es [] p)):P e :=
 onCall_k (P:=fun e=>P e) (show onCall e _=true from h) fun z40 es z41 p h=>onName_k (P:=fun z40=>P (.Call z40 es z41 p)) h fun x xp h=>onL0_k (P:=fun z41=>P (.Call (.Name x xp) es z41 p)) h fun h=>K x xp es p (aL (aL (aL h))) (aR (aL (aL h))) (aR (aL h)) (aR h)
theorem inv_join {N : Nm} {e : PySem.Expr} {s a : CE} {P : CE → PySem.Expr → Prop} (h : chkE N e (.join s a) = true) (K : ∀ b k p m ap e1 q l,(m == Str.ofString "join") = true → litOk (.bytes b) (.bytes l) = true → chkE N e1 a = true → (ap.endLine == q.line) = true → notStar e1 = true → P (.lit (.bytes l)) (.Call (.Attribute (.Constant (.bytes b) k p) m ap) [e1] [] q)) : P s e :=
 onLitB_k (P:=fun s=>P s e) (show onLitB s _=true from h) fun l h=>onCall_k (P:=fun e=>P (.lit (.bytes l)) e) h fun z42 z43 z44 q h=>onAttribute_k (P:=fun z42=>P (.lit (.bytes l)) (.Call z42 z43 z44 q)) h fun z45 m ap h=>onConstant_k (P:=fun z45=>P (.lit (.bytes l)) (.Call (.Attribute z45 m ap) z43 z44 q)) h fun z46 k p h=>onbytes_k (P:=fun z46=>P (.lit (.bytes l)) (.Call (.Attribute (.Constant z46 k p) m ap) z43 z44 q)) h fun b h=>onL1_k (P:=fun z43=>P (.lit (.bytes l)) (.Call (.Attribute (.Constant (.bytes b) k p) m ap) z43 z44 q)) h fun e1 h=>onL0_k (P:=fun z44=>P (.lit (.bytes l)) (.Call (.Attribute (.Constant (.bytes b) k p) m ap) [e1] z44 q)) h fun h=>K b k p m ap e1 q l (aL (aL (aL (aL h)))) (aR (aL (aL (aL h)))) (aR (aL (aL h))) (aR (aL h)) (aR h)
theorem inv_comp {N:Nm} {e:PySem.Expr} {e1 src:CE} {cond:Option CE} {P:Option CE→PySem.Expr→Prop} (h:chkE N e (.comp e1 src cond)=true) (K:∀ elt x p it sc q,chkE N it src=true→compOk sc=true→N.isVarIn sc x=true→chkE ⟨sc.names,[x],N.fs,N.gs⟩ elt e1=true→notSet it=true→P none (.ListComp elt [⟨.Name x p,it,[],0⟩] sc q)):P cond e :=
 onNone_k (P:=fun cond=>P cond e) (show onNone cond _=true from h) fun h=>onListComp_k (P:=fun e=>P none e) h fun elt z47 sc q h=>onL1_k (P:=fun z47=>P none (.ListComp elt z47 sc q)) h fun z48 h=>onGen_k (P:=fun z48=>P none (.ListComp elt [z48] sc q)) h fun z49 it z50 z51 h=>onName_k (P:=fun z49=>P none (.ListComp elt [⟨z49,it,z50,z51⟩] sc q)) h fun x p h=>onL0_k (P:=fun z50=>P none (.ListComp elt [⟨(.Name x p),it,z50,z51⟩] sc q)) h fun h=>onZero_k (P:=fun z51=>P none (.ListComp elt [⟨(.Name x p),it,[],z51⟩] sc q)) h fun h=>K elt x p it sc q (aL (aL (aL (aL h)))) (aR (aL (aL (aL h)))) (aR (aL (aL h))) (aR (aL h)) (aR h)
end Mine
namespace Mine
open PySem PySem.W PyProof.Rows
structure Gd (Γ:Ct) (N:Nm) (B:Bl):Prop where
 names:N.names=B.env.scope.names
 vs:N.vs=B.vs
 fs:N.fs=Γ.fs
 gs:N.gs=Γ.gs
section
variable {prog:Program} {w:World} {Γ:Ct} {B:Bl}
noncomputable def FOk (prog:Program) (w:World) (Γ:Ct) (d:Nat) (F:Nat→List PV→Res PV):Prop:=∀ f x,Γ.fs[f]?=some x→FnAt Γ x∧∀ args,Con prog w Γ d x args (F f args)
theorem SE.cast {e:Expr} {f g:List Slot→Res PV} (x:SE prog w Γ B e f) (h:∀ ρ,f ρ=g ρ):SE prog w Γ B e g:=by have:=funext h; subst this; exact x
theorem SB.cast {e:Expr} {f g:List Slot→Res Bool} (x:SB prog w Γ B e f) (h:∀ ρ,f ρ=g ρ):SB prog w Γ B e g:=by have:=funext h; subst this; exact x
theorem SEs.cast {e:List Expr} {f g:List Slot→Res (List PV)} (x:SEs prog w Γ B e f) (h:∀ ρ,f ρ=g ρ):SEs prog w Γ B e g:=by have:=funext h; subst this; exact x
theorem SP.cast {e:Option Expr} {f g:List Slot→Res (Option PV)} (x:SP prog w Γ B e f) (h:∀ ρ,f ρ=g ρ):SP prog w Γ B e g:=by have:=funext h; subst this; exact x
theorem SS.cast {e:Stmt} {f g:List Slot→Res (Fl × List Slot)} (x:SS prog w Γ B e f) (h:∀ ρ,f ρ=g ρ):SS prog w Γ B e g:=by have:=funext h; subst this; exact x
theorem SSs.cast {e:List Stmt} {f g:List Slot→Res (Fl × List Slot)} (x:SSs prog w Γ B e f) (h:∀ ρ,f ρ=g ρ):SSs prog w Γ B e g:=by have:=funext h; subst this; exact x
theorem Gd.kind {N:Nm} (g:Gd Γ N B) {x:Str} {k:NameKind} (h:N.names.lookup x=some k):B.env.kindOf x=some k:=by
 unfold Env.kindOf; rw [← g.names]; exact h
theorem Gd.word {N : Nm} (g : Gd Γ N B) {x : Str} {s : String} (h : N.isWord x s = true) : x = Str.ofString s ∧ B.env.kindOf x = some .globalImplicit ∧ (x == ("__debug__" : Str)) = false := by
 obtain ⟨h1,h2,h3⟩:=word_split h
 exact ⟨h1,g.kind h2,h3⟩
theorem Gd.var {N : Nm} (g : Gd Γ N B) {x : Str} {i : Nat} (h : N.isVar x i = true) : B.vs[i]? = some x ∧ B.env.kindOf x = some .local ∧ (x == ("__debug__" : Str)) = false := by
 obtain ⟨h1,h2,h3⟩:=var_names h
 exact ⟨by rw [← g.vs]; exact h1,g.kind h2,h3⟩
theorem sb_typeIs {d : Nat} (hΓ : Γ.Ok) (hB : B.Ok d) {x y : Str} {xp yp cp pos : Pos} {e : Expr} {t : Ty} {f : List Slot → Res PV} (hx : x = Str.ofString "type") (hk : B.env.kindOf x = some .globalImplicit) (hd : (x == ("__debug__" : Str)) = false)
  (hst : notStar e = true) (he : SE prog w Γ B e f) (hy : y = Str.ofString (tyName t)) (hky : B.env.kindOf y = some .globalImplicit) (hdy : (y == ("__debug__" : Str)) = false) :
  SB prog w Γ B (.Compare (.Call (.Name x xp) [e] [] cp) [.Is] [.Name y yp] pos) (fun ρ=>(f ρ).bind fun x=>.ok (isP x t)):=by
 intro H ρ s Q E hs hp
 subst hx
 refine wpAny_isTrue_Compare1 ?_ rfl
 refine call1_t hΓ hB (id := "type") (by decide) (by kernel_rfl) hk hd hst hs (he H ρ s _ _ hs (Post.bind hp fun p v s₁ H₁ _ e₁ rr hp₁ => ?_))
 have hs₁:=hs.ext e₁
 refine call_type_of (typeIs_of hs₁.stays rr) (by cases p <;> (simp only [tyOf]; decide)) ?_
 refine ty_name hΓ hB hy hky hdy hs₁ ?_
 refine wpAny_is_plain rfl (wpAny_truthy_bool (hp₁.ok (.refl hs₁.stays) ?_))
 cases p <;> cases t <;> (simp only [isP,tyOf,tyName]; decide)
end
theorem nt {b:Bool} (h:(!b)=true):b=false:=by cases b <;> first | rfl | cases h
theorem r_cmp (r q:Res PV) (o:COp):(r.bind fun x=>q.bind fun y=>cmpP o x y)=(r.bind fun x=>q.bind fun y=>(cmpP o x y).bind fun b=>.ok (.bool b)).bind truP:=by
 cases r <;> try rfl
 cases q <;> try rfl
 simp only [Res.bind]
 cases cmpP o _ _ <;> rfl
theorem r_cmp2 (r q u:Res PV) (o p:COp):(r.bind fun x=>q.bind fun y=>(cmpP o x y).bind fun t=>if t then u.bind fun z=>cmpP p y z else .ok false) =
  (r.bind fun x=>q.bind fun y=>(cmpP o x y).bind fun t=>if t then u.bind fun z=>(cmpP p y z).bind fun b=>.ok (.bool b) else .ok (.bool false)).bind truP:=by
 cases r <;> try rfl
 cases q <;> try rfl
 simp only [Res.bind]
 cases cmpP o _ _ with
 | ok t =>
  cases t <;> try rfl
  cases u <;> try rfl
  simp only [Res.bind,if_true]
  cases cmpP p _ _ <;> rfl
 | exc=>rfl
 | stuck=>rfl
theorem r_not (r:Res PV):((r.bind truP).bind fun b=>.ok (!b))=(r.bind fun x=>(truP x).bind fun b=>.ok (.bool (!b))).bind truP:=by
 cases r <;> try rfl
 simp only [Res.bind]
 cases truP _ <;> rfl
theorem r_ite (r a c:Res PV):((r.bind truP).bind fun t=>if t then a.bind truP else c.bind truP)=(r.bind fun x=>(truP x).bind fun t=>if t then a else c).bind truP:=by
 cases r <;> try rfl
 simp only [Res.bind]
 cases truP _ with
 | ok t=>cases t <;> rfl
 | exc=>rfl
 | stuck=>rfl
theorem r_one (r:Res PV):((r.bind truP).bind fun t=>if t then Res.ok true else .ok false)=r.bind truP:=by
 cases r <;> try rfl
 simp only [Res.bind]
 cases truP _ with
 | ok t=>cases t <;> rfl
 | exc=>rfl
 | stuck=>rfl
theorem r_and (r q:Res PV):((r.bind truP).bind fun t=>if t then q.bind truP else .ok false)=(r.bind fun x=>(truP x).bind fun t=>if t then q else .ok x).bind truP:=by
 cases r <;> try rfl
 rename_i x
 simp only [Res.bind]
 cases h:truP x with
 | ok t=>cases t <;> first | rfl | exact h.symm
 | exc=>rfl
 | stuck=>rfl
theorem r_or (r q:Res PV):((r.bind truP).bind fun t=>if t then .ok true else q.bind truP)=(r.bind fun x=>(truP x).bind fun t=>if t then .ok x else q).bind truP:=by
 cases r <;> try rfl
 rename_i x
 simp only [Res.bind]
 cases h:truP x with
 | ok t=>cases t <;> first | rfl | exact h.symm
 | exc=>rfl
 | stuck=>rfl
theorem r_ty (r:Res PV) (t:Ty):(r.bind fun x=>Res.ok (isP x t))=(r.bind fun x=>.ok (.bool (isP x t))).bind truP:=by cases r <;> rfl
section
variable {prog:Program} {w:World} {Γ:Ct} {d:Nat} {F:Nat→List PV→Res PV}
noncomputable def EOk (prog:Program) (w:World) (Γ:Ct) (B:Bl) (e:Expr) (f:List Slot→Res PV):Prop:=SE prog w Γ B e f∧SB prog w Γ B e (fun ρ=>(f ρ).bind truP)
theorem EOk.both {B:Bl} {e:Expr} {f:List Slot→Res PV} (h:SE prog w Γ B e f) (he:∀ whole,isTrue e B.env whole=(do let v ← whole; standAt e.pos; holding [v] (truthy v))):EOk prog w Γ B e f:=⟨h,sb_plain h he⟩
theorem lit_short {v:PV} (h:shortLit v=true) (l:List Int) (e:v=.bytes l):l.length≤1048576:=by subst e; exact of_decide_eq_true h
theorem es_nil {N:Nm} {P:List Expr→Prop} {es:List Expr} (h:chkEs N es []=true) (k:P []):P es:=onL0_k (show onL0 es true=true from h) fun _=>k
theorem es_cons {N:Nm} {P:List Expr→Prop} {es:List Expr} {c:CE} {t:List CE} (h:chkEs N es (c::t)=true) (k:∀ e r,chkE N e c=true→notStar e=true→chkEs N r t=true→P (e::r)):P es:=by
 cases es with
 | nil=>exact ff h
 | cons e r=>exact k e r (aL (aL h)) (aR (aL h)) (aR h)
theorem len_var {B : Bl} {N : Nm} (hΓ : Γ.Ok) (hB : B.Ok d) (hg : Gd Γ N B) {x : Str} {xp p : Pos} {e1 : Expr} {i : Nat} (h1 : N.isWord x "len" = true) (h2 : chkE N e1 (.var i) = true) : EOk prog w Γ B (.Call (.Name x xp) [e1] [] p) (evE F Γ.GV (.len (.var i))) :=
 inv_var (P:=fun e1=>EOk prog w Γ B (.Call (.Name x xp) [e1] [] p) (evE F Γ.GV (.len (.var i)))) h2 fun y yp h3 =>
  .both (se_len_var hΓ hB (hg.word h1).1 (hg.word h1).2.1 (hg.word h1).2.2 (hg.var h3).1 (hg.var h3).2.1 (hg.var h3).2.2) fun _=>rfl
theorem len_any {B:Bl} {x:Str} {xp p:Pos} {e1:Expr} {a:CE} (hv:∀ i,EOk prog w Γ B (.Call (.Name x xp) [e1] [] p) (evE F Γ.GV (.len (.var i)))∨a≠.var i) (h:SE prog w Γ B (.Call (.Name x xp) [e1] [] p) (fun ρ=>(evE F Γ.GV a ρ).bind lenP)) :
  EOk prog w Γ B (.Call (.Name x xp) [e1] [] p) (evE F Γ.GV (.len a)):=by
 cases a <;> first | exact .both h fun _=>rfl | skip
 rename_i i
 exact (hv i).resolve_right fun h=>h rfl
mutual
theorem chk_e (hΓ:Γ.Ok) (hF:FOk prog w Γ d F):∀ (c:CE) {N:Nm} {B:Bl} {e:Expr},B.Ok d→Gd Γ N B→chkE N e c=true→EOk prog w Γ B e (evE F Γ.GV c)
 | .lit v,N,B,e,hB,hg,h=>inv_lit (P:=fun e=>EOk prog w Γ B e (evE F Γ.GV (.lit v))) h fun c k p h1 h2=>.both (se_lit h1 (lit_short h2)) fun _=>rfl
 | .neg n,N,B,e,hB,hg,h=>inv_neg (P:=fun e=>EOk prog w Γ B e (evE F Γ.GV (.neg n))) h fun i k p q h1=>.both (se_neg (eq_of_beq h1)) fun _=>rfl
 | .var i,N,B,e,hB,hg,h=>inv_var (P:=fun e=>EOk prog w Γ B e (evE F Γ.GV (.var i))) h fun x p h1=>.both (se_var hB (hg.var h1).1 (hg.var h1).2.1 (hg.var h1).2.2) fun _=>rfl
 | .glob i,N,B,e,hB,hg,h=>inv_glob (P:=fun e=>EOk prog w Γ B e (evE F Γ.GV (.glob i))) h fun x p h1 h2=>.both (se_glob hΓ hB (hg.gs ▸ eq_of_beq h1) (hg.kind (glob_names h2).1) (glob_names h2).2) fun _=>rfl
 | .strFlt s x,N,B,e,hB,hg,h=>inv_strFlt (P:=fun e=>EOk prog w Γ B e (evE F Γ.GV (.strFlt s x))) h fun a k p b k2 p2 k3 p3 h1 h2=>by
  rw [← eq_of_beq h1,← eq_of_beq h2]; exact .both se_strFlt fun _=>rfl
 | .tup l,N,B,e,hB,hg,h=>inv_tup (P:=fun e=>EOk prog w Γ B e (evE F Γ.GV (.tup l))) h fun es k p h1=>.both (se_tup (chk_es hΓ hF l hB hg h1)) fun _=>rfl
 | .lst l,N,B,e,hB,hg,h=>inv_lst (P:=fun e=>EOk prog w Γ B e (evE F Γ.GV (.lst l))) h fun es p h1=>.both (se_lst (chk_es hΓ hF l hB hg h1)) fun _=>rfl
 | .bin o a b,N,B,e,hB,hg,h=>inv_bin (P:=fun e=>EOk prog w Γ B e (evE F Γ.GV (.bin o a b))) h fun l op r p h1 h2 h3 =>
  .both (se_bin (chk_e hΓ hF a hB hg h2).1 (chk_e hΓ hF b hB hg h3).1 (so_bin h1)) fun _=>rfl
 | .cmp o a b,N,B,e,hB,hg,h=>inv_cmp (P:=fun e=>EOk prog w Γ B e (evE F Γ.GV (.cmp o a b))) h fun l op r p h1 h2 h3 h4 =>
  have ha:=(chk_e hΓ hF a hB hg h2).1
  have hb:=(chk_e hΓ hF b hB hg h3).1
  have hm:=nt h4
  ⟨se_cmp ha hb hm (so_cmp hΓ hB h1),SB.cast (sb_cmp ha hb hm (so_cmp hΓ hB h1)) fun ρ=>r_cmp _ _ _⟩
 | .cmp2 o p a b c,N,B,e,hB,hg,h=>inv_cmp2 (P:=fun e=>EOk prog w Γ B e (evE F Γ.GV (.cmp2 o p a b c))) h fun l op oq r q ps h1 h2 h3 h4 h5 h6 =>
  have ha:=(chk_e hΓ hF a hB hg h3).1
  have hb:=(chk_e hΓ hF b hB hg h4).1
  have hc:=(chk_e hΓ hF c hB hg h5).1
  have hm:=nt h6
  ⟨se_cmp2 ha hb hc hm (so_cmp hΓ hB h1) (so_cmp hΓ hB h2),SB.cast (sb_cmp2 ha hb hc hm (so_cmp hΓ hB h1) (so_cmp hΓ hB h2)) fun ρ=>r_cmp2 _ _ _ _ _⟩
 | .and_ l,N,B,e,hB,hg,h=>inv_and (P:=fun e=>EOk prog w Γ B e (evE F Γ.GV (.and_ l))) h fun es p h1=>chk_and hΓ hF l hB hg h1
 | .or_ l,N,B,e,hB,hg,h=>inv_or (P:=fun e=>EOk prog w Γ B e (evE F Γ.GV (.or_ l))) h fun es p h1=>chk_or hΓ hF l hB hg h1
 | .not_ a,N,B,e,hB,hg,h=>inv_not (P:=fun e=>EOk prog w Γ B e (evE F Γ.GV (.not_ a))) h fun x p h1 =>
  ⟨se_not (chk_e hΓ hF a hB hg h1).1,SB.cast (sb_not (chk_e hΓ hF a hB hg h1).2) fun ρ=>r_not _⟩
 | .ite c a b,N,B,e,hB,hg,h=>inv_ite (P:=fun e=>EOk prog w Γ B e (evE F Γ.GV (.ite c a b))) h fun t x o p h1 h2 h3 =>
  ⟨SE.cast (se_ite (chk_e hΓ hF c hB hg h1).2 (chk_e hΓ hF a hB hg h2).1 (chk_e hΓ hF b hB hg h3).1) fun ρ=>bind_assoc' _ _ _,
   SB.cast (sb_ite (chk_e hΓ hF c hB hg h1).2 (chk_e hΓ hF a hB hg h2).2 (chk_e hΓ hF b hB hg h3).2) fun ρ=>r_ite _ _ _⟩
 | .idx a i,N,B,e,hB,hg,h=>inv_idx (P:=fun e=>EOk prog w Γ B e (evE F Γ.GV (.idx a i))) h fun v j p h1 h2 h3 =>
  .both (se_idx (chk_e hΓ hF a hB hg h1).1 (chk_e hΓ hF i hB hg h2).1 h3) fun _=>rfl
 | .slc a lo hi,N,B,e,hB,hg,h=>inv_slc (P:=fun e=>EOk prog w Γ B e (evE F Γ.GV (.slc a lo hi))) h fun v l u p q h1 h2 h3 =>
  .both (se_slc (chk_e hΓ hF a hB hg h1).1 (chk_o hΓ hF lo hB hg h2) (chk_o hΓ hF hi hB hg h3)) fun _=>rfl
 | .call f args,N,B,e,hB,hg,h=>inv_call (P:=fun e=>EOk prog w Γ B e (evE F Γ.GV (.call f args))) h fun x xp es p h1 h2 h3 h4=>by
  have hf:=hF f x (hg.fs ▸ eq_of_beq h1)
  have h5:=glob_names h2
  have hes:=chk_es hΓ hF args hB hg h3
  cases es with
  | nil=>exact ff h4
  | cons e1 es =>
   have hn:notStar e1=true:=by
    cases args with
    | nil=>exact ff h3
    | cons a t=>exact aR (aL h3)
   exact .both (se_call hΓ hB (hg.kind h5.1) h5.2 hf.1 hn hes hf.2) fun _=>rfl
 | .len a,N,B,e,hB,hg,h=>inv_len (P:=fun e=>EOk prog w Γ B e (evE F Γ.GV (.len a))) h fun x xp e1 p h1 h2 h9 =>
  len_any (fun i=>Classical.byCases (fun (q:a=.var i)=>.inl (len_var hΓ hB hg h1 (q ▸ h2))) .inr) (se_len hΓ hB (hg.word h1).1 (hg.word h1).2.1 (hg.word h1).2.2 h9 (chk_e hΓ hF a hB hg h2).1)
 | .isin a ts,N,B,e,hB,hg,h=>inv_isin (P:=fun e=>EOk prog w Γ B e (evE F Γ.GV (.isin a ts))) h fun x xp e1 es k p q h1 h2 h3 h4 h9 =>
  .both (se_isin hΓ hB hg.names.symm (hg.word h1).1 (hg.word h1).2.1 (hg.word h1).2.2 h9 (chk_e hΓ hF a hB hg h2).1 h3 (of_decide_eq_true h4)) fun _=>rfl
 | .isin1 a t,N,B,e,hB,hg,h=>inv_isin1 (P:=fun e=>EOk prog w Γ B e (evE F Γ.GV (.isin1 a t))) h fun x xp e1 y p q h1 h2 h3 h9 =>
  .both (se_isin1 hΓ hB (hg.word h1).1 (hg.word h1).2.1 (hg.word h1).2.2 h9 (chk_e hΓ hF a hB hg h2).1 (hg.word h3).1 (hg.word h3).2.1 (hg.word h3).2.2) fun _=>rfl
 | .mkBytes a,N,B,e,hB,hg,h=>inv_mkBytes (P:=fun e=>EOk prog w Γ B e (evE F Γ.GV (.mkBytes a))) h fun x xp e1 p h1 h2 h9 =>
  .both (se_mkBytes hΓ hB (hg.word h1).1 (hg.word h1).2.1 (hg.word h1).2.2 h9 (chk_e hΓ hF a hB hg h2).1) fun _=>rfl
 | .mkList a,N,B,e,hB,hg,h=>inv_mkList (P:=fun e=>EOk prog w Γ B e (evE F Γ.GV (.mkList a))) h fun x xp e1 p h1 h2 h9 =>
  .both (se_mkList hΓ hB (hg.word h1).1 (hg.word h1).2.1 (hg.word h1).2.2 h9 (chk_e hΓ hF a hB hg h2).1) fun _=>rfl
 | .all_ a,N,B,e,hB,hg,h=>inv_all (P:=fun e=>EOk prog w Γ B e (evE F Γ.GV (.all_ a))) h fun x xp e1 p h1 h2 h9 =>
  .both (se_all hΓ hB (hg.word h1).1 (hg.word h1).2.1 (hg.word h1).2.2 h9 (chk_e hΓ hF a hB hg h2).1) fun _=>rfl
 | .typeIs a t,N,B,e,hB,hg,h=>inv_typeIs (P:=fun e=>EOk prog w Γ B e (evE F Γ.GV (.typeIs a t))) h fun x xp e1 p y q r h1 h2 h3 h9 =>
  have q1:=hg.word h1
  have q2:=hg.word h3
  have ha:=(chk_e hΓ hF a hB hg h2).1
  ⟨se_typeIs hΓ hB q1.1 q1.2.1 q1.2.2 h9 ha q2.1 q2.2.1 q2.2.2,SB.cast (sb_typeIs hΓ hB q1.1 q1.2.1 q1.2.2 h9 ha q2.1 q2.2.1 q2.2.2) fun ρ=>r_ty _ _⟩
 | .join s a,N,B,e,hB,hg,h=>inv_join (P:=fun s e=>EOk prog w Γ B e (evE F Γ.GV (.join s a))) h fun b k p m ap e1 q l h1 h2 h3 h4 h9 =>
  .both (se_join hB (eq_of_beq h1) h2 h9 h4 (chk_e hΓ hF a hB hg h3).1) fun _=>rfl
 | .comp e1 src cond,N,B,e,hB,hg,h=>inv_comp (P:=fun o e=>EOk prog w Γ B e (evE F Γ.GV (.comp e1 src o))) h fun elt x p it sc q h1 h2 h3 h4 h5 =>
  .both (se_comp hB h2 (eq_of_beq (aL h3)) h5 (fun C=>(chk_e hΓ hF e1 (N:=⟨sc.names,[x],N.fs,N.gs⟩) (B:=B.comp sc x C) (hB.comp (compOk_parts h2).1 x C) ⟨rfl,rfl,hg.fs,hg.gs⟩ h4).1) (chk_e hΓ hF src hB hg h1).1) fun _=>rfl
theorem chk_o (hΓ:Γ.Ok) (hF:FOk prog w Γ d F):∀ (c:Option CE) {N:Nm} {B:Bl} {e:Option Expr},B.Ok d→Gd Γ N B→chkO N e c=true→SP prog w Γ B e (evO F Γ.GV c)
 | none,N,B,e,hB,hg,h=>onNone_k (P:=fun e=>SP prog w Γ B e (evO F Γ.GV none)) (show onNone e true=true from h) fun _=>sp_none
 | some c,N,B,e,hB,hg,h=>onSome_k (P:=fun e=>SP prog w Γ B e (evO F Γ.GV (some c))) (show onSome e _=true from h) fun e h=>sp_some (chk_e hΓ hF c hB hg h).1
theorem chk_es (hΓ:Γ.Ok) (hF:FOk prog w Γ d F):∀ (l:List CE) {N:Nm} {B:Bl} {es:List Expr},B.Ok d→Gd Γ N B→chkEs N es l=true→SEs prog w Γ B es (evEs F Γ.GV l)
 | [],N,B,es,hB,hg,h=>es_nil (P:=fun es=>SEs prog w Γ B es (evEs F Γ.GV [])) h ses_nil
 | c::t,N,B,es,hB,hg,h=>es_cons (P:=fun es=>SEs prog w Γ B es (evEs F Γ.GV (c::t))) h fun e r h1 h2 h3=>ses_cons (chk_e hΓ hF c hB hg h1).1 (chk_es hΓ hF t hB hg h3) h2
theorem chk_and (hΓ:Γ.Ok) (hF:FOk prog w Γ d F):∀ (l:List CE) {N:Nm} {B:Bl} {es:List Expr} {pos:Pos},B.Ok d→Gd Γ N B→chkEs N es l=true→EOk prog w Γ B (.BoolOp .And es pos) (evAnd F Γ.GV l)
 | [],N,B,es,pos,hB,hg,h=>⟨fun H ρ s Q E hs hp=>False.elim hp,fun H ρ s Q E hs hp=>False.elim hp⟩
 | [a],N,B,es,pos,hB,hg,h=>es_cons (P:=fun es=>EOk prog w Γ B (.BoolOp .And es pos) (evAnd F Γ.GV [a])) h fun e r h1 h2 h3 =>
  es_nil (P:=fun r=>EOk prog w Γ B (.BoolOp .And (e::r) pos) (evAnd F Γ.GV [a])) h3
   ⟨fun H ρ s Q E hs hp=>BoolOp_one ((chk_e hΓ hF a hB hg h1).1 H ρ s Q E hs hp),SB.cast (sb_and (chk_e hΓ hF a hB hg h1).2 sb_and_nil) fun ρ=>r_one _⟩
 | a::b::t,N,B,es,pos,hB,hg,h=>es_cons (P:=fun es=>EOk prog w Γ B (.BoolOp .And es pos) (evAnd F Γ.GV (a::b::t))) h fun e r h1 h2 h3 =>
  have ha:=chk_e hΓ hF a hB hg h1
  have hr:=fun {pos:Pos}=>chk_and hΓ hF (b::t) hB hg (pos:=pos) h3
  es_cons (P:=fun r=>(∀ {pos:Pos},EOk prog w Γ B (.BoolOp .And r pos) (evAnd F Γ.GV (b::t)))→EOk prog w Γ B (.BoolOp .And (e::r) pos) (evAnd F Γ.GV (a::b::t))) h3
   (fun e' r' _ _ _ hr=>⟨se_and ha.1 hr.1,SB.cast (sb_and ha.2 hr.2) fun ρ=>r_and _ _⟩) hr
theorem chk_or (hΓ:Γ.Ok) (hF:FOk prog w Γ d F):∀ (l:List CE) {N:Nm} {B:Bl} {es:List Expr} {pos:Pos},B.Ok d→Gd Γ N B→chkEs N es l=true→EOk prog w Γ B (.BoolOp .Or es pos) (evOr F Γ.GV l)
 | [],N,B,es,pos,hB,hg,h=>⟨fun H ρ s Q E hs hp=>False.elim hp,fun H ρ s Q E hs hp=>False.elim hp⟩
 | [a],N,B,es,pos,hB,hg,h=>es_cons (P:=fun es=>EOk prog w Γ B (.BoolOp .Or es pos) (evOr F Γ.GV [a])) h fun e r h1 h2 h3 =>
  es_nil (P:=fun r=>EOk prog w Γ B (.BoolOp .Or (e::r) pos) (evOr F Γ.GV [a])) h3
   ⟨fun H ρ s Q E hs hp=>BoolOp_one ((chk_e hΓ hF a hB hg h1).1 H ρ s Q E hs hp),SB.cast (sb_or (chk_e hΓ hF a hB hg h1).2 sb_or_nil) fun ρ=>r_one _⟩
 | a::b::t,N,B,es,pos,hB,hg,h=>es_cons (P:=fun es=>EOk prog w Γ B (.BoolOp .Or es pos) (evOr F Γ.GV (a::b::t))) h fun e r h1 h2 h3 =>
  have ha:=chk_e hΓ hF a hB hg h1
  have hr:=fun {pos:Pos}=>chk_or hΓ hF (b::t) hB hg (pos:=pos) h3
  es_cons (P:=fun r=>(∀ {pos:Pos},EOk prog w Γ B (.BoolOp .Or r pos) (evOr F Γ.GV (b::t)))→EOk prog w Γ B (.BoolOp .Or (e::r) pos) (evOr F Γ.GV (a::b::t))) h3
   (fun e' r' _ _ _ hr=>⟨se_or ha.1 hr.1,SB.cast (sb_or ha.2 hr.2) fun ρ=>r_or _ _⟩) hr
end
end
end Mine
namespace Mine
open PySem PySem.W PyProof.Rows
theorem comp_of {N:Nm} {P:CE→Prop} {a:Expr} {b:List Comprehension} {sc:Scope} {p:Pos} {c:CE} (h:chkE N (.ListComp a b sc p) c=true) (k:∀ e1 src cond,chkE N (.ListComp a b sc p) (.comp e1 src cond)=true→P (.comp e1 src cond)):P c:=by
 cases c <;> first | exact k _ _ _ h | exact ff h | exact onLitB_k (P:=fun s=>P (.join s _)) (show onLitB _ _=true from h) fun _ h=>ff h
theorem ss_split {N:Nm} {P:List Stmt→Prop} {es:List Stmt} {c:CS} {t:List CS} (hc:∀ i,c≠.frz i) (h:chkSs N es (c::t)=true) (k:∀ e r,chkS N e c=true→chkSs N r t=true→P (e::r)):P es:=by
 cases es with
 | nil=>cases c <;> first | exact absurd rfl (hc _) | exact ff h
 | cons e r =>
  have h':(chkS N e c && chkSs N r t)=true:=by cases c <;> first | exact absurd rfl (hc _) | exact h
  exact k e r (aL h') (aR h')
theorem sinv_assign {N:Nm} {e:Stmt} {i:Nat} {c:CE} {P:Stmt→Prop} (h:chkS N e (.assign i c)=true) (K:∀ x tp v p,N.isVar x i=true→chkE N v c=true→(notComp v || compLine x tp v)=true→P (.Assign [.Name x tp] v p)):P e :=
 onAssign_k (P:=fun e=>P e) (show onAssign e _=true from h) fun z1 v p h=>onL1_k (P:=fun z1=>P (.Assign z1 v p)) h fun z2 h=>onName_k (P:=fun z2=>P (.Assign [z2] v p)) h fun x tp h=>K x tp v p (aL (aL h)) (aR (aL h)) (aR h)
theorem sinv_own {N:Nm} {e:Stmt} {i:Nat} {l:List CE} {P:Stmt→Prop} (h:chkS N e (.own i l)=true) (K:∀ x tp es lp p,N.isVar x i=true→chkEs N es l=true→P (.Assign [.Name x tp] (.List es lp) p)):P e :=
 onAssign_k (P:=fun e=>P e) (show onAssign e _=true from h) fun z3 z4 p h=>onL1_k (P:=fun z3=>P (.Assign z3 z4 p)) h fun z5 h=>onName_k (P:=fun z5=>P (.Assign [z5] z4 p)) h fun x tp h=>onList_k (P:=fun z4=>P (.Assign [(.Name x tp)] z4 p)) h fun es lp h=>K x tp es lp p (aL h) (aR h)
theorem sinv_assignT {N:Nm} {e:Stmt} {rev:Bool} {is:List Nat} {c:CE} {P:Stmt→Prop} (h:chkS N e (.assignT rev is c)=true) (K:∀ ts k tp v p,chkNs N ts is=true→chkE N v c=true→notComp v=true→swOk N rev [.Tuple ts k tp] v is=true→P (.Assign [.Tuple ts k tp] v p)):P e :=
 onAssign_k (P:=fun e=>P e) (show onAssign e _=true from h) fun z6 v p h=>onL1_k (P:=fun z6=>P (.Assign z6 v p)) h fun z7 h=>onTuple_k (P:=fun z7=>P (.Assign [z7] v p)) h fun ts k tp h=>K ts k tp v p (aL (aL (aL h))) (aR (aL (aL h))) (aR (aL h)) (aR h)
theorem sinv_aug {N:Nm} {e:Stmt} {i:Nat} {o:BOp} {c:CE} {P:Stmt→Prop} (h:chkS N e (.aug i o c)=true) (K:∀ x tp op v p,N.isVar x i=true→bopOk op o=true→chkE N v c=true→P (.AugAssign (.Name x tp) op v p)):P e :=
 onAugAssign_k (P:=fun e=>P e) (show onAugAssign e _=true from h) fun z8 op v p h=>onName_k (P:=fun z8=>P (.AugAssign z8 op v p)) h fun x tp h=>K x tp op v p (aL (aL h)) (aR (aL h)) (aR h)
theorem sinv_app {N : Nm} {e : Stmt} {i : Nat} {c : CE} {P : Stmt → Prop} (h : chkS N e (.app i c) = true) (K : ∀ x xp m ap v q p,N.isVar x i = true → (m == Str.ofString "append") = true → chkE N v c = true → (ap.endLine == q.line) = true → notStar v = true → P (.Expr (.Call (.Attribute (.Name x xp) m ap) [v] [] q) p)) : P e :=
 onExpr_k (P:=fun e=>P e) (show onExpr e _=true from h) fun z9 p h=>onCall_k (P:=fun z9=>P (.Expr z9 p)) h fun z10 z11 z12 q h=>onAttribute_k (P:=fun z10=>P (.Expr (.Call z10 z11 z12 q) p)) h fun z13 m ap h=>onName_k (P:=fun z13=>P (.Expr (.Call (.Attribute z13 m ap) z11 z12 q) p)) h fun x xp h=>onL1_k (P:=fun z11=>P (.Expr (.Call (.Attribute (.Name x xp) m ap) z11 z12 q) p)) h fun v h=>onL0_k (P:=fun z12=>P (.Expr (.Call (.Attribute (.Name x xp) m ap) [v] z12 q) p)) h fun h=>K x xp m ap v q p (aL (aL (aL (aL h)))) (aR (aL (aL (aL h)))) (aR (aL (aL h))) (aR (aL h)) (aR h)
theorem sinv_expr {N:Nm} {e:Stmt} {c:CE} {P:Stmt→Prop} (h:chkS N e (.expr c)=true) (K:∀ v p,chkE N v c=true→notComp v=true→P (.Expr v p)):P e :=
 onExpr_k (P:=fun e=>P e) (show onExpr e _=true from h) fun v p h=>K v p (aL h) (aR h)
theorem sinv_ret {N:Nm} {e:Stmt} {c:CE} {P:Stmt→Prop} (h:chkS N e (.ret c)=true) (K:∀ v p,chkE N v c=true→P (.Return (some v) p)):P e :=
 onReturn_k (P:=fun e=>P e) (show onReturn e _=true from h) fun z14 p h=>onSome_k (P:=fun z14=>P (.Return z14 p)) h fun v h=>K v p h
theorem sinv_if {N:Nm} {e:Stmt} {c:CE} {x y:List CS} {P:Stmt→Prop} (h:chkS N e (.if_ c x y)=true) (K:∀ t b o p,chkE N t c=true→chkSs N b x=true→chkSs N o y=true→P (.If t b o p)):P e :=
 onIf_k (P:=fun e=>P e) (show onIf e _=true from h) fun t b o p h=>K t b o p (aL (aL h)) (aR (aL h)) (aR h)
theorem sinv_while {N:Nm} {e:Stmt} {c:CE} {x:List CS} {P:Stmt→Prop} (h:chkS N e (.while_ c x)=true) (K:∀ t b p,chkE N t c=true→chkSs N b x=true→P (.While t b [] p)):P e :=
 onWhile_k (P:=fun e=>P e) (show onWhile e _=true from h) fun t b z15 p h=>onL0_k (P:=fun z15=>P (.While t b z15 p)) h fun h=>K t b p (aL h) (aR h)
theorem sinv_forR {N : Nm} {e : Stmt} {i : Nat} {c : CE} {y : List CS} {P : Stmt → Prop} (h : chkS N e (.forR i c y) = true) (K : ∀ x xp r rp v q b p,N.isVar x i = true → N.isWord r "range" = true → chkE N v c = true → chkSs N b y = true → notStar v = true → P (.For (.Name x xp) (.Call (.Name r rp) [v] [] q) b [] p)) : P e :=
 onFor_k (P:=fun e=>P e) (show onFor e _=true from h) fun z16 z17 b z18 p h=>onName_k (P:=fun z16=>P (.For z16 z17 b z18 p)) h fun x xp h=>onCall_k (P:=fun z17=>P (.For (.Name x xp) z17 b z18 p)) h fun z19 z20 z21 q h=>onName_k (P:=fun z19=>P (.For (.Name x xp) (.Call z19 z20 z21 q) b z18 p)) h fun r rp h=>onL1_k (P:=fun z20=>P (.For (.Name x xp) (.Call (.Name r rp) z20 z21 q) b z18 p)) h fun v h=>onL0_k (P:=fun z21=>P (.For (.Name x xp) (.Call (.Name r rp) [v] z21 q) b z18 p)) h fun h=>onL0_k (P:=fun z18=>P (.For (.Name x xp) (.Call (.Name r rp) [v] [] q) b z18 p)) h fun h=>K x xp r rp v q b p (aL (aL (aL (aL h)))) (aR (aL (aL (aL h)))) (aR (aL (aL h))) (aR (aL h)) (aR h)
theorem sinv_for {N:Nm} {e:Stmt} {i:Nat} {c:CE} {y:List CS} {P:Stmt→Prop} (h:chkS N e (.for_ i c y)=true) (K:∀ x xp v b p,N.isVar x i=true→chkE N v c=true→chkSs N b y=true→notSet v=true→P (.For (.Name x xp) v b [] p)):P e :=
 onFor_k (P:=fun e=>P e) (show onFor e _=true from h) fun z22 v b z23 p h=>onName_k (P:=fun z22=>P (.For z22 v b z23 p)) h fun x xp h=>onL0_k (P:=fun z23=>P (.For (.Name x xp) v b z23 p)) h fun h=>K x xp v b p (aL (aL (aL h))) (aR (aL (aL h))) (aR (aL h)) (aR h)
theorem sinv_try0 {N : Nm} {e : Stmt} {c : CE} {j : Nat} {w : PV} {P : Stmt → Prop} (h : chkS N e (.tryE c j w) = true) (K : ∀ v ap n np y yp k kk kp bp hp p,chkE N v c = true → notComp v = true → N.isWord n "ValueError" = true → N.isVar y j = true → litOk k w = true → shortLit w = true → P (.Try [.Expr v ap] [.ExceptHandler (some (.Name n np)) none [.Assign [.Name y yp] (.Constant k kk kp) bp] hp] [] [] p)) : P e :=
 onTry_k (P:=fun e=>P e) (show onTry e _=true from h) fun z42 z43 z44 z45 p h=>onL1_k (P:=fun z42=>P (.Try z42 z43 z44 z45 p)) h fun z46 h=>onExpr_k (P:=fun z46=>P (.Try [z46] z43 z44 z45 p)) h fun v ap h=>onL1_k (P:=fun z43=>P (.Try [(.Expr v ap)] z43 z44 z45 p)) h fun z47 h=>onExceptHandler_k (P:=fun z47=>P (.Try [(.Expr v ap)] [z47] z44 z45 p)) h fun z48 z49 z50 hp h=>onSome_k (P:=fun z48=>P (.Try [(.Expr v ap)] [(.ExceptHandler z48 z49 z50 hp)] z44 z45 p)) h fun z51 h=>onName_k (P:=fun z51=>P (.Try [(.Expr v ap)] [(.ExceptHandler (some z51) z49 z50 hp)] z44 z45 p)) h fun n np h=>onNone_k (P:=fun z49=>P (.Try [(.Expr v ap)] [(.ExceptHandler (some (.Name n np)) z49 z50 hp)] z44 z45 p)) h fun h=>onL1_k (P:=fun z50=>P (.Try [(.Expr v ap)] [(.ExceptHandler (some (.Name n np)) none z50 hp)] z44 z45 p)) h fun z52 h=>onAssign_k (P:=fun z52=>P (.Try [(.Expr v ap)] [(.ExceptHandler (some (.Name n np)) none [z52] hp)] z44 z45 p)) h fun z53 z54 bp h=>onL1_k (P:=fun z53=>P (.Try [(.Expr v ap)] [(.ExceptHandler (some (.Name n np)) none [(.Assign z53 z54 bp)] hp)] z44 z45 p)) h fun z55 h=>onName_k (P:=fun z55=>P (.Try [(.Expr v ap)] [(.ExceptHandler (some (.Name n np)) none [(.Assign [z55] z54 bp)] hp)] z44 z45 p)) h fun y yp h=>onConstant_k (P:=fun z54=>P (.Try [(.Expr v ap)] [(.ExceptHandler (some (.Name n np)) none [(.Assign [(.Name y yp)] z54 bp)] hp)] z44 z45 p)) h fun k kk kp h=>onL0_k (P:=fun z44=>P (.Try [(.Expr v ap)] [(.ExceptHandler (some (.Name n np)) none [(.Assign [(.Name y yp)] (.Constant k kk kp) bp)] hp)] z44 z45 p)) h fun h=>onL0_k (P:=fun z45=>P (.Try [(.Expr v ap)] [(.ExceptHandler (some (.Name n np)) none [(.Assign [(.Name y yp)] (.Constant k kk kp) bp)] hp)] [] z45 p)) h fun h=>K v ap n np y yp k kk kp bp hp p (aL (aL (aL (aL (aL h))))) (aR (aL (aL (aL (aL h))))) (aR (aL (aL (aL h)))) (aR (aL (aL h))) (aR (aL h)) (aR h)
theorem sinv_raise {N : Nm} {e : Stmt}  {P : Stmt → Prop} (h : chkS N e .raise_ = true) (K : ∀ x xp t kk kp q p,N.isWord x "ValueError" = true → P (.Raise (some (.Call (.Name x xp) [.Constant (.str t) kk kp] [] q)) none p)) : P e :=
 onRaise_k (P:=fun e=>P e) (show onRaise e _=true from h) fun z42 z43 p h=>onSome_k (P:=fun z42=>P (.Raise z42 z43 p)) h fun z44 h=>onCall_k (P:=fun z44=>P (.Raise (some z44) z43 p)) h fun z45 z46 z47 q h=>onName_k (P:=fun z45=>P (.Raise (some (.Call z45 z46 z47 q)) z43 p)) h fun x xp h=>onL1_k (P:=fun z46=>P (.Raise (some (.Call (.Name x xp) z46 z47 q)) z43 p)) h fun z48 h=>onConstant_k (P:=fun z48=>P (.Raise (some (.Call (.Name x xp) [z48] z47 q)) z43 p)) h fun z49 kk kp h=>onstr_k (P:=fun z49=>P (.Raise (some (.Call (.Name x xp) [(.Constant z49 kk kp)] z47 q)) z43 p)) h fun t h=>onL0_k (P:=fun z47=>P (.Raise (some (.Call (.Name x xp) [(.Constant (.str t) kk kp)] z47 q)) z43 p)) h fun h=>onNone_k (P:=fun z43=>P (.Raise (some (.Call (.Name x xp) [(.Constant (.str t) kk kp)] [] q)) z43 p)) h fun h=>K x xp t kk kp q p h
theorem sinv_brk {N:Nm} {e:Stmt}  {P:Stmt→Prop} (h:chkS N e .brk=true) (K:∀ p,true=true→P (.Break p)):P e :=
 onBreak_k (P:=fun e=>P e) (show onBreak e _=true from h) fun p h=>K p h
section
variable {prog:Program} {w:World} {Γ:Ct} {d:Nat} {F:Nat→List PV→Res PV} {W:Nat} {N:Nm} {B:Bl}
theorem not_interactive (hB:B.Ok d):interactive B.env=false:=by
 unfold interactive; rw [hB.kind]; rfl
theorem sss_frz (hB:B.Ok d) (hfn:B.fenv.frame=some B.env.locals) {ss:List Stmt} {g:List Slot→Res (Fl × List Slot)} {i:Nat} (hi:i<B.vs.length) (h:SSs prog w Γ B ss g) :
  SSs prog w Γ B ss (fun ρ=>match getS ρ i with | .own l=>g (putS ρ i (.val (.list l))) | _=>g ρ):=by
 intro H ρ s Q E hs hp
 cases hg:getS ρ i with
 | unset=>simp only [hg] at hp; exact h H ρ s Q E hs hp
 | val v=>simp only [hg] at hp; exact h H ρ s Q E hs hp
 | own l =>
  simp only [hg] at hp
  obtain ⟨H',hs',ex⟩:=st_frz hB hfn hs hg (by rw [List.getElem?_eq_getElem hi]; rfl)
  exact h H' _ s Q E hs' (PostS.ext hp ex)
theorem sss_frz' (hB:B.Ok d) (hfn:B.fenv.frame=some B.env.locals) {ss:List Stmt} {t:List CS} {i:Nat} (hi:i<B.vs.length) (h:SSs prog w Γ B ss (evSs F Γ.GV W t)):SSs prog w Γ B ss (evSs F Γ.GV W (.frz i::t)) :=
 SSs.cast (sss_frz hB hfn hi h) fun ρ=>by
  show _=match (match getS ρ i with | .own l=>Res.ok (Fl.next,putS ρ i (.val (.list l))) | _=>.ok (.next,ρ)) with | .ok (.next,ρ')=>evSs F Γ.GV W t ρ' | .ok (f,ρ')=>.ok (f,ρ') | .exc=>.exc | .stuck=>.stuck
  cases getS ρ i <;> rfl
mutual
theorem chk_s (hΓ:Γ.Ok) (hF:FOk prog w Γ d F) (hB:B.Ok d) (hg:Gd Γ N B) (hfn:B.fenv.frame=some B.env.locals):∀ (c:CS) {e:Stmt},chkS N e c=true→SS prog w Γ B e (evS F Γ.GV W c)
 | .frz i,e,h=>ff h
 | .assign i c,e,h=>sinv_assign (P:=fun e=>SS prog w Γ B e (evS F Γ.GV W (.assign i c))) h fun x tp v p h1 h2 h3=>by
  have q:=hg.var h1
  rcases Bool.or_eq_true_iff.1 h3 with h3 | h3
  ·exact ss_assign hB q.1 q.2.1 h3 (chk_e hΓ hF c hB hg h2).1
  ·refine onListComp_k (P:=fun v=>compLine x tp v=true→chkE N v c=true→SS prog w Γ B (.Assign [.Name x tp] v p) (evS F Γ.GV W (.assign i c))) (show onListComp v _=true from h3) (fun a0 b0 s0 p0 _ h3 h2=>?_) h3 h2
   refine comp_of (P:=fun c=>SS prog w Γ B (.Assign [.Name x tp] (.ListComp a0 b0 s0 p0) p) (evS F Γ.GV W (.assign i c))) h2 fun e1 src cond h2=>?_
   refine inv_comp (P:=fun o e=>compLine x tp e=true→SS prog w Γ B (.Assign [.Name x tp] e p) (evS F Γ.GV W (.assign i (.comp e1 src o)))) h2 (fun elt y yp it sc q' g1 g2 g3 g4 g5 h3=>?_) h3
   exact ss_assign_comp hB hfn q.1 q.2.1 g2 (eq_of_beq (aL g3)) g5 h3 (fun C=>(chk_e hΓ hF e1 (N:=⟨sc.names,[y],N.fs,N.gs⟩) (B:=B.comp sc y C) (hB.comp (compOk_parts g2).1 y C) ⟨rfl,rfl,hg.fs,hg.gs⟩ g4).1) (chk_e hΓ hF src hB hg g1).1
 | .own i l,e,h=>sinv_own (P:=fun e=>SS prog w Γ B e (evS F Γ.GV W (.own i l))) h fun x tp es lp p h1 h2=>ss_own hB (hg.var h1).1 (hg.var h1).2.1 (chk_es hΓ hF l hB hg h2)
 | .assignT rev is c,e,h=>sinv_assignT (P:=fun e=>SS prog w Γ B e (evS F Γ.GV W (.assignT rev is c))) h fun ts k tp v p h1 h2 h3 h4=>ss_assignT hB hg.vs hg.names h1 h3 h4 (chk_e hΓ hF c hB hg h2).1
 | .aug i o c,e,h=>sinv_aug (P:=fun e=>SS prog w Γ B e (evS F Γ.GV W (.aug i o c))) h fun x tp op v p h1 h2 h3=>ss_aug hB (hg.var h1).1 (hg.var h1).2.1 h2 (chk_e hΓ hF c hB hg h3).1
 | .app i c,e,h=>sinv_app (P:=fun e=>SS prog w Γ B e (evS F Γ.GV W (.app i c))) h fun x xp m ap v q p h1 h2 h3 h4 h5=>by
  rw [eq_of_beq h2]
  exact ss_app hB (hg.var h1).1 (hg.var h1).2.1 (hg.var h1).2.2 h4 h5 (not_interactive hB) (chk_e hΓ hF c hB hg h3).1
 | .expr c,e,h=>sinv_expr (P:=fun e=>SS prog w Γ B e (evS F Γ.GV W (.expr c))) h fun v p h1 h2=>ss_expr h2 (not_interactive hB) (chk_e hΓ hF c hB hg h1).1
 | .ret c,e,h=>sinv_ret (P:=fun e=>SS prog w Γ B e (evS F Γ.GV W (.ret c))) h fun v p h1=>ss_ret (chk_e hΓ hF c hB hg h1).1
 | .if_ c x y,e,h=>sinv_if (P:=fun e=>SS prog w Γ B e (evS F Γ.GV W (.if_ c x y))) h fun t b o p h1 h2 h3=>ss_if (chk_e hΓ hF c hB hg h1).2 (chk_ss hΓ hF hB hg hfn x h2) (chk_ss hΓ hF hB hg hfn y h3)
 | .while_ c x,e,h=>sinv_while (P:=fun e=>SS prog w Γ B e (evS F Γ.GV W (.while_ c x))) h fun t b p h1 h2=>ss_while hB (chk_e hΓ hF c hB hg h1).2 (chk_ss hΓ hF hB hg hfn x h2) W
 | .for_ i c y,e,h=>sinv_for (P:=fun e=>SS prog w Γ B e (evS F Γ.GV W (.for_ i c y))) h fun x xp v b p h1 h2 h3 h4 =>
  ss_for hB (set_name hB (hg.var h1).1 (hg.var h1).2.1) (fun _ _ q=>nomatch q) h4 (chk_e hΓ hF c hB hg h2).1 (chk_ss hΓ hF hB hg hfn y h3)
 | .forR i c y,e,h=>sinv_forR (P:=fun e=>SS prog w Γ B e (evS F Γ.GV W (.forR i c y))) h fun x xp r rp v q b p h1 h2 h3 h4 h5 =>
  ss_forR hΓ hB (hg.var h1).1 (hg.var h1).2.1 (hg.word h2).1 (hg.word h2).2.1 (hg.word h2).2.2 h5 (chk_e hΓ hF c hB hg h3).1 (chk_ss hΓ hF hB hg hfn y h4)
 | .raise_,e,h=>sinv_raise (P:=fun e=>SS prog w Γ B e (evS F Γ.GV W .raise_)) h fun x xp t k kp q p h1=>ss_raise hΓ hB (hg.word h1).1 (hg.word h1).2.1 (hg.word h1).2.2
 | .tryE c j v,e,h=>sinv_try0 (P:=fun e=>SS prog w Γ B e (evS F Γ.GV W (.tryE c j v))) h fun v' ap n np y yp k kk kp bp hp p h2 h3 h4 h5 h6 h7 =>
  ss_try0 hΓ hB h3 (not_interactive hB) (chk_e hΓ hF c hB hg h2).1 (hg.word h4).1 (hg.word h4).2.1 (hg.word h4).2.2 (hg.var h5).1 (hg.var h5).2.1 h6 (lit_short h7)
 | .brk,e,h=>sinv_brk (P:=fun e=>SS prog w Γ B e (evS F Γ.GV W .brk)) h fun p _=>ss_brk
theorem chk_ss (hΓ:Γ.Ok) (hF:FOk prog w Γ d F) (hB:B.Ok d) (hg:Gd Γ N B) (hfn:B.fenv.frame=some B.env.locals):∀ (l:List CS) {es:List Stmt},chkSs N es l=true→SSs prog w Γ B es (evSs F Γ.GV W l)
 | [],es,h=>onL0_k (P:=fun es=>SSs prog w Γ B es (evSs F Γ.GV W [])) (show onL0 es true=true from h) fun _=>sss_nil
 | c::t,es,h=>by
  by_cases hc:∃ i,c=.frz i
  ·obtain ⟨i,rfl⟩:=hc
   have h':(decide (i<N.vs.length) && chkSs N es t)=true:=h
   exact sss_frz' hB hfn (hg.vs ▸ of_decide_eq_true (aL h')) (chk_ss hΓ hF hB hg hfn t (aR h'))
  ·exact ss_split (P:=fun es=>SSs prog w Γ B es (evSs F Γ.GV W (c::t))) (fun i q=>hc ⟨i,q⟩) h fun e r h1 h2=>sss_cons (chk_s hΓ hF hB hg hfn c h1) (chk_ss hΓ hF hB hg hfn t h2)
end
end
end Mine
namespace Mine
open PySem PySem.W PyProof.Rows
structure DefOk (Γ:Ct) (x:Str) (vars:List Str) (k:Nat) (cs:List CS):Prop where
 there:∃ a o params body scope pm code doc,Γ.mg x=some (.ref a)∧Γ.Base.get? a=some o∧o.data=.func (Calls.docDef x params body scope pm code doc)∧Γ.Base.CodeRec code x ∧
  (∀ ws:List Value,ws.length=k→bindArgs (Calls.docDef x params body scope pm code doc) ⟨ws,[]⟩=pure ((vars.take k).zip ws)) ∧
  chkSs ⟨scope.names,vars,Γ.fs,Γ.gs⟩ body cs=true∧scope.isCoroutine=false∧scope.isGenerator=false∧scope.kind=.function∧(∀ x∈scope.names,x.2≠.cell) ∧
  (∀ y∈vars.take k,scope.names.lookup y=some .local)
 nodup:vars.Nodup
 le:k≤vars.length
theorem zip_sub:∀ (xs:List Str) (ws:List Value),List.Sublist ((xs.zip ws).map (·.1)) xs
 | [],_=>by simp
 | x::r,[]=>by simp
 | x::r,v::t=>by simpa using zip_sub r t
theorem zip_lookup {xs:List Str} {ws:List Value} (hn:xs.Nodup):∀ {i:Nat} {x:Str} {v:Value},xs[i]?=some x→ws[i]?=some v→((xs.zip ws).reverse).lookup x=some v:=by
 have key:∀ (l:List (Str × Value)),(l.map (·.1)).Nodup→∀ {x:Str} {v:Value},(x,v)∈l→l.lookup x=some v:=by
  intro l
  induction l with
  | nil=>intro _ x v h; cases h
  | cons p r ih =>
   intro hd x v h
   obtain ⟨a,b⟩:=p
   rw [List.map_cons,List.nodup_cons] at hd
   rw [List.lookup_cons]
   rcases List.mem_cons.1 h with e | h
   ·cases e; simp
   ·have:x≠a:=fun e=>hd.1 (by rw [← e]; exact List.mem_map.2 ⟨(x,v),h,rfl⟩)
    have hb:(x == a)=false:=by simpa using this
    rw [hb]; exact ih hd.2 h
 intro i x v h1 h2
 apply key
 ·rw [List.map_reverse]
  unfold List.Nodup
  rw [List.pairwise_reverse]
  have h3:((xs.zip ws).map (·.1)).Nodup:=hn.sublist (zip_sub xs ws)
  exact List.Pairwise.imp (fun h=>Ne.symm h) h3
 ·rw [List.mem_reverse]
  have:(xs.zip ws)[i]?=some (x,v):=by
   rw [List.getElem?_zip_eq_some]; exact ⟨h1,h2⟩
  exact List.mem_of_getElem? this
theorem startS_get {n k:Nat} {args:List PV} (h:args.length=k) (hk:k≤n) (i:Nat):getS (startS n k args) i=match args[i]? with | some p=>.val p | none=>.unset:=by
 have e:∀ (l:List Slot) (i:Nat),getS l i=l[i]?.getD .unset:=by
  intro l
  induction l with
  | nil=>intro i; simp [getS]
  | cons a r ih=>intro i; cases i <;> simp [getS,ih]
 rw [e]
 unfold startS
 by_cases hi:i<args.length
 ·rw [List.getElem?_append_left (by simpa using hi)]
  simp [hi]
 ·rw [List.getElem?_append_right (by simpa using Nat.le_of_not_lt hi),List.getElem?_eq_none (Nat.le_of_not_lt hi)]
  simp only [List.getElem?_replicate]
  split <;> rfl
theorem frames_low {H h:Heap}:∀ {l:List Env},h.FunFrames H l→∀ {v:Env} {L:Addr},v∈l→v.frame=some L→L<h.objs.size
 | [],_,_,_,hv,_=>by cases hv
 | u::r,⟨_,⟨L',o',hf',_,ho',_⟩,hr'⟩,v,L,hv,hL=>by
  rcases List.mem_cons.1 hv with rfl | hv
  ·rw [hL] at hf'; cases hf'; exact Heap.lt_size ho'
  ·exact frames_low hr' hv hL
section
variable {prog:Program} {w:World} {Γ:Ct} {d:Nat} {F:Nat→List PV→Res PV} {W:Nat}
theorem con_code (hΓ:Γ.Ok) (hF:∀ f x,Γ.fs[f]?=some x→FnAt Γ x∧∀ args,Con prog w Γ d x args (F f args)) {x:Str} {vars:List Str} {k:Nat} {cs:List CS} (hd:DefOk Γ x vars k cs) (args:List PV) :
  Con prog w Γ (d+1) x args (if args.length=k then outS (evSs F Γ.GV W cs (startS vars.length k args)) else .stuck):=by
 intro a A H l s ws Q E hm hpre hr hp
 by_cases hk:args.length=k
 ·rw [if_pos hk] at hp
  obtain ⟨a',o,params,body,scope,pm,code,doc,hm',ho,hdat,hcr,hbind,hchk,hco,hgen,hkd,hcell,hloc⟩:=hd.there
  rw [hm] at hm'; obtain rfl:a=a':=by simpa using hm'
  have hbs:Γ.Base.StaysIn s.heap:=stays_trans hpre.base hpre.stays
  have hlen:ws.length=k:=by rw [hr.length,hk]
  refine wpAny_call (call_plain (name:=x) (params:=params) (body:=body) (scope:=scope) (pm:=pm) (cd:=code) (doc:=doc) (o:=o) (binds:=(vars.take k).zip ws) (by have:=hpre.depth; lia) (hbs _ _ ho) hdat (hΓ.nolimit.keeps hbs) (hcr.keeps hbs) (hbind ws hlen)
   (fun y hy=>hloc y.1 (List.of_mem_zip hy).1) (fun h₁ Fr=>?_) hco hgen hkd hcell)
  generalize henv:envOf x scope s.heap.objs.size a code=env
  have e1:env.scope=scope:=by rw [← henv]; rfl
  have e2:env.locals=s.heap.objs.size:=by rw [← henv]; rfl
  have e3:env.frame=some s.heap.objs.size:=by rw [← henv]; rfl
  have hnone:s.heap.get? s.heap.objs.size=none:=none_of_size (Nat.le_refl _)
  have hHn:H.get? s.heap.objs.size=none:=none_of_stays hpre.stays hnone
  let B:Bl:={ env:=env,fenv:=env,outer:=l,A:=A.deeper env,N₀:=s.heap.objs.size,vs:=vars }
  have hB:B.Ok d:=by
   refine ⟨by show env.scope.kind=_; rw [e1]; exact hkd,by show env.globals=_; rw [← henv]; rfl,by show env.builtins=_; rw [← henv]; rfl,rfl,?_,hpre.hand,?_,?_,hd.nodup,?_⟩
   ·show A.frames.map (env::·)=some (env::l); rw [hpre.stack]; rfl
   ·show A.depth+1+d≤_; have:=hpre.depth; lia
   ·show A.units+3+8 * d+100≤_; have:=hpre.units; lia
   ·intro v hv L hL
    exact frames_low hpre.frames hv hL
  have hst:St Γ B H (startS vars.length k args) { s with heap:=h₁,toks:=s.toks+((vars.take k).zip ws).length }:=by
   have hkeep:s.heap.StaysIn h₁:=Fr.keep
   have hff1:h₁.FunFrames H l:=hpre.frames.of_keeps fun b o ho _=>⟨o,hkeep b o ho,rfl⟩
   obtain ⟨ol,es,ep,hol,hdl,_⟩:=id Fr.ns
   refine ⟨hpre.base,stays_trans hpre.stays hkeep,⟨?_,⟨s.heap.objs.size,ol,e3,hHn,hol,fun vs q=>by rw [hdl] at q; cases q⟩,hff1⟩,_,fun _=>0,by show h₁.Ns env.locals _; rw [e2]; exact Fr.ns,by show H.get? env.locals=none; rw [e2]; exact hHn,by show s.heap.objs.size≤env.locals; rw [e2]; exact Nat.le_refl _,?_,?_⟩
   ·show env.scope.kind≠.module; rw [e1,hkd]; decide
   ·intro i y hy
    rw [startS_get hk hd.le]
    cases hi:args[i]? with
    | none=>trivial
    | some p =>
     obtain ⟨v,hv,hrv⟩:=hr.get hi
     refine ⟨v,?_,hrv⟩
     have hik:i<k:=by rw [← hk]; exact (List.getElem?_eq_some_iff.1 hi).1
     exact zip_lookup (hd.nodup.sublist (List.take_sublist _ _)) (by rw [List.getElem?_take,if_pos hik]; exact hy) hv
   ·intro i j l1 l2 _ h1
    rw [startS_get hk hd.le] at h1
    split at h1 <;> cases h1
  have key:=chk_ss (W:=W) hΓ hF hB (N:=⟨scope.names,vars,Γ.fs,Γ.gs⟩) ⟨by show scope.names=env.scope.names; rw [e1],rfl,rfl,rfl⟩ (by show env.frame=some env.locals; rw [e3,e2]) cs hchk
  refine key H _ _ _ _ hst ?_
  have toExt:∀ {H':Heap} {s':Shared},ExtS s.heap.objs.size H { s with heap:=h₁,toks:=s.toks+((vars.take k).zip ws).length } H' s'→Ext H s H' s':=fun {H' s'} ex =>
   ⟨ex.grow,fun b o hb nf hn=>ex.old b o (Heap.lt_size hb) (Fr.keep b o hb) nf hn,ex.stays,fun b o hb nf=>ex.ups b o (Heap.lt_size hb) (Fr.keep b o hb) nf,ex.same⟩
  cases hev:evSs F Γ.GV W cs (startS vars.length k args) with
  | stuck=>rw [hev] at hp; exact hp.elim
  | exc =>
   rw [hev] at hp
   intro e s' H' ex fl
   refine leave_flown (A:=A.deeper env) (by show A.frames.map (env::·)=some (env::l); rw [hpre.stack]; rfl) e3 fl fun h' a0 fw u=>?_
   exact hp e { s' with heap:=h' } H' ⟨(toExt ex).grow,(toExt ex).old,fw.1,(toExt ex).ups.trans u,(toExt ex).same⟩ (.inl ⟨a0,fw⟩)
  | ok q =>
   obtain ⟨fl,ρ'⟩:=q
   rw [hev] at hp
   intro f s' H' ex _ hfr
   cases fl with
   | next=>cases hfr; exact hp.ok (toExt ex) (by rw [Rep])
   | brk=>exact hp.elim
   | ret p=>obtain ⟨v,rfl,hrv⟩:=hfr; exact hp.ok (toExt ex) hrv
 ·rw [if_neg hk] at hp; exact hp.elim
end
end Mine
namespace Mine
open PySem PySem.W PyProof.Rows
section
variable {prog:Program} {w:World} {Γ:Ct}
theorem con_all (hΓ:Γ.Ok) (T:Nat→Option CF) (W:Nat) (hfn:∀ (f:Nat) (x:Str),Γ.fs[f]?=some x→FnAt Γ x)
  (hT:∀ (f:Nat) (x:Str),Γ.fs[f]?=some x→match T f with
   | some (.code vars k cs)=>DefOk Γ x vars k cs
   | some (.native g)=>∀ d args,Con prog w Γ (d+1) x args (g args)
   | none=>True) :
  ∀ (d f:Nat) (x:Str),Γ.fs[f]?=some x→∀ args,Con prog w Γ d x args (den T Γ.GV W d f args)
 | 0,f,x,hx,args=>by
  intro a A H l s ws Q E hm hpre hr hp
  rw [den] at hp; exact hp.elim
 | d+1,f,x,hx,args=>by
  have ih:=con_all hΓ T W hfn hT d
  have h:=hT f x hx
  rw [den]
  cases hc:T f with
  | none=>intro a A H l s ws Q E hm hpre hr hp; exact hp.elim
  | some c =>
   rw [hc] at h
   cases c with
   | code vars k cs=>exact con_code hΓ (fun f x hx=>⟨hfn f x hx,ih f x hx⟩) h args
   | native g=>exact h d args
end
end Mine
namespace Mine
inductive PR (α:Type) where
 | none
 | err
 | stuck
 | ok (a:α) (r:List Int)
 deriving DecidableEq
noncomputable def PR.bind {α β:Type}:PR α→(α→List Int→PR β)→PR β
 | .none,_=>.none
 | .err,_=>.err
 | .stuck,_=>.stuck
 | .ok a r,f=>f a r
noncomputable def isDig (x:Int):Bool:=decide (48≤x) && decide (x≤57)
noncomputable def isLet (x:Int):Bool:=(decide (65≤x) && decide (x≤90)) || (decide (97≤x) && decide (x≤122))
noncomputable def isTagC (x:Int):Bool:=isLet x || isDig x || x == 45
noncomputable def isAtomC (x:Int):Bool:=!(decide (x<33) || decide (126<x)) && !decide (x∈[34,37,40,41,42,92,93,123])
noncomputable def upC (x:Int):Int:=if 97≤x∧x≤122 then x - 32 else x
noncomputable def up (l:List Int):List Int:=l.map upC
noncomputable def clamp (n:Int):Int:=if 4294967296≤n then 4294967296 else n
noncomputable def scanN (p:Int→Bool):Nat→List Int→Option (List Int)
 | 0,_=>none
 | _+1,[]=>some []
 | n+1,c::t=>if p c then scanN p n t else some (c::t)
noncomputable def ahead (x r:List Int):List Int:=x.take (x.length - r.length)
noncomputable def runP (W:Nat) (p:Int→Bool) (x:List Int):PR (List Int) :=
 match scanN p W x with
 | none=>.stuck
 | some []=>.none
 | some (c::t)=>if (c::t).length<x.length then .ok (ahead x (c::t)) (c::t) else .err
noncomputable def crlfP (x:List Int):PR Unit :=
 if x.take 2=[13,10].take (x.take 2).length then (if (x.take 2).length<2 then .none else .ok () (x.drop 2)) else .err
noncomputable def strV (l:List Int):PV:=.tuple [.str [115,116,114,105,110,103],.bytes l]
noncomputable def listV (l:List PV):PV:=.tuple [.str [108,105,115,116],.list l]
noncomputable def atomV (l:List Int):PV:=.tuple [.str [97,116,111,109],.bytes l]
noncomputable def numV (n:Int):PV:=.tuple [.str [110,117,109,98,101,114],.int n]
noncomputable def nilV:PV:=.tuple [.str [110,105,108]]
noncomputable def quoN:Nat→List Int→List Int→PR PV
 | 0,_,_=>.stuck
 | _+1,_,[]=>.none
 | n+1,acc,c::t =>
  if c=34 then .ok (strV acc) t
  else if c=92 then match t with
   | []=>.none
   | y::u=>if y=34∨y=92 then quoN n (acc++[y]) u else .err
  else if (0<c∧c<128)∧c≠10∧c≠13 then quoN n (acc++[c]) t else .err
noncomputable def litN:Nat→Int→List Int→Option (Int × List Int)
 | 0,_,_=>none
 | _+1,v,[]=>some (v,[])
 | n+1,v,c::t=>if isDig c then litN n (clamp (v * 10+(c - 48))) t else some (v,c::t)
noncomputable def litP (W:Nat) (x:List Int):PR PV :=
 match litN W 0 x with
 | none=>.stuck
 | some (n,r) =>
  if n<4294967296 then
   if r.take 3=[125,13,10].take (r.take 3).length then
    if r.length<x.length∨(r.take 3).length=0 then
     if (0:Int)∈(r.drop 3).take n.toNat then .err
     else if (r.take 3).length<3∨(((r.drop 3).take n.toNat).length:Int)<n then .none
     else .ok (strV ((r.drop 3).take n.toNat)) (r.drop (3+n.toNat))
    else .err
   else .err
  else .err
noncomputable def allDig (l:List Int):Bool:=!l.isEmpty && l.all isDig
noncomputable def digVal (l:List Int):Int:=l.foldl (fun n x=>clamp (n * 10+(x - 48))) 0
noncomputable def skip92 (x:List Int):List Int:=match x with | 92::t=>t | _=>x
noncomputable def wordEnd (w r:List Int):PR PV :=
 if w≠[]∧w≠[92] then
  if w.length=3∧up w=[78,73,76] then .ok nilV r
  else if allDig w then (if digVal w<4294967296 then .ok (numV (digVal w)) r else .err)
  else .ok (atomV w) r
 else .err
noncomputable def wordP (W:Nat) (x:List Int):PR PV :=
 match scanN isAtomC W (skip92 x) with
 | none=>.stuck
 | some []=>.none
 | some (c::t)=>wordEnd (ahead x (c::t)) (c::t)
noncomputable def itemsN (v:List Int→PR PV):Nat→List PV→List Int→PR PV
 | 0,_,_=>.stuck
 | n+1,acc,x=>(v x).bind fun a r=>match r with
  | []=>.none
  | c::t=>if c=41 then .ok (listV (acc++[a])) t else if c=32 then itemsN v n (acc++[a]) t else .err
noncomputable def lstP (W:Nat) (v:List Int→PR PV) (x:List Int):PR PV :=
 match x with
 | []=>.none
 | c::t=>if c=41 then .ok (listV []) t else itemsN v W [] (c::t)
noncomputable def valP (W:Nat):Nat→List Int→PR PV
 | dep,x=>match x with
  | []=>.none
  | c::t =>
   if c=40 then (match dep with | 0=>.err | dep+1=>lstP W (valP W dep) t)
   else if c=34 then quoN W [] t
   else if c=123 then litP W t
   else wordP W (c::t)
noncomputable def valsN (v:List Int→PR PV):Nat→List PV→List Int→PR (List PV)
 | 0,_,_=>.stuck
 | _+1,_,[]=>.none
 | n+1,acc,c::t=>if c=32 then (v t).bind fun a r=>valsN v n (acc++[a]) r else (crlfP (c::t)).bind fun _ r=>.ok acc r
noncomputable def cmdP (W dep:Nat) (x:List Int):PR PV :=
 (runP W isTagC x).bind fun tag r=>match r with
  | []=>.none
  | c::t=>if c=32 then (runP W isLet t).bind fun name r'=>(valsN (valP W dep) W [] r').bind fun vs r''=>.ok (.tuple [.bytes tag,.bytes (up name),.list vs]) r'' else .err
noncomputable def textP (W:Nat) (x:List Int):PR (List Int) :=
 match scanN (fun c=>decide (c≠10) && decide (c≠13) && decide (c≠0)) W x with
 | none=>.stuck
 | some []=>(match x with
  | []=>.none
  | c::_=>if c=91 then .err else .none)
 | some (c::t) =>
  if c=13 then
   match ahead x (c::t) with
   | []=>.err
   | a::u=>if a=91 then .err else (crlfP (c::t)).bind fun _ r=>.ok (a::u) r
  else .err
noncomputable def statuses:List (List Int):=[[79,75],[78,79],[66,65,68],[66,89,69]]
noncomputable def statP (x:List Int):Option (List Int):=statuses.find? fun w=>decide ((x.take (w.length+1)).length=w.length+1) && decide (up (x.take (w.length+1))=w++[32])
noncomputable def codeN (v:List Int→PR PV):Nat→List PV→List Int→PR (List PV)
 | 0,_,_=>.stuck
 | n+1,acc,x=>(v x).bind fun a r=>match r with
  | []=>.none
  | c::t=>if c=93 then .ok (acc++[a]) t else if c=32 then codeN v n (acc++[a]) t else .err
noncomputable def statArg (l:List PV):Bool:=match l with
 | []=>false
 | v::r=>r.isEmpty && @PV.casesOn (fun _=>Bool) v false (fun _=>false) (fun _=>false) (fun _=>false) (fun _=>false) (fun w=>decide (up w∈statuses)) (fun _=>false) (fun _=>false) false
noncomputable def statTup (l:List PV):Bool:=match l with
 | []=>false
 | v::r=>@PV.casesOn (fun _=>Bool) v false (fun _=>false) (fun _=>false) (fun _=>false) (fun s=>s == [97,116,111,109] && statArg r) (fun _=>false) (fun _=>false) (fun _=>false) false
noncomputable def isStat (v:PV):Bool:=@PV.casesOn (fun _=>Bool) v false (fun _=>false) (fun _=>false) (fun _=>false) (fun _=>false) (fun _=>false) statTup (fun _=>false) false
noncomputable def dataN (v:List Int→PR PV):Nat→List PV→List Int→PR (List PV)
 | 0,_,_=>.stuck
 | n+1,acc,x=>(v x).bind fun a r =>
  if acc.isEmpty∧isStat a=true then .err
  else match r with
   | []=>.none
   | c::t=>if c=32 then dataN v n (acc++[a]) t else (crlfP (c::t)).bind fun _ r=>.ok (acc++[a]) r
noncomputable def finP (W:Nat) (tag w:List Int) (code:PV) (z:List Int):PR PV :=
 (textP W z).bind fun t r=>.ok (.tuple [.str [115,116,97,116,117,115],.bytes tag,.bytes w,code,.bytes t]) r
noncomputable def codeEnd (W:Nat) (tag w:List Int) (vs:List PV) (r:List Int):PR PV:=match r with
 | []=>.none
 | c::u=>if c=32 then finP W tag w (.list vs) u else .err
noncomputable def statRest (W dep:Nat) (tag w:List Int) (y:List Int):PR PV:=match y with
 | []=>.none
 | c::t=>if c=91 then (codeN (valP W dep) W [] t).bind (codeEnd W tag w) else finP W tag w .none (c::t)
noncomputable def restP (W dep:Nat) (tag:List Int) (x:List Int):PR PV :=
 match statP x with
 | some w=>statRest W dep tag w (x.drop (w.length+1))
 | none =>
  if tag≠[] then
   (if x.length≤4∧statuses.any (fun w=>decide ((w++[32]).take (up x).length=up x))=true then .none else .err)
  else (dataN (valP W dep) W [] x).bind fun vs r=>.ok (.tuple [.str [100,97,116,97],.list vs]) r
noncomputable def goP (W dep:Nat) (tag r:List Int):PR PV:=match r with
 | []=>.none
 | c::t=>if c=32 then restP W dep tag t else .err
noncomputable def contP (W:Nat) (t:List Int):PR PV:=match t with
 | []=>.none
 | b::u=>if b=32 then (textP W u).bind fun tx r=>.ok (.tuple [.str [99,111,110,116,105,110,117,101],.bytes tx]) r else .err
noncomputable def lineP (W dep:Nat) (x:List Int):PR PV :=
 match x with
 | []=>(runP W isTagC x).bind (goP W dep)
 | c::t =>
  if c=43 then contP W t
  else if c=42 then goP W dep [] t
  else (runP W isTagC (c::t)).bind (goP W dep)
end Mine
namespace Mine
theorem den_code {T:Nat→Option CF} {G:Nat→Res PV} {W d f:Nat} {vs:List PySem.Str} {k:Nat} {body:List CS} {args:List PV} (h:T f=some (.code vs k body)) (hk:args.length=k) :
  den T G W (d+1) f args=outS (evSs (den T G W d) G W body (startS vs.length k args)):=by
 rw [den,h]; simp only [hk,if_true]
noncomputable def ofPR (l:List Int):PR PV→Res PV
 | .none=>.ok .none
 | .err=>.exc
 | .stuck=>.stuck
 | .ok v r=>.ok (.tuple [v,.int ((l.length:Int) - (r.length:Int))])
theorem b_ok {α β:Type} (a:α) (f:α→Res β):(Res.ok a).bind f=f a:=rfl
theorem b_exc {α β:Type} (f:α→Res β):(Res.exc:Res α).bind f=.exc:=rfl
theorem b_stuck {α β:Type} (f:α→Res β):(Res.stuck:Res α).bind f=.stuck:=rfl
theorem c_eqi (a b:Int):cmpP .eq (.int a) (.int b)=.ok (a == b):=rfl
theorem c_nei (a b:Int):cmpP .ne (.int a) (.int b)=.ok (!(a == b)):=rfl
theorem c_lti (a b:Int):cmpP .lt (.int a) (.int b)=.ok (decide (a<b)):=rfl
theorem c_lei (a b:Int):cmpP .le (.int a) (.int b)=.ok (decide (a≤b)):=rfl
theorem c_gti (a b:Int):cmpP .gt (.int a) (.int b)=.ok (decide (b<a)):=rfl
theorem c_gei (a b:Int):cmpP .ge (.int a) (.int b)=.ok (decide (b≤a)):=rfl
theorem c_eqb (a b:List Int):cmpP .eq (.bytes a) (.bytes b)=.ok (a == b):=rfl
theorem c_neb (a b:List Int):cmpP .ne (.bytes a) (.bytes b)=.ok (!(a == b)):=rfl
theorem c_eqs (a b:List Nat):cmpP .eq (.str a) (.str b)=.ok (a == b):=rfl
theorem c_nes (a b:List Nat):cmpP .ne (.str a) (.str b)=.ok (!(a == b)):=rfl
theorem c_is (a:PV):cmpP .is_ a .none=.ok (isNone a):=rfl
theorem c_isNot (a:PV):cmpP .isNot a .none=.ok (!isNone a):=rfl
theorem c_in (x:PV) (l:List PV):cmpP .in_ x (.tuple l)=ofO (memD 12 x l):=rfl
theorem c_notIn (x:PV) (l:List PV):cmpP .notIn x (.tuple l)=ofO ((memD 12 x l).map (!·)):=rfl
theorem c_notInB (n:Int) (l:List Int):cmpP .notIn (.int n) (.bytes l)=if 0≤n∧n<256 then .ok (!decide (n∈l)) else .stuck:=rfl
theorem t_none:truP .none=.ok false:=rfl
theorem t_bool (b:Bool):truP (.bool b)=.ok b:=rfl
theorem t_int (i:Int):truP (.int i)=.ok (i != 0):=rfl
theorem o_addi (a b:Int):binP .add (.int a) (.int b)=.ok (.int (a+b)):=rfl
theorem o_subi (a b:Int):binP .sub (.int a) (.int b)=.ok (.int (a - b)):=rfl
theorem o_muli (a b:Int):binP .mul (.int a) (.int b)=if a.natAbs≤4294967296∧b.natAbs≤4294967296 then .ok (.int (a * b)) else .stuck:=rfl
theorem o_modi (a b:Int):binP .mod (.int a) (.int b)=if 0<b then .ok (.int (a % b)) else .stuck:=rfl
theorem u_addi (a b:Int):augP .add (.int a) (.int b)=.ok (.int (a+b)):=rfl
theorem l_b (l:List Int):lenP (.bytes l)=.ok (.int l.length):=rfl
theorem l_t (l:List PV):lenP (.tuple l)=.ok (.int l.length):=rfl
theorem l_l (l:List PV):lenP (.list l)=.ok (.int l.length):=rfl
theorem i_b (l:List Int) (i:Int):idxP (.bytes l) (.int i)=if 0≤i then ofI (l[i.toNat]?.map PV.int) else .stuck:=rfl
theorem i_t0 (a:PV) (l:List PV):idxP (.tuple (a::l)) (.int 0)=.ok a:=rfl
theorem i_t1 (a b:PV) (l:List PV):idxP (.tuple (a::b::l)) (.int 1)=.ok b:=rfl
theorem e_none:endP none=.ok none:=rfl
theorem e_some (i:Int):endP (some (.int i))=if 0≤i then .ok (some i) else .stuck:=rfl
theorem s_b (l:List Int) (lo hi:Option Int):slcP (.bytes l) lo hi=.ok (.bytes (cutL l lo hi)):=rfl
theorem r_ret (v:PV) (ρ:List Slot):outS (.ok (.ret v,ρ))=.ok v:=rfl
theorem r_next (ρ:List Slot):outS (.ok (.next,ρ))=.ok .none:=rfl
theorem r_exc:outS .exc=.exc:=rfl
theorem r_stuck:outS .stuck=.stuck:=rfl
theorem it_b (l:List Int):itemsP (.bytes l)=.ok (l.map PV.int):=rfl
theorem it_t (l:List PV):itemsP (.tuple l)=.ok l:=rfl
theorem it_l (l:List PV):itemsP (.list l)=.ok l:=rfl
theorem f_nil (set:List Slot→PV→Res (List Slot)) (b:List Slot→Res (Fl × List Slot)) (ρ:List Slot):forN set b [] ρ=.ok (.next,ρ):=rfl
theorem f_cons (set:List Slot→PV→Res (List Slot)) (b:List Slot→Res (Fl × List Slot)) (v:PV) (r:List PV) (ρ:List Slot):forN set b (v::r) ρ=(set ρ v).bind fun ρ' =>
   match b ρ' with
   | .ok (.next,ρ'')=>forN set b r ρ''
   | .ok (.brk,ρ'')=>.ok (.next,ρ'')
   | .ok (.ret v,ρ'')=>.ok (.ret v,ρ'')
   | .exc=>.exc
   | .stuck=>.stuck:=rfl
theorem w_succ (t:List Slot→Res Bool) (b:List Slot→Res (Fl × List Slot)) (n:Nat) (ρ:List Slot):whileN t b (n+1) ρ=(t ρ).bind fun c=>if c then
   match b ρ with
   | .ok (.next,ρ')=>whileN t b n ρ'
   | .ok (.brk,ρ')=>.ok (.next,ρ')
   | .ok (.ret v,ρ')=>.ok (.ret v,ρ')
   | .exc=>.exc
   | .stuck=>.stuck
  else .ok (.next,ρ):=rfl
section
variable {F:Nat→List PV→Res PV} {G:Nat→Res PV} {ρ:List Slot} {i:Nat} {v:PV} {l:List CE} {a b c e:CE} {o p:COp} {q:BOp}
theorem xlit:evE F G (.lit v) ρ=.ok v:=rfl
theorem xneg:evE F G (.neg i) ρ=.ok (.int (-(i:Int))):=rfl
theorem xvar:evE F G (.var i) ρ=match getS ρ i with
  | .val v=>.ok v
  | _=>.stuck:=rfl
theorem xglob:evE F G (.glob i) ρ=G i:=rfl
theorem xsf {s:List Nat} {x:UInt64}:evE F G (.strFlt s x) ρ=.ok (.tuple [.str s,.flt x]):=rfl
theorem xtup:evE F G (.tup l) ρ=(evEs F G l ρ).bind fun vs=>if vs.length≤lim then .ok (.tuple vs) else .stuck:=rfl
theorem xlst:evE F G (.lst l) ρ=(evEs F G l ρ).bind fun vs=>if vs.length≤lim then .ok (.list vs) else .stuck:=rfl
theorem xbin:evE F G (.bin q a b) ρ=(evE F G a ρ).bind fun x=>(evE F G b ρ).bind fun y=>binP q x y:=rfl
theorem xcmp:evE F G (.cmp o a b) ρ=(evE F G a ρ).bind fun x=>(evE F G b ρ).bind fun y=>(cmpP o x y).bind fun r=>.ok (.bool r):=rfl
theorem xcmp2:evE F G (.cmp2 o p a b c) ρ=(evE F G a ρ).bind fun x=>(evE F G b ρ).bind fun y=>(cmpP o x y).bind fun r =>
   if r then (evE F G c ρ).bind fun z=>(cmpP p y z).bind fun q=>.ok (.bool q) else .ok (.bool false):=rfl
theorem xand:evE F G (.and_ l) ρ=evAnd F G l ρ:=rfl
theorem xor:evE F G (.or_ l) ρ=evOr F G l ρ:=rfl
theorem xnot:evE F G (.not_ a) ρ=(evE F G a ρ).bind fun x=>(truP x).bind fun b=>.ok (.bool (!b)):=rfl
theorem xite:evE F G (.ite c a b) ρ=(evE F G c ρ).bind fun x=>(truP x).bind fun t=>if t then evE F G a ρ else evE F G b ρ:=rfl
theorem xidx:evE F G (.idx a b) ρ=(evE F G a ρ).bind fun x=>(evE F G b ρ).bind fun y=>idxP x y:=rfl
theorem xslc {lo hi:Option CE}:evE F G (.slc a lo hi) ρ=(evE F G a ρ).bind fun x=>(evO F G lo ρ).bind fun l=>(evO F G hi ρ).bind fun h =>
   (endP l).bind fun l'=>(endP h).bind fun h'=>slcP x l' h':=rfl
theorem xcall:evE F G (.call i l) ρ=(evEs F G l ρ).bind fun vs=>F i vs:=rfl
theorem xlen:evE F G (.len (.var i)) ρ=match getS ρ i with
  | .val v=>lenP v
  | .own l=>.ok (.int l.length)
  | .unset=>.stuck:=rfl
theorem xisin {t:List Ty}:evE F G (.isin a t) ρ=(evE F G a ρ).bind fun x=>if isBool x then .stuck else .ok (.bool (t.any (isP x))):=rfl
theorem xisin1 {t:Ty}:evE F G (.isin1 a t) ρ=(evE F G a ρ).bind fun x=>if isBool x then .stuck else .ok (.bool (isP x t)):=rfl
theorem xmkB:evE F G (.mkBytes a) ρ=(evE F G a ρ).bind bytesP:=rfl
theorem xtyp {t:Ty}:evE F G (.typeIs a t) ρ=(evE F G a ρ).bind fun x=>.ok (.bool (isP x t)):=rfl
theorem xjoin:evE F G (.join a b) ρ=(evE F G a ρ).bind fun x=>(evE F G b ρ).bind fun y=>joinP x y:=rfl
theorem xcomp:evE F G (.comp a b none) ρ=(evE F G b ρ).bind fun x=>(itemsP x).bind fun l =>
   (mapR (fun v=>evE F G a [.val v]) l).bind fun vs=>.ok (.list vs):=rfl
theorem xO:evO F G none ρ=.ok none:=rfl
theorem xO1:evO F G (some e) ρ=(evE F G e ρ).bind fun v=>.ok (some v):=rfl
theorem xE:evEs F G [] ρ=.ok []:=rfl
theorem xE1:evEs F G (e::l) ρ=(evE F G e ρ).bind fun v=>(evEs F G l ρ).bind fun vs=>.ok (v::vs):=rfl
theorem xA1:evAnd F G [a] ρ=evE F G a ρ:=rfl
theorem xA2:evAnd F G (a::b::l) ρ=(evE F G a ρ).bind fun x=>(truP x).bind fun t=>if t then evAnd F G (b::l) ρ else .ok x:=rfl
theorem xR1:evOr F G [a] ρ=evE F G a ρ:=rfl
theorem xR2:evOr F G (a::b::l) ρ=(evE F G a ρ).bind fun x=>(truP x).bind fun t=>if t then .ok x else evOr F G (b::l) ρ:=rfl
theorem xg0 {s:Slot} {r:List Slot}:getS (s::r) 0=s:=rfl
theorem xg1 {s:Slot} {r:List Slot} {n:Nat}:getS (s::r) (n+1)=getS r n:=rfl
theorem xp0 {s t:Slot} {r:List Slot}:putS (s::r) 0 t=t::r:=rfl
theorem xp1 {s t:Slot} {r:List Slot} {n:Nat}:putS (s::r) (n+1) t=s::putS r n t:=rfl
variable {W:Nat} {s:CS} {r:List CS} {ts us:List CS}
theorem xfrz:evS F G W (.frz i) ρ=match getS ρ i with
  | .own l=>.ok (.next,putS ρ i (.val (.list l)))
  | _=>.ok (.next,ρ):=rfl
theorem xset:evS F G W (.assign i e) ρ=(evE F G e ρ).bind fun v=>.ok (.next,putS ρ i (.val v)):=rfl
theorem xown:evS F G W (.own i l) ρ=(evEs F G l ρ).bind fun vs=>if vs.length≤lim then .ok (.next,putS ρ i (.own vs)) else .stuck:=rfl
theorem xsetT {is:List Nat}:evS F G W (.assignT false is e) ρ=(evE F G e ρ).bind fun v=>(unpackP is.length v).bind fun vs=>.ok (.next,putsS ρ is vs):=rfl
theorem xaug:evS F G W (.aug i q e) ρ=match getS ρ i with
  | .val x=>(evE F G e ρ).bind fun y=>(augP q x y).bind fun v=>.ok (.next,putS ρ i (.val v))
  | _=>.stuck:=rfl
theorem xapp:evS F G W (.app i e) ρ=match getS ρ i with
  | .own l=>(evE F G e ρ).bind fun v=>if l.length<lim then .ok (.next,putS ρ i (.own (l++[v]))) else .stuck
  | _=>.stuck:=rfl
theorem xexpr:evS F G W (.expr e) ρ=(evE F G e ρ).bind fun v=>if isNone v then .ok (.next,ρ) else .stuck:=rfl
theorem xret:evS F G W (.ret e) ρ=(evE F G e ρ).bind fun v=>.ok (.ret v,ρ):=rfl
theorem xif:evS F G W (.if_ c ts us) ρ=(evB F G c ρ).bind fun t=>if t then evSs F G W ts ρ else evSs F G W us ρ:=rfl
theorem xwhile:evS F G W (.while_ c ts) ρ=whileN (fun ρ=>evB F G c ρ) (fun ρ=>evSs F G W ts ρ) W ρ:=rfl
theorem xfor:evS F G W (.for_ i e ts) ρ=(evE F G e ρ).bind fun x=>(itemsP x).bind fun l =>
   forN (fun ρ v=>.ok (putS ρ i (.val v))) (fun ρ=>evSs F G W ts ρ) l ρ:=rfl
theorem xraise:evS F G W .raise_ ρ=.exc:=rfl
theorem xbrk:evS F G W .brk ρ=.ok (.brk,ρ):=rfl
theorem xnil:evSs F G W [] ρ=.ok (.next,ρ):=rfl
theorem xSs:evSs F G W (s::r) ρ=match evS F G W s ρ with
  | .ok (.next,ρ')=>evSs F G W r ρ'
  | .ok (f,ρ')=>.ok (f,ρ')
  | .exc=>.exc
  | .stuck=>.stuck:=rfl
theorem xB:evB F G c ρ=(evE F G c ρ).bind truP:=rfl
end
theorem len_c {α:Type} (a:α) (l:List α):(a::l).length=l.length+1:=rfl
theorem len_n {α:Type}:([]:List α).length=0:=rfl
section
variable {F:Nat→List PV→Res PV} {G:Nat→Res PV} {W:Nat} {s:CS} {r:List CS} {ρ ρ':List Slot}
theorem run_next (h:evS F G W s ρ=.ok (.next,ρ')):evSs F G W (s::r) ρ=evSs F G W r ρ':=by rw [xSs,h]
theorem run_ret {v:PV} (h:evS F G W s ρ=.ok (.ret v,ρ')):evSs F G W (s::r) ρ=.ok (.ret v,ρ'):=by rw [xSs,h]
theorem run_exc (h:evS F G W s ρ=.exc):evSs F G W (s::r) ρ=.exc:=by rw [xSs,h]
theorem run_stuck (h:evS F G W s ρ=.stuck):evSs F G W (s::r) ρ=.stuck:=by rw [xSs,h]
theorem run_nil:evSs F G W [] ρ=.ok (.next,ρ):=rfl
theorem if_yes {c:CE} {a b:List CS} (h:evB F G c ρ=.ok true):evS F G W (.if_ c a b) ρ=evSs F G W a ρ:=by rw [xif,h]; rfl
theorem if_no {c:CE} {a b:List CS} (h:evB F G c ρ=.ok false):evS F G W (.if_ c a b) ρ=evSs F G W b ρ:=by rw [xif,h]; rfl
theorem to_assign {i:Nat} {e:CE} {v:PV} (h:evE F G e ρ=.ok v):evS F G W (.assign i e) ρ=.ok (.next,putS ρ i (.val v)):=by rw [xset,h]; rfl
theorem sx_stuck {i:Nat} {e:CE} (h:evE F G e ρ=.stuck):evS F G W (.assign i e) ρ=.stuck:=by rw [xset,h]; rfl
theorem sx_exc {i:Nat} {e:CE} (h:evE F G e ρ=.exc):evS F G W (.assign i e) ρ=.exc:=by rw [xset,h]; rfl
end
theorem memD_ints (n:Nat) (x:Int):∀ l:List Int,memD n (.int x) (l.map PV.int)=some (decide (x∈l))
 | []=>rfl
 | a::r=>by
  rw [List.map_cons,memD,memD_ints n x r]
  have:eqD n (.int a) (.int x)=some (a == x):=by cases n <;> rfl
  rw [this]
  simp only
  congr 1
  rw [Bool.eq_iff_iff,Bool.or_eq_true,beq_iff_eq,decide_eq_true_iff,decide_eq_true_iff,List.mem_cons]
  exact ⟨fun h=>h.imp Eq.symm id,fun h=>h.imp Eq.symm id⟩
theorem for_all {set:List Slot→PV→Res (List Slot)} {b:List Slot→Res (Fl × List Slot)} (mk:Slot→List Slot) (p:Int→Bool) (out:PV) (hs:∀ s x,set (mk s) (.int x)=.ok (mk (.val (.int x))))
  (hb:∀ x,b (mk (.val (.int x)))=if p x then .ok (.next,mk (.val (.int x))) else .ok (.ret out,mk (.val (.int x)))) :
  ∀ (l:List Int) (s:Slot),∃ s',forN set b (l.map PV.int) (mk s)=if l.all p then .ok (.next,mk s') else .ok (.ret out,mk s')
 | [],s=>⟨s,by simp [f_nil]⟩
 | x::r,s=>by
  obtain ⟨s',h⟩:=for_all mk p out hs hb r (.val (.int x))
  rw [List.map_cons,f_cons,hs,b_ok,hb]
  cases hx:p x
  ·exact ⟨.val (.int x),by simp [hx]⟩
  ·exact ⟨s',by simp only [if_true,h,List.all_cons,hx,Bool.true_and]⟩
theorem for_fold {α:Type} {set:List Slot→PV→Res (List Slot)} {b:List Slot→Res (Fl × List Slot)} (mk:α→Slot→List Slot) (f:α→Int→α) (P:α→Prop) (Px:Int→Prop) (hs:∀ a s x,set (mk a s) (.int x)=.ok (mk a (.val (.int x))))
  (hb:∀ a x,P a→Px x→b (mk a (.val (.int x)))=.ok (.next,mk (f a x) (.val (.int x)))∧P (f a x)) :
  ∀ (l:List Int) (a:α) (s:Slot),P a→(∀ x∈l,Px x)→∃ s',forN set b (l.map PV.int) (mk a s)=.ok (.next,mk (l.foldl f a) s')∧P (l.foldl f a)
 | [],a,s,hP,_=>⟨s,by simp [f_nil],hP⟩
 | x::r,a,s,hP,hx=>by
  obtain ⟨h1,h2⟩:=hb a x hP (hx x (by simp))
  obtain ⟨s',h,h3⟩:=for_fold mk f P Px hs hb r (f a x) (.val (.int x)) h2 (fun y hy=>hx y (by simp [hy]))
  rw [List.map_cons,f_cons,hs,b_ok,h1]
  exact ⟨s',h,h3⟩
theorem drop_cons {l:List Int} {q:Nat} {c:Int} {t:List Int} (h:l.drop q=c::t):l[q]?=some c∧l.drop (q+1)=t∧q<l.length:=by
 have h1:q<l.length:=by
  rcases Nat.lt_or_ge q l.length with h' | h'
  ·exact h'
  ·rw [List.drop_eq_nil_of_le h'] at h; cases h
 rw [List.drop_eq_getElem_cons h1] at h
 injection h with h2 h3
 exact ⟨by rw [List.getElem?_eq_getElem h1,h2],h3,h1⟩
theorem drop_nil {l:List Int} {q:Nat} (h:l.drop q=[]):l.length≤q:=by
 rcases Nat.lt_or_ge q l.length with h' | h'
 ·rw [List.drop_eq_getElem_cons h'] at h; cases h
 ·exact h'
section
variable {T:Nat→Option CF} {G:Nat→Res PV} {W:Nat} (L:Lib T G)
include L
theorem d_need (d:Nat) (b:Bool):den T G W (d+1) 0 [.bool b]=if b then .ok .none else .exc:=by
 rw [den_code L.t0 rfl]
 cases b <;> rfl
theorem d_is_digit (d:Nat) (x:Int):den T G W (d+1) 1 [.int x]=.ok (.bool (isDig x)):=by
 rw [den_code L.t1 rfl]
 show outS (evSs _ _ _ cf_is_digit [.val (.int x)])=_
 simp only [cf_is_digit,isDig,xnil,xSs,xfrz,xset,xown,xsetT,xaug,xapp,xexpr,xret,xif,xwhile,xfor,xraise,xbrk,xB,xlit,xneg,xvar,xglob,xsf,xtup,xlst,xbin,xcmp,xcmp2,xand,xor,xnot,xite,xidx,xslc,xcall,xlen,xisin,xisin1,xmkB,xtyp,xjoin,xcomp,xE,xE1,xO,xO1,xA1,xA2,xR1,xR2,xg0,xg1,xp0,xp1,b_ok,b_exc,b_stuck,c_eqi,c_nei,c_lti,c_lei,c_gti,c_gei,c_eqb,c_neb,c_eqs,c_nes,c_is,c_isNot,c_in,c_notIn,c_notInB,t_none,t_bool,t_int,o_addi,o_subi,o_modi,u_addi,l_b,l_t,l_l,i_t0,i_t1,e_none,s_b,r_ret,r_next,r_exc,r_stuck,it_b,it_t,it_l,f_nil,if_true,if_false,Bool.false_eq_true,Bool.true_eq_false,Bool.not_true,Bool.not_false,reduceIte,isNone,len_c,len_n]
 by_cases h:(48:Int)≤x <;> simp [h,b_ok,outS]
theorem d_is_letter (d:Nat) (x:Int):den T G W (d+1) 2 [.int x]=.ok (.bool (isLet x)):=by
 rw [den_code L.t2 rfl]
 show outS (evSs _ _ _ cf_is_letter [.val (.int x)])=_
 simp only [cf_is_letter,isLet,xnil,xSs,xfrz,xset,xown,xsetT,xaug,xapp,xexpr,xret,xif,xwhile,xfor,xraise,xbrk,xB,xlit,xneg,xvar,xglob,xsf,xtup,xlst,xbin,xcmp,xcmp2,xand,xor,xnot,xite,xidx,xslc,xcall,xlen,xisin,xisin1,xmkB,xtyp,xjoin,xcomp,xE,xE1,xO,xO1,xA1,xA2,xR1,xR2,xg0,xg1,xp0,xp1,b_ok,b_exc,b_stuck,c_eqi,c_nei,c_lti,c_lei,c_gti,c_gei,c_eqb,c_neb,c_eqs,c_nes,c_is,c_isNot,c_in,c_notIn,c_notInB,t_none,t_bool,t_int,o_addi,o_subi,o_modi,u_addi,l_b,l_t,l_l,i_t0,i_t1,e_none,s_b,r_ret,r_next,r_exc,r_stuck,it_b,it_t,it_l,f_nil,if_true,if_false,Bool.false_eq_true,Bool.true_eq_false,Bool.not_true,Bool.not_false,reduceIte,isNone,len_c,len_n]
 by_cases h:(65:Int)≤x <;> by_cases h2:x≤90 <;> by_cases h3:(97:Int)≤x <;> simp [h,h2,h3,xnil,xSs,xfrz,xset,xown,xsetT,xaug,xapp,xexpr,xret,xif,xwhile,xfor,xraise,xbrk,xB,xlit,xneg,xvar,xglob,xsf,xtup,xlst,xbin,xcmp,xcmp2,xand,xor,xnot,xite,xidx,xslc,xcall,xlen,xisin,xisin1,xmkB,xtyp,xjoin,xcomp,xE,xE1,xO,xO1,xA1,xA2,xR1,xR2,xg0,xg1,xp0,xp1,b_ok,b_exc,b_stuck,c_eqi,c_nei,c_lti,c_lei,c_gti,c_gei,c_eqb,c_neb,c_eqs,c_nes,c_is,c_isNot,c_in,c_notIn,c_notInB,t_none,t_bool,t_int,o_addi,o_subi,o_modi,u_addi,l_b,l_t,l_l,i_t0,i_t1,e_none,s_b,r_ret,r_next,r_exc,r_stuck,it_b,it_t,it_l,f_nil,if_true,if_false,Bool.false_eq_true,Bool.true_eq_false,Bool.not_true,Bool.not_false,reduceIte,isNone,len_c,len_n]
theorem d_is_tag_char (d:Nat) (x:Int):den T G W (d+2) 3 [.int x]=.ok (.bool (isTagC x)):=by
 rw [den_code L.t3 rfl]
 show outS (evSs _ _ _ cf_is_tag_char [.val (.int x)])=_
 simp only [cf_is_tag_char,isTagC,d_is_letter L d,d_is_digit L d,xnil,xSs,xfrz,xset,xown,xsetT,xaug,xapp,xexpr,xret,xif,xwhile,xfor,xraise,xbrk,xB,xlit,xneg,xvar,xglob,xsf,xtup,xlst,xbin,xcmp,xcmp2,xand,xor,xnot,xite,xidx,xslc,xcall,xlen,xisin,xisin1,xmkB,xtyp,xjoin,xcomp,xE,xE1,xO,xO1,xA1,xA2,xR1,xR2,xg0,xg1,xp0,xp1,b_ok,b_exc,b_stuck,c_eqi,c_nei,c_lti,c_lei,c_gti,c_gei,c_eqb,c_neb,c_eqs,c_nes,c_is,c_isNot,c_in,c_notIn,c_notInB,t_none,t_bool,t_int,o_addi,o_subi,o_modi,u_addi,l_b,l_t,l_l,i_t0,i_t1,e_none,s_b,r_ret,r_next,r_exc,r_stuck,it_b,it_t,it_l,f_nil,if_true,if_false,Bool.false_eq_true,Bool.true_eq_false,Bool.not_true,Bool.not_false,reduceIte,isNone,len_c,len_n]
 cases h1:isLet x <;> cases h2:isDig x <;> simp [h1,h2,d_is_digit L d,xnil,xSs,xfrz,xset,xown,xsetT,xaug,xapp,xexpr,xret,xif,xwhile,xfor,xraise,xbrk,xB,xlit,xneg,xvar,xglob,xsf,xtup,xlst,xbin,xcmp,xcmp2,xand,xor,xnot,xite,xidx,xslc,xcall,xlen,xisin,xisin1,xmkB,xtyp,xjoin,xcomp,xE,xE1,xO,xO1,xA1,xA2,xR1,xR2,xg0,xg1,xp0,xp1,b_ok,b_exc,b_stuck,c_eqi,c_nei,c_lti,c_lei,c_gti,c_gei,c_eqb,c_neb,c_eqs,c_nes,c_is,c_isNot,c_in,c_notIn,c_notInB,t_none,t_bool,t_int,o_addi,o_subi,o_modi,u_addi,l_b,l_t,l_l,i_t0,i_t1,e_none,s_b,r_ret,r_next,r_exc,r_stuck,it_b,it_t,it_l,f_nil,if_true,if_false,Bool.false_eq_true,Bool.true_eq_false,Bool.not_true,Bool.not_false,reduceIte,isNone,len_c,len_n]
theorem d_is_atom_char (d:Nat) (x:Int):den T G W (d+1) 4 [.int x]=.ok (.bool (isAtomC x)):=by
 rw [den_code L.t4 rfl]
 show outS (evSs _ _ _ cf_is_atom_char [.val (.int x)])=_
 simp only [cf_is_atom_char,isAtomC,xnil,xSs,xfrz,xset,xown,xsetT,xaug,xapp,xexpr,xret,xif,xwhile,xfor,xraise,xbrk,xB,xlit,xneg,xvar,xglob,xsf,xtup,xlst,xbin,xcmp,xcmp2,xand,xor,xnot,xite,xidx,xslc,xcall,xlen,xisin,xisin1,xmkB,xtyp,xjoin,xcomp,xE,xE1,xO,xO1,xA1,xA2,xR1,xR2,xg0,xg1,xp0,xp1,b_ok,b_exc,b_stuck,c_eqi,c_nei,c_lti,c_lei,c_gti,c_gei,c_eqb,c_neb,c_eqs,c_nes,c_is,c_isNot,c_in,c_notIn,c_notInB,t_none,t_bool,t_int,o_addi,o_subi,o_modi,u_addi,l_b,l_t,l_l,i_t0,i_t1,e_none,s_b,r_ret,r_next,r_exc,r_stuck,it_b,it_t,it_l,f_nil,if_true,if_false,Bool.false_eq_true,Bool.true_eq_false,Bool.not_true,Bool.not_false,reduceIte,isNone,len_c,len_n]
 by_cases h:x<33
 ·simp [h,xnil,xSs,xfrz,xset,xown,xsetT,xaug,xapp,xexpr,xret,xif,xwhile,xfor,xraise,xbrk,xB,xlit,xneg,xvar,xglob,xsf,xtup,xlst,xbin,xcmp,xcmp2,xand,xor,xnot,xite,xidx,xslc,xcall,xlen,xisin,xisin1,xmkB,xtyp,xjoin,xcomp,xE,xE1,xO,xO1,xA1,xA2,xR1,xR2,xg0,xg1,xp0,xp1,b_ok,b_exc,b_stuck,c_eqi,c_nei,c_lti,c_lei,c_gti,c_gei,c_eqb,c_neb,c_eqs,c_nes,c_is,c_isNot,c_in,c_notIn,c_notInB,t_none,t_bool,t_int,o_addi,o_subi,o_modi,u_addi,l_b,l_t,l_l,i_t0,i_t1,e_none,s_b,r_ret,r_next,r_exc,r_stuck,it_b,it_t,it_l,f_nil,if_true,if_false,Bool.false_eq_true,Bool.true_eq_false,Bool.not_true,Bool.not_false,reduceIte,isNone,len_c,len_n]
 ·by_cases h2:126<x
  ·simp [h,h2,xnil,xSs,xfrz,xset,xown,xsetT,xaug,xapp,xexpr,xret,xif,xwhile,xfor,xraise,xbrk,xB,xlit,xneg,xvar,xglob,xsf,xtup,xlst,xbin,xcmp,xcmp2,xand,xor,xnot,xite,xidx,xslc,xcall,xlen,xisin,xisin1,xmkB,xtyp,xjoin,xcomp,xE,xE1,xO,xO1,xA1,xA2,xR1,xR2,xg0,xg1,xp0,xp1,b_ok,b_exc,b_stuck,c_eqi,c_nei,c_lti,c_lei,c_gti,c_gei,c_eqb,c_neb,c_eqs,c_nes,c_is,c_isNot,c_in,c_notIn,c_notInB,t_none,t_bool,t_int,o_addi,o_subi,o_modi,u_addi,l_b,l_t,l_l,i_t0,i_t1,e_none,s_b,r_ret,r_next,r_exc,r_stuck,it_b,it_t,it_l,f_nil,if_true,if_false,Bool.false_eq_true,Bool.true_eq_false,Bool.not_true,Bool.not_false,reduceIte,isNone,len_c,len_n]
  ·simp only [h,h2,decide_false,xnil,xSs,xfrz,xset,xown,xsetT,xaug,xapp,xexpr,xret,xif,xwhile,xfor,xraise,xbrk,xB,xlit,xneg,xvar,xglob,xsf,xtup,xlst,xbin,xcmp,xcmp2,xand,xor,xnot,xite,xidx,xslc,xcall,xlen,xisin,xisin1,xmkB,xtyp,xjoin,xcomp,xE,xE1,xO,xO1,xA1,xA2,xR1,xR2,xg0,xg1,xp0,xp1,b_ok,b_exc,b_stuck,c_eqi,c_nei,c_lti,c_lei,c_gti,c_gei,c_eqb,c_neb,c_eqs,c_nes,c_is,c_isNot,c_in,c_notIn,c_notInB,t_none,t_bool,t_int,o_addi,o_subi,o_modi,u_addi,l_b,l_t,l_l,i_t0,i_t1,e_none,s_b,r_ret,r_next,r_exc,r_stuck,it_b,it_t,it_l,f_nil,if_true,if_false,Bool.false_eq_true,Bool.true_eq_false,Bool.not_true,Bool.not_false,reduceIte,isNone,len_c,len_n,lim,Bool.or_self,Bool.true_and,Nat.reduceAdd,Nat.reduceLeDiff,if_true]
   have e:=memD_ints 12 x [34,37,40,41,42,92,93,123]
   simp only [List.map_cons,List.map_nil] at e
   rw [e]
   rfl
theorem d_all_digits (d:Nat) (l:List Int):den T G W (d+2) 5 [.bytes l]=.ok (.bool (allDig l)):=by
 rw [den_code L.t5 rfl]
 show outS (evSs _ _ _ cf_all_digits [.val (.bytes l),.unset])=_
 rw [cf_all_digits]
 obtain ⟨s',h⟩:=for_all (set:=fun ρ v=>.ok (putS ρ 1 (.val v))) (b:=fun ρ=>evSs (den T G W (d+1)) G W [.if_ (.not_ (.call 1 [(.var 1)])) [.ret (.lit (.bool false))] []] ρ) (fun s=>[.val (.bytes l),s]) isDig (.bool false)
  (fun s x=>rfl) (fun x=>by
   simp only [d_is_digit L d,xnil,xSs,xfrz,xset,xown,xsetT,xaug,xapp,xexpr,xret,xif,xwhile,xfor,xraise,xbrk,xB,xlit,xneg,xvar,xglob,xsf,xtup,xlst,xbin,xcmp,xcmp2,xand,xor,xnot,xite,xidx,xslc,xcall,xlen,xisin,xisin1,xmkB,xtyp,xjoin,xcomp,xE,xE1,xO,xO1,xA1,xA2,xR1,xR2,xg0,xg1,xp0,xp1,b_ok,b_exc,b_stuck,c_eqi,c_nei,c_lti,c_lei,c_gti,c_gei,c_eqb,c_neb,c_eqs,c_nes,c_is,c_isNot,c_in,c_notIn,c_notInB,t_none,t_bool,t_int,o_addi,o_subi,o_modi,u_addi,l_b,l_t,l_l,i_t0,i_t1,e_none,s_b,r_ret,r_next,r_exc,r_stuck,it_b,it_t,it_l,f_nil,if_true,if_false,Bool.false_eq_true,Bool.true_eq_false,Bool.not_true,Bool.not_false,reduceIte,isNone,len_c,len_n]
   cases isDig x <;> simp [xnil,xSs,xfrz,xset,xown,xsetT,xaug,xapp,xexpr,xret,xif,xwhile,xfor,xraise,xbrk,xB,xlit,xneg,xvar,xglob,xsf,xtup,xlst,xbin,xcmp,xcmp2,xand,xor,xnot,xite,xidx,xslc,xcall,xlen,xisin,xisin1,xmkB,xtyp,xjoin,xcomp,xE,xE1,xO,xO1,xA1,xA2,xR1,xR2,xg0,xg1,xp0,xp1,b_ok,b_exc,b_stuck,c_eqi,c_nei,c_lti,c_lei,c_gti,c_gei,c_eqb,c_neb,c_eqs,c_nes,c_is,c_isNot,c_in,c_notIn,c_notInB,t_none,t_bool,t_int,o_addi,o_subi,o_modi,u_addi,l_b,l_t,l_l,i_t0,i_t1,e_none,s_b,r_ret,r_next,r_exc,r_stuck,it_b,it_t,it_l,f_nil,if_true,if_false,Bool.false_eq_true,Bool.true_eq_false,Bool.not_true,Bool.not_false,reduceIte,isNone,len_c,len_n]) l .unset
 cases l with
 | nil=>rfl
 | cons a r =>
  have e:allDig (a::r)=(a::r).all isDig:=by simp [allDig]
  have e0:evB (den T G W (d+1)) G (.cmp .eq (.len (.var 0)) (.lit (.int 0))) [.val (.bytes (a::r)),.unset]=.ok false:=by
   simp only [xnil,xSs,xfrz,xset,xown,xsetT,xaug,xapp,xexpr,xret,xif,xwhile,xfor,xraise,xbrk,xB,xlit,xneg,xvar,xglob,xsf,xtup,xlst,xbin,xcmp,xcmp2,xand,xor,xnot,xite,xidx,xslc,xcall,xlen,xisin,xisin1,xmkB,xtyp,xjoin,xcomp,xE,xE1,xO,xO1,xA1,xA2,xR1,xR2,xg0,xg1,xp0,xp1,b_ok,b_exc,b_stuck,c_eqi,c_nei,c_lti,c_lei,c_gti,c_gei,c_eqb,c_neb,c_eqs,c_nes,c_is,c_isNot,c_in,c_notIn,c_notInB,t_none,t_bool,t_int,o_addi,o_subi,o_modi,u_addi,l_b,l_t,l_l,i_t0,i_t1,e_none,s_b,r_ret,r_next,r_exc,r_stuck,it_b,it_t,it_l,f_nil,if_true,if_false,Bool.false_eq_true,Bool.true_eq_false,Bool.not_true,Bool.not_false,reduceIte,isNone,len_c,len_n]
   have:(((r.length+1:Nat):Int) == 0)=false:=by rw [beq_eq_false_iff_ne]; lia
   rw [this]
  rw [run_next (if_no e0)]
  rw [e]
  cases ha:(a::r).all isDig <;> rw [ha] at h
  ·rw [run_ret (v:=.bool false) (ρ':=[.val (.bytes (a::r)),s']) (by exact h)]
   rfl
  ·rw [run_next (ρ':=[.val (.bytes (a::r)),s']) (by exact h)]
   rfl
theorem d_digits_value (d:Nat) (l:List Int) (hl:∀ x∈l,isDig x=true):den T G W (d+1) 6 [.bytes l]=.ok (.int (digVal l)):=by
 rw [den_code L.t6 rfl]
 show outS (evSs _ _ _ cf_digits_value [.val (.bytes l),.unset,.unset])=_
 rw [cf_digits_value,run_next (to_assign (v:=.int 0) rfl)]
 obtain ⟨s',h,_⟩:=for_fold (set:=fun ρ v=>.ok (putS ρ 2 (.val v))) (b:=fun ρ=>evSs (den T G W d) G W [.assign 1 (.bin .add (.bin .mul (.var 1) (.lit (.int 10))) (.bin .sub (.var 2) (.lit (.int 48)))),.if_ (.cmp .ge (.var 1) (.glob 0)) [.assign 1 (.glob 0)] []] ρ)
  (fun n s=>[.val (.bytes l),.val (.int n),s]) (fun n x=>clamp (n * 10+(x - 48))) (fun n=>0≤n∧n≤4294967296) (fun x=>isDig x=true) (fun n s x=>rfl) (fun n x hn hx=>by
   simp only [isDig,Bool.and_eq_true,decide_eq_true_iff] at hx
   constructor
   ·have e1:n.natAbs≤4294967296∧Int.natAbs 10≤4294967296:=⟨by lia,by decide⟩
    simp only [xnil,xSs,xfrz,xset,xown,xsetT,xaug,xapp,xexpr,xret,xif,xwhile,xfor,xraise,xbrk,xB,xlit,xneg,xvar,xglob,xsf,xtup,xlst,xbin,xcmp,xcmp2,xand,xor,xnot,xite,xidx,xslc,xcall,xlen,xisin,xisin1,xmkB,xtyp,xjoin,xcomp,xE,xE1,xO,xO1,xA1,xA2,xR1,xR2,xg0,xg1,xp0,xp1,b_ok,b_exc,b_stuck,c_eqi,c_nei,c_lti,c_lei,c_gti,c_gei,c_eqb,c_neb,c_eqs,c_nes,c_is,c_isNot,c_in,c_notIn,c_notInB,t_none,t_bool,t_int,o_addi,o_subi,o_modi,u_addi,l_b,l_t,l_l,i_t0,i_t1,e_none,s_b,r_ret,r_next,r_exc,r_stuck,it_b,it_t,it_l,f_nil,if_true,if_false,Bool.false_eq_true,Bool.true_eq_false,Bool.not_true,Bool.not_false,reduceIte,isNone,len_c,len_n,o_muli,e1,and_self,L.g0,clamp]
    by_cases h:(4294967296:Int)≤n * 10+(x - 48) <;> simp [h,xnil,xSs,xfrz,xset,xown,xsetT,xaug,xapp,xexpr,xret,xif,xwhile,xfor,xraise,xbrk,xB,xlit,xneg,xvar,xglob,xsf,xtup,xlst,xbin,xcmp,xcmp2,xand,xor,xnot,xite,xidx,xslc,xcall,xlen,xisin,xisin1,xmkB,xtyp,xjoin,xcomp,xE,xE1,xO,xO1,xA1,xA2,xR1,xR2,xg0,xg1,xp0,xp1,b_ok,b_exc,b_stuck,c_eqi,c_nei,c_lti,c_lei,c_gti,c_gei,c_eqb,c_neb,c_eqs,c_nes,c_is,c_isNot,c_in,c_notIn,c_notInB,t_none,t_bool,t_int,o_addi,o_subi,o_modi,u_addi,l_b,l_t,l_l,i_t0,i_t1,e_none,s_b,r_ret,r_next,r_exc,r_stuck,it_b,it_t,it_l,f_nil,if_true,if_false,Bool.false_eq_true,Bool.true_eq_false,Bool.not_true,Bool.not_false,reduceIte,isNone,len_c,len_n]
   ·unfold clamp
    split <;> lia) l 0 .unset (by lia) hl
 rw [run_next (ρ':=_) (by simp only [xfrz,xset,xown,xsetT,xaug,xapp,xexpr,xret,xif,xwhile,xfor,xraise,xbrk,xlit,xneg,xvar,xglob,xsf,xtup,xlst,xbin,xcmp,xcmp2,xand,xor,xnot,xite,xidx,xslc,xcall,xlen,xisin,xisin1,xmkB,xtyp,xjoin,xcomp,xp0,xp1,xg0,xg1,b_ok,it_b]; exact h)]
 rfl
theorem d_upper (d:Nat) (l:List Int) (hl:∀ x∈l,0≤x∧x<256):den T G W (d+1) 8 [.bytes l]=.ok (.bytes (up l)):=by
 rw [den_code L.t8 rfl]
 show outS (evSs _ _ _ cf_upper [.val (.bytes l)])=_
 have key:∀ m:List Int,mapR (fun v=>evE (den T G W d) G (.ite (.cmp2 .le .le (.lit (.int 97)) (.var 0) (.lit (.int 122))) (.bin .sub (.var 0) (.lit (.int 32))) (.var 0)) [.val v]) (m.map PV.int)=.ok ((up m).map PV.int):=by
  intro m
  induction m with
  | nil=>rfl
  | cons a r ih =>
   rw [List.map_cons,mapR,ih]
   have:evE (den T G W d) G (.ite (.cmp2 .le .le (.lit (.int 97)) (.var 0) (.lit (.int 122))) (.bin .sub (.var 0) (.lit (.int 32))) (.var 0)) [.val (.int a)]=.ok (.int (upC a)):=by
    simp only [xnil,xSs,xfrz,xset,xown,xsetT,xaug,xapp,xexpr,xret,xif,xwhile,xfor,xraise,xbrk,xB,xlit,xneg,xvar,xglob,xsf,xtup,xlst,xbin,xcmp,xcmp2,xand,xor,xnot,xite,xidx,xslc,xcall,xlen,xisin,xisin1,xmkB,xtyp,xjoin,xcomp,xE,xE1,xO,xO1,xA1,xA2,xR1,xR2,xg0,xg1,xp0,xp1,b_ok,b_exc,b_stuck,c_eqi,c_nei,c_lti,c_lei,c_gti,c_gei,c_eqb,c_neb,c_eqs,c_nes,c_is,c_isNot,c_in,c_notIn,c_notInB,t_none,t_bool,t_int,o_addi,o_subi,o_modi,u_addi,l_b,l_t,l_l,i_t0,i_t1,e_none,s_b,r_ret,r_next,r_exc,r_stuck,it_b,it_t,it_l,f_nil,if_true,if_false,Bool.false_eq_true,Bool.true_eq_false,Bool.not_true,Bool.not_false,reduceIte,isNone,len_c,len_n,upC]
    by_cases h1:(97:Int)≤a <;> by_cases h2:a≤122 <;> simp [h1,h2,xnil,xSs,xfrz,xset,xown,xsetT,xaug,xapp,xexpr,xret,xif,xwhile,xfor,xraise,xbrk,xB,xlit,xneg,xvar,xglob,xsf,xtup,xlst,xbin,xcmp,xcmp2,xand,xor,xnot,xite,xidx,xslc,xcall,xlen,xisin,xisin1,xmkB,xtyp,xjoin,xcomp,xE,xE1,xO,xO1,xA1,xA2,xR1,xR2,xg0,xg1,xp0,xp1,b_ok,b_exc,b_stuck,c_eqi,c_nei,c_lti,c_lei,c_gti,c_gei,c_eqb,c_neb,c_eqs,c_nes,c_is,c_isNot,c_in,c_notIn,c_notInB,t_none,t_bool,t_int,o_addi,o_subi,o_modi,u_addi,l_b,l_t,l_l,i_t0,i_t1,e_none,s_b,r_ret,r_next,r_exc,r_stuck,it_b,it_t,it_l,f_nil,if_true,if_false,Bool.false_eq_true,Bool.true_eq_false,Bool.not_true,Bool.not_false,reduceIte,isNone,len_c,len_n]
   rw [this]; rfl
 have hi:∀ m:List Int,intsOf (m.map PV.int)=some m:=by
  intro m
  induction m with
  | nil=>rfl
  | cons a r ih=>rw [List.map_cons,intsOf,ih]; rfl
 have hr:∀ n∈up l,0≤n∧n<256:=by
  intro n hn
  unfold up at hn
  obtain ⟨x,hx,rfl⟩:=List.mem_map.1 hn
  have:=hl x hx
  unfold upC
  split <;> lia
 rw [cf_upper,xSs,xret,xmkB,xcomp,xvar]
 simp only [xg0,xg1,b_ok,it_b,key,bytesP,hi,hr,implies_true,if_true,and_self]
 rw [if_pos hr]
 rfl
end
end Mine
namespace Mine
theorem scanN_len (p:Int→Bool):∀ (n:Nat) (x r:List Int),scanN p n x=some r→∃ u,x=u++r
 | 0,_,_,h=>by cases h
 | n+1,[],r,h=>by simp [scanN] at h; exact ⟨[],by simp [h]⟩
 | n+1,c::t,r,h=>by
  rw [scanN] at h
  split at h
  ·obtain ⟨u,e⟩:=scanN_len p n t r h
   exact ⟨c::u,by rw [e]; rfl⟩
  ·cases h; exact ⟨[],rfl⟩
theorem cut_two {l:List Int} {q:Nat} (k:Nat):cutL l (some (q:Int)) (some ((q:Int)+(k:Int)))=(l.drop q).take k:=by
 unfold cutL
 simp only
 have e1:((q:Int)+(k:Int)).toNat=q+k:=by lia
 rw [e1,Int.toNat_natCast,List.drop_take]
 congr 1
 lia
section
variable {T:Nat→Option CF} {G:Nat→Res PV} {W:Nat} (L:Lib T G)
include L
theorem need_y {d:Nat} {c:CE} {ρ:List Slot} (h:evE (den T G W (d+1)) G c ρ=.ok (.bool true)):evS (den T G W (d+1)) G W (.expr (.call 0 [c])) ρ=.ok (.next,ρ):=by
 rw [xexpr,xcall,xE1,h,xE]
 simp only [b_ok,d_need L,if_true,isNone]
theorem need_n {d:Nat} {c:CE} {ρ:List Slot} (h:evE (den T G W (d+1)) G c ρ=.ok (.bool false)):evS (den T G W (d+1)) G W (.expr (.call 0 [c])) ρ=.exc:=by
 rw [xexpr,xcall,xE1,h,xE]
 simp only [b_ok,d_need L,Bool.false_eq_true,if_false,b_exc]
omit L in
theorem ev_cmp {F:Nat→List PV→Res PV} {o:COp} {a b:CE} {ρ:List Slot} {x y:PV} {r:Bool} (h1:evE F G a ρ=.ok x) (h2:evE F G b ρ=.ok y) (h3:cmpP o x y=.ok r):evE F G (.cmp o a b) ρ=.ok (.bool r):=by
 show (evE F G a ρ).bind _=_
 rw [h1]
 show (evE F G b ρ).bind _=_
 rw [h2]
 show (cmpP o x y).bind _=_
 rw [h3]; rfl
omit L in
theorem b_of {F:Nat→List PV→Res PV} {c:CE} {ρ:List Slot} {b:Bool} (h:evE F G c ρ=.ok (.bool b)):evB F G c ρ=.ok b:=by
 unfold evB; rw [h]; rfl
omit L in
theorem b_yes {F:Nat→List PV→Res PV} {c:CE} {ρ:List Slot} {P:Prop} [Decidable P] (h:evE F G c ρ=.ok (.bool (decide P))) (hp:P):evB F G c ρ=.ok true:=by
 unfold evB; rw [h,decide_eq_true hp]; rfl
omit L in
theorem b_no {F:Nat→List PV→Res PV} {c:CE} {ρ:List Slot} {P:Prop} [Decidable P] (h:evE F G c ρ=.ok (.bool (decide P))) (hp:¬ P):evB F G c ρ=.ok false:=by
 unfold evB; rw [h,decide_eq_false hp]; rfl
noncomputable def ofRun (l:List Int):PR (List Int)→Res PV
 | .none=>.ok .none
 | .err=>.exc
 | .stuck=>.stuck
 | .ok v r=>.ok (.tuple [.bytes v,.int ((l.length:Int) - (r.length:Int))])
noncomputable def ofCrlf (l:List Int):PR Unit→Res PV
 | .none=>.ok .none
 | .err=>.exc
 | .stuck=>.stuck
 | .ok _ r=>.ok (.int ((l.length:Int) - (r.length:Int)))
end
noncomputable def thn (x:Res (Fl × List Slot)) (kb kn:List Slot→Res PV):Res PV:=match x with
 | .ok (.next,ρ)=>kn ρ
 | .ok (.brk,ρ)=>kb ρ
 | .ok (.ret v,_)=>.ok v
 | .exc=>.exc
 | .stuck=>.stuck
noncomputable def run (F:Nat→List PV→Res PV) (G:Nat→Res PV) (W:Nat) (ss:List CS) (ρ:List Slot) (kb kn:List Slot→Res PV):Res PV:=thn (evSs F G W ss ρ) kb kn
noncomputable def wh (F:Nat→List PV→Res PV) (G:Nat→Res PV) (W:Nat) (c:CE) (b:List CS) (n:Nat) (ρ:List Slot) (kb k:List Slot→Res PV):Res PV:=thn (whileN (fun ρ=>evB F G c ρ) (fun ρ=>evSs F G W b ρ) n ρ) kb k
noncomputable def kN (_:List Slot):Res PV:=.ok .none
noncomputable def kS (_:List Slot):Res PV:=.stuck
structure Out0 {α:Type} (O:PR α→Res PV):Prop where
 n:O .none=.ok .none
 e:O .err=.exc
 s:O .stuck=.stuck
structure Out {α:Type} (O:PR α→Res PV) (v:α→List Int→PV):Prop extends Out0 O where
 o:∀ a r,O (.ok a r)=.ok (v a r)
 x:∀ a r,isNone (v a r)=false
theorem out_pr (l:List Int):Out (ofPR l) (fun v r=>.tuple [v,.int ((l.length:Int) - (r.length:Int))]):=⟨⟨rfl,rfl,rfl⟩,fun _ _=>rfl,fun _ _=>rfl⟩
theorem out_run (l:List Int):Out (ofRun l) (fun v r=>.tuple [.bytes v,.int ((l.length:Int) - (r.length:Int))]):=⟨⟨rfl,rfl,rfl⟩,fun _ _=>rfl,fun _ _=>rfl⟩
theorem out_crlf (l:List Int):Out (ofCrlf l) (fun _ r=>.int ((l.length:Int) - (r.length:Int))):=⟨⟨rfl,rfl,rfl⟩,fun _ _=>rfl,fun _ _=>rfl⟩
theorem get_put:∀ (ρ:List Slot) (i:Nat) (s:Slot),i<ρ.length→getS (putS ρ i s) i=s
 | _::_,0,_,_=>rfl
 | _::r,i+1,s,h=>get_put r i s (Nat.lt_of_succ_lt_succ h)
section
variable {F:Nat→List PV→Res PV} {G:Nat→Res PV} {W:Nat} {s:CS} {r ts us:List CS} {ρ ρ':List Slot} {kb kn k:List Slot→Res PV} {R x:Res PV} {c e:CE} {v:PV} {i n:Nat} {P:Prop} [Decidable P] {α β:Type} {O:PR α→Res PV} {A B:PR α} {l t:List Int} {q:Nat} {a:Int}
theorem go {ss:List CS} (h:run F G W ss ρ kS kN=R):outS (evSs F G W ss ρ)=R:=by
 rw [← h]; unfold run thn outS kS kN
 cases evSs F G W ss ρ with
 | ok x=>obtain ⟨f,ρ'⟩:=x; cases f <;> rfl
 | exc=>rfl
 | stuck=>rfl
theorem rn (h:evS F G W s ρ=.ok (.next,ρ')) (k:run F G W r ρ' kb kn=R):run F G W (s::r) ρ kb kn=R:=by
 rw [← k]; unfold run; rw [run_next h]
theorem rs (h:evE F G e ρ=.ok v) (k:run F G W r (putS ρ i (.val v)) kb kn=R):run F G W (.assign i e::r) ρ kb kn=R:=rn (to_assign h) k
theorem rr (h:evE F G e ρ=x):run F G W (.ret e::r) ρ kb kn=x:=by
 unfold run; rw [xSs,xret,h]
 cases x <;> rfl
theorem ry (h:evE F G c ρ=.ok (.bool true)) (k:run F G W ts ρ kb (fun ρ=>run F G W r ρ kb kn)=R):run F G W (.if_ c ts us::r) ρ kb kn=R:=by
 rw [← k]; unfold run; rw [xSs,if_yes (b_of h)]
 cases evSs F G W ts ρ with
 | ok x=>obtain ⟨f,ρ'⟩:=x; cases f <;> rfl
 | exc=>rfl
 | stuck=>rfl
theorem rf (h:evE F G c ρ=.ok (.bool false)) (k:run F G W us ρ kb (fun ρ=>run F G W r ρ kb kn)=R):run F G W (.if_ c ts us::r) ρ kb kn=R:=by
 rw [← k]; unfold run; rw [xSs,if_no (b_of h)]
 cases evSs F G W us ρ with
 | ok x=>obtain ⟨f,ρ'⟩:=x; cases f <;> rfl
 | exc=>rfl
 | stuck=>rfl
theorem rf0 (h:evE F G c ρ=.ok (.bool false)) (k:run F G W r ρ kb kn=R):run F G W (.if_ c ts []::r) ρ kb kn=R:=rf h k
theorem ri (h:evE F G c ρ=.ok (.bool (decide P))) (k1:P→run F G W ts ρ kb (fun ρ=>run F G W r ρ kb kn)=O A) (k2:¬ P→run F G W us ρ kb (fun ρ=>run F G W r ρ kb kn)=O B):run F G W (.if_ c ts us::r) ρ kb kn=O (if P then A else B):=by
 by_cases hp:P
 ·rw [decide_eq_true hp] at h; rw [if_pos hp]; exact ry h (k1 hp)
 ·rw [decide_eq_false hp] at h; rw [if_neg hp]; exact rf h (k2 hp)
theorem ri0 (h:evE F G c ρ=.ok (.bool (decide P))) (k1:P→run F G W ts ρ kb (fun ρ=>run F G W r ρ kb kn)=O A) (k2:¬ P→run F G W r ρ kb kn=O B):run F G W (.if_ c ts []::r) ρ kb kn=O (if P then A else B):=ri h k1 k2
theorem rin (h:evE F G c ρ=.ok (.bool (!decide P))) (k1:P→run F G W r ρ kb kn=O A) (k2:¬ P→run F G W ts ρ kb (fun ρ=>run F G W r ρ kb kn)=O B):run F G W (.if_ c ts []::r) ρ kb kn=O (if P then A else B):=by
 by_cases hp:P
 ·rw [decide_eq_true hp] at h; rw [if_pos hp]; exact rf0 h (k1 hp)
 ·rw [decide_eq_false hp] at h; rw [if_neg hp]; exact ry h (k2 hp)
theorem rw0 (k:wh F G W c ts W ρ kb (fun ρ=>run F G W r ρ kb kn)=R):run F G W (.while_ c ts::r) ρ kb kn=R:=by
 rw [← k]; unfold run wh; rw [xSs,xwhile]
 cases whileN (fun ρ=>evB F G c ρ) (fun ρ=>evSs F G W ts ρ) W ρ with
 | ok x=>obtain ⟨f,ρ'⟩:=x; cases f <;> rfl
 | exc=>rfl
 | stuck=>rfl
theorem wh_y (h:evE F G c ρ=.ok (.bool true)) (hk:run F G W ts ρ k (fun ρ=>wh F G W c ts n ρ kb k)=R):wh F G W c ts (n+1) ρ kb k=R:=by
 rw [← hk]; unfold wh run; rw [w_succ,b_of h,b_ok,if_pos rfl]
 cases evSs F G W ts ρ with
 | ok x=>obtain ⟨f,ρ'⟩:=x; cases f <;> rfl
 | exc=>rfl
 | stuck=>rfl
theorem wh_n (h:evE F G c ρ=.ok (.bool false)) (hk:k ρ=R):wh F G W c ts (n+1) ρ kb k=R:=by
 rw [← hk]; unfold wh; rw [w_succ,b_of h,b_ok,if_neg Bool.false_ne_true]; rfl
theorem rc {O':PR β→Res PV} {w:β→List Int→PV} {X:PR β} {f:β→List Int→PR α} (hO:Out0 O) (hO':Out O' w) (h:evE F G e ρ=O' X) (hi:Nat.blt i ρ.length=true)
  (k:∀ a s,X=.ok a s→run F G W r (putS ρ i (.val (w a s))) kb kn=O (f a s)):run F G W (.assign i e::.if_ (.cmp .is_ (.var i) (.lit .none)) [.ret (.lit .none)] []::r) ρ kb kn=O (X.bind f):=by
 have ev:∀ v,evE F G (.cmp .is_ (.var i) (.lit .none)) (putS ρ i (.val v))=.ok (.bool (isNone v)):=by
  intro v; rw [xcmp,xvar,get_put ρ i _ (Nat.le_of_ble_eq_true hi)]; rfl
 cases X with
 | none=>rw [hO'.n] at h; exact (rs h (ry (ev _) (rr rfl))).trans hO.n.symm
 | err=>rw [hO'.e] at h; unfold run; rw [run_exc (sx_exc h)]; exact hO.e.symm
 | stuck=>rw [hO'.s] at h; unfold run; rw [run_stuck (sx_stuck h)]; exact hO.s.symm
 | ok a s=>rw [hO'.o] at h; exact rs h (rf0 ((ev _).trans (by rw [hO'.x])) (k a s rfl))
theorem ix (h:l.drop q=a::t):idxP (.bytes l) (.int (q:Int))=.ok (.int a):=by
 rw [i_b,if_pos (Int.natCast_nonneg q),Int.toNat_natCast,(drop_cons h).1]; rfl
theorem re0 (hd:l.drop q=[]) (h:evE F G c ρ=.ok (.bool (decide ((l.length:Int)≤(q:Int))))):run F G W (.if_ c [.ret (.lit .none)] []::r) ρ kb kn=.ok .none :=
 ry (by rw [h,decide_eq_true (Int.ofNat_le.2 (drop_nil hd))]) (rr rfl)
theorem re1 (hd:l.drop q=a::t) (h:evE F G c ρ=.ok (.bool (decide ((l.length:Int)≤(q:Int))))) (k:run F G W r ρ kb kn=R):run F G W (.if_ c [.ret (.lit .none)] []::r) ρ kb kn=R :=
 rf0 (by rw [h,decide_eq_false (fun hh=>Nat.not_lt.2 (Int.ofNat_le.1 hh) (drop_cons hd).2.2)]) k
theorem pos_at (h:l.drop q=t) (hq:q≤l.length):(l.length:Int) - (t.length:Int)=(q:Int):=by
 rw [← h,List.length_drop,Int.ofNat_sub hq,Int.sub_sub_self]
theorem pos_tl (h:l.drop q=a::t):(l.length:Int) - (t.length:Int)=(q:Int)+1:=pos_at (q:=q+1) (drop_cons h).2.1 (drop_cons h).2.2
theorem rest_at {u:List Int} (h:l.drop q=u++t) (hq:q≤l.length):∃ p:Nat,q+u.length=p∧(l.length:Int) - (t.length:Int)=(p:Int)∧l.drop p=t∧p≤l.length:=by
 have hd:l.drop (q+u.length)=t:=by rw [← List.drop_drop,h,List.drop_left]
 have hp:q+u.length≤l.length:=by
  have hl:l.length - q=u.length+t.length:=by rw [← List.length_drop,h,List.length_append]
  omega
 exact ⟨_,rfl,pos_at hd hp,hd,hp⟩
theorem lt_no (h:l.drop q=[]):decide ((q:Int)<(l.length:Int))=false:=decide_eq_false fun hh=>Nat.not_lt.2 (drop_nil h) (Int.ofNat_lt.1 hh)
theorem lt_yes (h:l.drop q=a::t):decide ((q:Int)<(l.length:Int))=true:=decide_eq_true (Int.ofNat_lt.2 (drop_cons h).2.2)
theorem eq_yes (h:l.drop q=[]) (hq:q≤l.length):((q:Int) == (l.length:Int))=true:=beq_iff_eq.2 (congrArg Nat.cast (Nat.le_antisymm hq (drop_nil h)))
theorem eq_no (h:l.drop q=a::t):((q:Int) == (l.length:Int))=false:=beq_eq_false_iff_ne.2 fun e=>Nat.ne_of_lt (drop_cons h).2.2 (Int.ofNat.inj e)
theorem wh_b {b:Bool} (h:evE F G c ρ=.ok (.bool b)) (hk:run F G W ts ρ k (fun ρ=>wh F G W c ts n ρ kb k)=R):wh F G W c ts (n+1) ρ kb k=if b then R else k ρ:=by
 cases b
 ·exact wh_n h rfl
 ·exact wh_y h hk
theorem okp {z:Int} (h:(l.length:Int) - (t.length:Int)=z):Res.ok (.tuple [v,.int z])=ofPR l (.ok v t):=by
 rw [← h]; rfl
theorem bT {p:Bool} (h:p=true):Res.ok (PV.bool p)=.ok (.bool true):=by rw [h]
theorem bF {p:Bool} (h:p=false):Res.ok (PV.bool p)=.ok (.bool false):=by rw [h]
noncomputable def onS {α:Type} (o:Option (List Int)) (f:List Int→PR α):PR α:=match o with | none=>.stuck | some r=>f r
theorem scan_do {σ:Type} (mk:Int→σ→List Slot) (p:Int→Bool) {f:List Int→PR α} (hO:O .stuck=.stuck)
  (h0:∀ (q:Nat) s n,l.drop q=[]→wh F G W c ts (n+1) (mk q s) kb k=k (mk q s))
  (h1:∀ (q:Nat) s n x t,l.drop q=x::t→∃ s',wh F G W c ts (n+1) (mk q s) kb k=if p x then wh F G W c ts n (mk ((q:Int)+1) s') kb k else k (mk q s')) :
  ∀ (n q:Nat) (s:σ),q≤l.length→(∀ u r (z:Nat) s',l.drop q=u++r→q+u.length=z→l.drop z=r→z≤l.length→k (mk z s')=O (f r))→wh F G W c ts n (mk q s) kb k=O (onS (scanN p n (l.drop q)) f)
 | 0,_,_,_,_=>hO.symm
 | n+1,q,s,hq,hk=>by
  rcases hd:l.drop q with _ | ⟨x,t⟩
  ·exact (h0 q s n hd).trans (hk [] [] q s hd rfl hd hq)
  ·obtain ⟨s',e⟩:=h1 q s n x t hd
   have h2:=drop_cons hd
   rw [e]
   show _=O (onS (if p x then scanN p n t else some (x::t)) f)
   cases p x
   ·exact hk [] (x::t) q s' hd rfl hd hq
   ·rw [← h2.2.1]
    exact scan_do mk p hO h0 h1 n (q+1) s' h2.2.2 fun u r z s'' a b=>hk (x::u) r z s'' (by rw [hd,← h2.2.1,a]; rfl) (by rw [← b]; exact (Nat.succ_add_eq_add_succ q u.length).symm)
theorem ev_or2 {a b:CE} {p q:Bool} (h1:evE F G a ρ=.ok (.bool p)) (h2:evE F G b ρ=.ok (.bool q)):evE F G (.or_ [a,b]) ρ=.ok (.bool (p || q)):=by
 rw [xor,xR2,h1]
 cases p
 ·exact h2
 ·rfl
theorem ev_and2 {a b:CE} {p q:Bool} (h1:evE F G a ρ=.ok (.bool p)) (h2:evE F G b ρ=.ok (.bool q)):evE F G (.and_ [a,b]) ρ=.ok (.bool (p && q)):=by
 rw [xand,xA2,h1]
 cases p
 ·rfl
 ·exact h2
theorem bd {p:Bool} (h:evE F G c ρ=.ok (.bool p)) (hp:p=true↔P):evE F G c ρ=.ok (.bool (decide P)):=by
 rw [h]; congr 2; rw [Bool.eq_iff_iff,hp,decide_eq_true_iff]
end
section
variable {T:Nat→Option CF} {G:Nat→Res PV} {W:Nat} (L:Lib T G) {d:Nat} {r:List CS} {ρ:List Slot} {kb kn:List Slot→Res PV} {c:CE} {P:Prop} [Decidable P] {α:Type} {O:PR α→Res PV} {A:PR α}
include L
theorem rq (hO:O .err=.exc) (h:evE (den T G W (d+1)) G c ρ=.ok (.bool (decide P))) (k:P→run (den T G W (d+1)) G W r ρ kb kn=O A):run (den T G W (d+1)) G W (.expr (.call 0 [c])::r) ρ kb kn=O (if P then A else .err):=by
 by_cases hp:P
 ·rw [decide_eq_true hp] at h; rw [if_pos hp]; exact rn (need_y L h) (k hp)
 ·rw [decide_eq_false hp] at h; rw [if_neg hp]; unfold run; rw [run_exc (need_n L h)]; exact hO.symm
theorem rqn (hO:O .err=.exc) (h:evE (den T G W (d+1)) G c ρ=.ok (.bool (!decide P))) (k:¬ P→run (den T G W (d+1)) G W r ρ kb kn=O A):run (den T G W (d+1)) G W (.expr (.call 0 [c])::r) ρ kb kn=O (if P then .err else A):=by
 by_cases hp:P
 ·rw [decide_eq_true hp] at h; rw [if_pos hp]; unfold run; rw [run_exc (need_n L h)]; exact hO.symm
 ·rw [decide_eq_false hp] at h; rw [if_neg hp]; exact rn (need_y L h) (k hp)
end
section
variable {F:Nat→List PV→Res PV} {G:Nat→Res PV} {W:Nat} {r:List CS} {ρ:List Slot} {kb kn:List Slot→Res PV} {R:Res PV} {c e a b:CE} {v y z:PV} {i f:Nat} {l:List Int} {m:List PV}
theorem rbk (k:kb ρ=R):run F G W (.brk::r) ρ kb kn=R:=k
theorem ev_idx {n:Int} {x:PV} {R:Res PV} (h1:evE F G a ρ=.ok x) (h2:idxP x (.int n)=R):evE F G (.idx a (.lit (.int n))) ρ=R:=by
 rw [xidx,h1,b_ok,xlit,b_ok,h2]
theorem r0 (k:kn ρ=R):run F G W [] ρ kb kn=R:=k
theorem rag {x w:Int} (h:getS ρ i=.val (.int x)) (k:run F G W r (putS ρ i (.val (.int (x+w)))) kb kn=R):run F G W (.aug i .add (.lit (.int w))::r) ρ kb kn=R:=rn (by rw [xaug,h]; rfl) k
theorem rfz (h:getS ρ i=.own m) (k:run F G W r (putS ρ i (.val (.list m))) kb kn=R):run F G W (.frz i::r) ρ kb kn=R:=rn (by rw [xfrz,h]) k
theorem rap (h:getS ρ i=.own m) (he:evE F G e ρ=.ok v) (hl:m.length<lim) (k:run F G W r (putS ρ i (.own (m++[v]))) kb kn=R):run F G W (.app i e::r) ρ kb kn=R :=
 rn (by rw [xapp,h]; show (evE F G e ρ).bind _=_; rw [he,b_ok,if_pos hl]) k
theorem row0 (k:run F G W r (putS ρ i (.own [])) kb kn=R):run F G W (.own i []::r) ρ kb kn=R:=rn rfl k
theorem to_call1 (h:evE F G a ρ=.ok v):evE F G (.call f [a]) ρ=F f [v]:=by
 rw [xcall,xE1,h]; rfl
theorem nm {x:PV} (h1:evE F G a ρ=.ok x) (h2:evE F G b ρ=.ok y) (h3:evE F G c ρ=.ok z):evE F G (.tup [a,b,c]) ρ=.ok (.tuple [x,y,z]):=by
 rw [xtup,xE1,h1,b_ok,xE1,h2,b_ok,xE1,h3]; rfl
theorem tup2 (h1:evE F G a ρ=.ok y) (h2:evE F G b ρ=.ok z):evE F G (.tup [a,b]) ρ=.ok (.tuple [y,z]):=by
 rw [xtup,xE1,h1,b_ok,xE1,h2]; rfl
theorem ev_rng {p q s:Int} (h1:evE F G a ρ=.ok (.int p)) (h2:evE F G b ρ=.ok (.int q)) (h3:evE F G c ρ=.ok (.int s)):evE F G (.cmp2 .lt .lt a b c) ρ=.ok (.bool (decide (p<q) && decide (q<s))):=by
 rw [xcmp2,h1,b_ok,h2,b_ok,h3,c_lti,b_ok]
 cases decide (p<q) <;> rfl
theorem ev_and3 {p q s:Bool} (h1:evE F G a ρ=.ok (.bool p)) (h2:evE F G b ρ=.ok (.bool q)) (h3:evE F G c ρ=.ok (.bool s)):evE F G (.and_ [a,b,c]) ρ=.ok (.bool (p && (q && s))):=by
 rw [xand,xA2,h1]
 cases p
 ·rfl
 ·exact ev_and2 (p:=q) (q:=s) h2 h3
theorem ev_cut {q k:Nat} (h1:evE F G a ρ=.ok (.bytes l)) (h2:evE F G b ρ=.ok (.int (q:Int))) (h3:evE F G c ρ=.ok (.int ((q+k:Nat):Int))):evE F G (.slc a (some b) (some c)) ρ=.ok (.bytes ((l.drop q).take k)):=by
 rw [xslc,h1,b_ok,xO1,h2,b_ok,b_ok,xO1,h3,b_ok,b_ok,e_some,if_pos (Int.natCast_nonneg _),b_ok,e_some,if_pos (Int.natCast_nonneg _),b_ok,s_b]
 exact congrArg (fun x=>Res.ok (PV.bytes x)) (cut_two k)
theorem ev_pre {k:Nat} (h1:evE F G a ρ=.ok (.bytes l)) (h3:evE F G c ρ=.ok (.int (k:Int))):evE F G (.slc a none (some c)) ρ=.ok (.bytes (l.take k)):=by
 rw [xslc,h1,b_ok,xO,b_ok,xO1,h3,b_ok,b_ok,e_none,b_ok,e_some,if_pos (Int.natCast_nonneg _),b_ok,s_b]
 rfl
theorem ev_from {q:Nat} (h1:evE F G a ρ=.ok (.bytes l)) (h2:evE F G b ρ=.ok (.int (q:Int))):evE F G (.slc a (some b) none) ρ=.ok (.bytes (l.drop q)):=by
 rw [xslc,h1,b_ok,xO1,h2,b_ok,b_ok,xO,b_ok,e_some,if_pos (Int.natCast_nonneg _),b_ok,e_none,b_ok,s_b]
 rfl
theorem byte_app {x:Int} (h:∀ x∈l,0≤x∧x<256) (hx:0≤x∧x<256):∀ y∈l++[x],0≤y∧y<256:=by
 intro y hy
 rcases List.mem_append.1 hy with h' | h'
 ·exact h y h'
 ·rw [List.mem_singleton.1 h']; exact hx
theorem len_app {α:Type} {m:List α} {v:α} {q p:Nat} (h:m.length≤q) (hp:q<p):(m++[v]).length≤p:=by
 rw [List.length_append]; exact Nat.le_trans (Nat.succ_le_succ h) hp
end
section
variable {F:Nat→List PV→Res PV} {G:Nat→Res PV} {W:Nat} {ρ:List Slot} {a b c e:CE} {ts:List CS} {P:Prop} [Decidable P]
theorem ev_andF {l:List CE} (h1:evE F G a ρ=.ok (.bool false)):evE F G (.and_ (a::b::l)) ρ=.ok (.bool false):=by
 rw [xand,xA2,h1]; rfl
theorem ev_bin {o:BOp} {x y:PV} {R:Res PV} (h1:evE F G a ρ=.ok x) (h2:evE F G b ρ=.ok y) (h3:binP o x y=R):evE F G (.bin o a b) ρ=R:=by
 rw [xbin,h1,b_ok,h2,b_ok,h3]
theorem if_fun {α β:Type} (R:α→β→List Slot) {x y:α} {x' y':β} (hb:evE F G c ρ=.ok (.bool (decide P))) (hy:P→evSs F G W ts ρ=.ok (.next,R x x')) (hn:R y y'=ρ):evS F G W (.if_ c ts []) ρ=.ok (.next,R (if P then x else y) (if P then x' else y')):=by
 by_cases h:P
 ·rw [if_yes (b_yes hb h),hy h,if_pos h,if_pos h]
 ·rw [if_no (b_no hb h),run_nil,if_neg h,if_neg h,hn]
theorem if_put {α:Type} (f:α→PV) {i:Nat} {x y:α} (hb:evE F G c ρ=.ok (.bool (decide P))) (hy:P→evE F G e ρ=.ok (f x)) (hn:putS ρ i (.val (f y))=ρ):evS F G W (.if_ c [.assign i e] []) ρ=.ok (.next,putS ρ i (.val (f (if P then x else y)))) :=
 if_fun (α:=α) (β:=Unit) (fun a _=>putS ρ i (.val (f a))) (x':=()) (y':=()) hb (fun h=>run_next (to_assign (hy h))) hn
end
theorem ahead_app {x u r:List Int} (h:x=u++r):ahead x r=u:=by
 unfold ahead; rw [h,List.length_append,Nat.add_sub_cancel,List.take_left]
noncomputable def runF (x r:List Int):PR (List Int):=match r with
 | []=>.none
 | c::t=>if (c::t).length<x.length then .ok (ahead x (c::t)) (c::t) else .err
theorem runP_eq (W:Nat) (p:Int→Bool) (x:List Int):runP W p x=onS (scanN p W x) (runF x):=by
 unfold runP; rcases scanN p W x with _ | _ | ⟨c,t⟩ <;> rfl
theorem run_ok {W:Nat} {p:Int→Bool} {x a r:List Int} (h:runP W p x=.ok a r):x=a++r∧∃ c t,r=c::t:=by
 rw [runP_eq] at h
 rcases hs:scanN p W x with _ | _ | ⟨c,t⟩
 ·rw [hs] at h; cases h
 ·rw [hs] at h; cases h
 ·rw [hs] at h
  obtain ⟨u,hu⟩:=scanN_len _ _ _ _ hs
  by_cases hl:(c::t).length<x.length
  ·rw [show onS (some (c::t)) (runF x)=if (c::t).length<x.length then .ok (ahead x (c::t)) (c::t) else .err from rfl,if_pos hl,ahead_app hu] at h
   cases h; exact ⟨hu,c,t,rfl⟩
  ·rw [show onS (some (c::t)) (runF x)=if (c::t).length<x.length then .ok (ahead x (c::t)) (c::t) else .err from rfl,if_neg hl] at h
   cases h
section
variable {F:Nat→List PV→Res PV} {G:Nat→Res PV} {W:Nat} {ρ:List Slot} {kb kn:List Slot→Res PV} {a b c:CE} {l u r:List Int} {p q i j:Nat}
theorem ev_ahd (h1:evE F G a ρ=.ok (.bytes l)) (h2:evE F G b ρ=.ok (.int (q:Int))) (h3:evE F G c ρ=.ok (.int (p:Int))) (hu:l.drop q=u++r) (hp:q+u.length=p):evE F G (.slc a (some b) (some c)) ρ=.ok (.bytes (ahead (l.drop q) r)):=by
 subst hp; rw [ev_cut h1 h2 h3,ahead_app hu,hu,List.take_left]
theorem brk_or {x:Bool} {z:Int} (h:getS ρ i=.val (.bool x)) (h2:getS ρ j=.val (.int z)):run F G W [.if_ (.not_ (.var i)) [.brk] [],.aug j .add (.lit (.int 1))] ρ kb kn=if x then kn (putS ρ j (.val (.int (z+1)))) else kb ρ:=by
 have e:evE F G (.not_ (.var i)) ρ=.ok (.bool (!x)):=by rw [xnot,xvar,h]; rfl
 cases x
 ·exact ry e rfl
 ·exact rf0 e (rag h2 rfl)
end
section
variable {T:Nat→Option CF} {G:Nat→Res PV} {W:Nat} (L:Lib T G)
include L
theorem d_read_run (d:Nat) (l:List Int) (q:Nat) (hq:q≤l.length) (b:Bool):den T G W (d+3) 11 [.bytes l,.int q,.bool b]=ofRun l (runP W (if b then isLet else isTagC) (l.drop q)):=by
 rw [den_code L.t11 rfl,runP_eq]
 refine go (rs rfl (rs rfl (rw0 ?_)))
 refine scan_do (l:=l) (O:=ofRun l) (σ:=Slot × Slot) (fun z a=>[.val (.bytes l),.val (.int (q:Int)),.val (.bool b),.val (.int l.length),.val (.int z),a.1,a.2]) (if b then isLet else isTagC) rfl (fun z a n hd=>?_) (fun z a n x t hd=>⟨(.val (.int x),.val (.bool ((if b then isLet else isTagC) x))),?_⟩) W q (.unset,.unset) hq fun u r z a hu hz hr hl=>?_
 ·exact wh_n (bF (lt_no hd)) rfl
 ·refine wh_y (bT (lt_yes hd)) (rs (ix hd) ?_)
  cases b
  ·exact rf rfl (rs (Eq.trans (to_call1 rfl) (d_is_tag_char L d x)) (r0 (brk_or rfl rfl)))
  ·exact ry rfl (rs (Eq.trans (to_call1 rfl) (d_is_letter L (d+1) x)) (r0 (brk_or rfl rfl)))
 ·rcases r with _ | ⟨c,t⟩
  ·exact ry (bT (eq_yes hr hl)) (rr rfl)
  ·refine rf0 (bF (eq_no hr)) (rq L rfl (bd rfl ?_) fun _=>rr (Eq.trans (tup2 (ev_ahd rfl rfl rfl hu hz) rfl) (congrArg (fun z=>Res.ok (PV.tuple [.bytes _,.int z])) (pos_at hr hl).symm)))
   rw [decide_eq_true_iff,hu,List.length_append,← hz]; omega
theorem d_read_crlf (d:Nat) (l:List Int) (q:Nat) (hq:q≤l.length):den T G W (d+2) 12 [.bytes l,.int q]=ofCrlf l (crlfP (l.drop q)):=by
 rw [den_code L.t12 rfl]
 refine go (rs (ev_cut (k:=2) rfl rfl rfl) (rq L rfl (bd (ev_cmp rfl (ev_pre rfl rfl) rfl) beq_iff_eq) fun _=>ri0 (bd rfl (decide_eq_true_iff.trans Int.ofNat_lt)) (fun _=>rr rfl) fun h=>rr ?_))
 refine congrArg (fun z=>Res.ok (PV.int z)) (pos_at (q:=q+2) (by rw [List.drop_drop]) ?_).symm
 rw [List.length_take,List.length_drop] at h; omega
end
noncomputable def fr (F:Nat→List PV→Res PV) (G:Nat→Res PV) (W:Nat) (i:Nat) (b:List CS) (vs:List PV) (ρ:List Slot) (kb kn:List Slot→Res PV):Res PV:=thn (forN (fun ρ v=>.ok (putS ρ i (.val v))) (fun ρ=>evSs F G W b ρ) vs ρ) kb kn
section
variable {F:Nat→List PV→Res PV} {G:Nat→Res PV} {W:Nat} {ρ:List Slot} {kb kn:List Slot→Res PV} {a b c e:CE} {i:Nat} {ts r:List CS} {vs:List PV} {v:PV} {R:Res PV} {p q:Bool}
theorem rfo (h:evE F G e ρ=.ok v) (hv:itemsP v=.ok vs) (k:fr F G W i ts vs ρ kb (fun ρ=>run F G W r ρ kb kn)=R):run F G W (.for_ i e ts::r) ρ kb kn=R:=by
 rw [← k]; unfold run fr; rw [xSs,xfor,h,b_ok,hv,b_ok]
 cases forN (fun ρ v=>.ok (putS ρ i (.val v))) (fun ρ=>evSs F G W ts ρ) vs ρ with
 | ok x=>obtain ⟨f,ρ'⟩:=x; cases f <;> rfl
 | exc=>rfl
 | stuck=>rfl
theorem fr_cons (k:run F G W ts (putS ρ i (.val v)) kn (fun ρ=>fr F G W i ts vs ρ kb kn)=R):fr F G W i ts (v::vs) ρ kb kn=R:=by
 rw [← k]; unfold run fr; rw [f_cons,b_ok]
 cases evSs F G W ts (putS ρ i (.val v)) with
 | ok x=>obtain ⟨f,ρ'⟩:=x; cases f <;> rfl
 | exc=>rfl
 | stuck=>rfl
theorem ev_andC {l:List CE} (h1:evE F G a ρ=.ok (.bool p)) (h2:evE F G (.and_ (b::l)) ρ=.ok (.bool q)):evE F G (.and_ (a::b::l)) ρ=.ok (.bool (p && q)):=by
 rw [xand,xA2,h1]
 cases p
 ·rfl
 ·exact h2
theorem rib {x y:Res PV} (h:evE F G c ρ=.ok (.bool p)) (k1:run F G W ts ρ kb (fun ρ=>run F G W r ρ kb kn)=x) (k2:run F G W r ρ kb kn=y):run F G W (.if_ c ts []::r) ρ kb kn=if p then x else y:=by
 cases p
 ·exact rf0 h k2
 ·exact ry h k1
theorem bE (h:p=q):Res.ok (PV.bool p)=.ok (.bool q):=by rw [h]
end
end Mine
namespace Mine
theorem ints_app {x:Int}:∀ {m:List PV} {acc:List Int},intsOf m=some acc→intsOf (m++[.int x])=some (acc++[x])
 | [],acc,h=>by cases h; rfl
 | .int i::r,acc,h=>by
  have h':(intsOf r).map (i::·)=some acc:=h
  cases e:intsOf r with
  | none=>rw [e] at h'; cases h'
  | some a =>
   rw [e] at h'; cases h'
   show (intsOf (r++[.int x])).map (i::·)=_
   rw [ints_app e]; rfl
theorem bytes_ok {m:List PV} {acc:List Int} (h:intsOf m=some acc) (hr:∀ x∈acc,0≤x∧x<256):bytesP (.list m)=.ok (.bytes acc):=by
 show (match intsOf m with | some ns=>if ∀ n∈ns,0≤n∧n<256 then Res.ok (PV.bytes ns) else .stuck | none=>.stuck)=_
 rw [h]; exact if_pos hr
theorem quoN_34 (n:Nat) (acc t:List Int):quoN (n+1) acc (34::t)=.ok (strV acc) t:=rfl
theorem quoN_92 (n:Nat) (acc:List Int):quoN (n+1) acc [92]=.none:=rfl
theorem quoN_92y (n:Nat) (acc u:List Int) (y:Int):quoN (n+1) acc (92::y::u)=if y=34∨y=92 then quoN n (acc++[y]) u else .err:=rfl
theorem quoN_c (n:Nat) (acc t:List Int) (c:Int) (h1:c≠34) (h2:c≠92):quoN (n+1) acc (c::t)=if (0<c∧c<128)∧c≠10∧c≠13 then quoN n (acc++[c]) t else .err:=by
 show (if c=34 then _ else if c=92 then _ else _)=_
 rw [if_neg h1,if_neg h2]
section
variable {T:Nat→Option CF} {G:Nat→Res PV} {W:Nat} (L:Lib T G)
include L
noncomputable def quoB:List CS:=[.if_ (.cmp .ge (.var 1) (.var 2)) [.ret (.lit .none)] [],.assign 4 (.idx (.var 0) (.var 1)),.aug 1 .add (.lit (.int 1)),.if_ (.cmp .eq (.var 4) (.lit (.int 34))) [.frz 3,.ret (.tup [(.tup [(.lit (.str [115,116,114,105,110,103])),(.mkBytes (.var 3))]),(.var 1)])] [],.if_ (.cmp .eq (.var 4) (.lit (.int 92))) [.if_ (.cmp .ge (.var 1) (.var 2)) [.ret (.lit .none)] [],.expr (.call 0 [(.or_ [(.cmp .eq (.idx (.var 0) (.var 1)) (.lit (.int 34))),(.cmp .eq (.idx (.var 0) (.var 1)) (.lit (.int 92)))])]),.assign 4 (.idx (.var 0) (.var 1)),.aug 1 .add (.lit (.int 1))] [.expr (.call 0 [(.and_ [(.cmp2 .lt .lt (.lit (.int 0)) (.var 4) (.lit (.int 128))),(.cmp .ne (.var 4) (.lit (.int 10))),(.cmp .ne (.var 4) (.lit (.int 13)))])])],.app 3 (.var 4)]
theorem quo_loop (d:Nat) (l:List Int) (hlim:l.length<lim) (kb k:List Slot→Res PV):∀ (n q:Nat) (acc:List Int) (m:List PV) (s:Slot),q≤l.length→m.length≤q→intsOf m=some acc→(∀ x∈acc,0≤x∧x<256) →
  wh (den T G W (d+1)) G W (.lit (.bool true)) quoB n [.val (.bytes l),.val (.int q),.val (.int l.length),.own m,s] kb k=ofPR l (quoN n acc (l.drop q))
 | 0,q,acc,m,s,_,_,_,_=>rfl
 | n+1,q,acc,m,s,hq,ha,hm,hr=>by
  refine wh_y rfl ?_
  rcases hd:l.drop q with _ | ⟨c,t⟩
  ·exact re0 hd rfl
  obtain ⟨_,h2,h3⟩:=drop_cons hd
  refine re1 hd rfl (rs (ix hd) (rag rfl (ri0 (P:=c=34) (O:=ofPR l) rfl (fun _=>rfz rfl (rr (Eq.trans (tup2 (tup2 rfl (bytes_ok hm hr)) rfl) (okp (pos_tl hd))))) fun _=>ri (P:=c=92) rfl (fun _=>?_) fun _=>?_)))
  ·rcases t with _ | ⟨y,u⟩
   ·exact re0 h2 rfl
   ·refine re1 h2 rfl (rq L (P:=y=34∨y=92) rfl (bd (ev_or2 (ev_cmp (ix h2) rfl rfl) (ev_cmp (ix h2) rfl rfl)) (by rw [Bool.or_eq_true,beq_iff_eq,beq_iff_eq])) fun hy=>rs (ix h2) (rag rfl (r0 (rap rfl rfl (Nat.lt_of_le_of_lt ha (by lia)) (r0 ?_)))))
    exact (quo_loop d l hlim kb k n (q+2) (acc++[y]) (m++[.int y]) (.val (.int y)) (drop_cons h2).2.2 (len_app ha (by lia)) (ints_app hm) (byte_app hr (by lia))).trans (congrArg (fun x=>ofPR l (quoN n (acc++[y]) x)) (drop_cons h2).2.1)
  ·refine rq L (P:=(0<c∧c<128)∧c≠10∧c≠13) rfl (bd (ev_and3 (ev_rng rfl rfl rfl) rfl rfl) (by simp only [Bool.and_eq_true,decide_eq_true_iff,Bool.not_eq_true',beq_eq_false_iff_ne])) fun hy=>r0 (rap rfl rfl (Nat.lt_of_le_of_lt ha (by lia)) (r0 ?_))
   exact (quo_loop d l hlim kb k n (q+1) (acc++[c]) (m++[.int c]) (.val (.int c)) h3 (len_app ha (by lia)) (ints_app hm) (byte_app hr (by lia))).trans (congrArg (fun x=>ofPR l (quoN n (acc++[c]) x)) h2)
theorem d_read_quoted (d:Nat) (l:List Int) (hlim:l.length<lim) (q:Nat) (hq:q≤l.length):den T G W (d+2) 18 [.bytes l,.int q]=ofPR l (quoN W [] (l.drop q)):=by
 rw [den_code L.t18 rfl]
 exact go (rs rfl (row0 (rw0 (quo_loop L d l hlim _ _ W q [] [] .unset hq (Nat.zero_le _) rfl (by intro x hx; cases hx)))))
noncomputable def litB:List CS:=[.assign 4 (.bin .add (.bin .mul (.var 4) (.lit (.int 10))) (.bin .sub (.idx (.var 0) (.var 3)) (.lit (.int 48)))),.if_ (.cmp .ge (.var 4) (.glob 0)) [.assign 4 (.glob 0)] [],.aug 3 .add (.lit (.int 1))]
noncomputable def litK (k:List Slot→Res PV) (l:List Int) (p:Nat):Option (Int × List Int)→Res PV
 | none=>.stuck
 | some (v,r)=>k [.val (.bytes l),.val (.int p),.val (.int l.length),.val (.int ((l.length:Int) - (r.length:Int))),.val (.int v),.unset,.unset]
theorem lit_loop (d:Nat) (l:List Int) (p:Nat) (kb k:List Slot→Res PV):∀ (n q:Nat) (v:Int),q≤l.length→0≤v→v≤4294967296 →
  wh (den T G W (d+1)) G W (.and_ [(.cmp .lt (.var 3) (.var 2)),(.call 1 [(.idx (.var 0) (.var 3))])]) litB n
   [.val (.bytes l),.val (.int p),.val (.int l.length),.val (.int q),.val (.int v),.unset,.unset] kb k=litK k l p (litN n v (l.drop q))
 | 0,q,v,_,_,_=>rfl
 | n+1,q,v,hq,hv,hv2=>by
  rcases hd:l.drop q with _ | ⟨c,t⟩
  ·refine wh_n ?_ (by show _=k [_,_,_,.val (.int ((l.length:Int) - (([]:List Int).length:Int))),_,_,_]; rw [pos_at hd hq])
   exact ev_andF (bF (lt_no hd))
  have hc:evE (den T G W (d+1)) G (.and_ [(.cmp .lt (.var 3) (.var 2)),(.call 1 [(.idx (.var 0) (.var 3))])]) [.val (.bytes l),.val (.int p),.val (.int l.length),.val (.int q),.val (.int v),.unset,.unset]=.ok (.bool (isDig c)):=by
   refine Eq.trans (ev_and2 rfl (Eq.trans (to_call1 (ix hd)) (d_is_digit L d c))) ?_
   rw [lt_yes hd]; rfl
  show _=litK k l p (if isDig c then litN n (clamp (v * 10+(c - 48))) t else some (v,c::t))
  cases hi:isDig c
  ·exact wh_n (hi ▸ hc) (by show _=k [_,_,_,.val (.int ((l.length:Int) - ((c::t).length:Int))),_,_,_]; rw [pos_at hd hq])
  ·have h2:=drop_cons hd
   have hc':48≤c∧c≤57:=by simpa only [isDig,Bool.and_eq_true,decide_eq_true_iff] using hi
   refine wh_y (hi ▸ hc) (rs (ev_bin (ev_bin rfl rfl (if_pos ⟨by lia,by decide⟩)) (ev_bin (ix hd) rfl rfl) rfl) (rn (if_put PV.int (ev_cmp rfl L.g0 rfl) (fun _=>L.g0) rfl) (rag rfl (r0 ?_))))
   exact (lit_loop d l p kb k n (q+1) (clamp (v * 10+(c - 48))) h2.2.2 (by unfold clamp; split <;> lia) (by unfold clamp; split <;> lia)).trans (congrArg (fun x=>litK k l p (litN n (clamp (v * 10+(c - 48))) x)) h2.2.1)
omit L in
theorem litN_suf:∀ (n:Nat) (v:Int) (x:List Int) (v':Int) (r:List Int),0≤v→litN n v x=some (v',r)→(∃ u,x=u++r)∧0≤v'
 | 0,_,_,_,_,_,h=>by cases h
 | n+1,v,[],v',r,hv,h=>by simp [litN] at h; exact ⟨⟨[],by simp [h.2]⟩,by lia⟩
 | n+1,v,c::t,v',r,hv,h=>by
  rw [litN] at h
  split at h
  ·rename_i hc
   simp only [isDig,Bool.and_eq_true,decide_eq_true_iff] at hc
   obtain ⟨⟨u,e⟩,h2⟩:=litN_suf n _ t v' r (by unfold clamp; split <;> lia) h
   exact ⟨⟨c::u,by rw [e]; rfl⟩,h2⟩
  ·cases h; exact ⟨⟨[],rfl⟩,hv⟩
omit L in
theorem lit_len {l:List Int} {q m:Nat} (h:¬ (((l.drop q).take 3).length<3∨((((l.drop q).drop 3).take m).length:Int)<m)):q+3+m≤l.length:=by
 have h1:=Nat.not_lt.1 fun hh=>h (.inl hh)
 have h2:m≤(((l.drop q).drop 3).take m).length:=Nat.not_lt.1 fun hh=>h (.inr (Int.ofNat_lt.2 hh))
 rw [List.length_take,List.length_drop] at h1
 rw [List.length_take,List.length_drop,List.length_drop] at h2
 omega
theorem d_read_literal (d:Nat) (l:List Int) (p:Nat) (hp:p≤l.length):den T G W (d+2) 19 [.bytes l,.int p]=ofPR l (litP W (l.drop p)):=by
 rw [den_code L.t19 rfl]
 refine go (rs rfl (rs rfl (rs rfl (rw0 ((lit_loop L d l p _ _ W p 0 hp (Int.le_refl 0) (by decide)).trans ?_)))))
 show _=ofPR l (match litN W 0 (l.drop p) with | none=>.stuck | some (n,r)=>_)
 rcases hs:litN W 0 (l.drop p) with _ | ⟨n,r⟩
 ·rfl
 obtain ⟨⟨u,hu⟩,hn0⟩:=litN_suf _ _ _ _ _ (Int.le_refl 0) hs
 obtain ⟨q,hqu,hqr,rfl,hql⟩:=rest_at hu hp
 obtain ⟨m,rfl⟩:=Int.eq_ofNat_of_zero_le hn0
 show run _ _ _ _ [_,_,_,.val (.int ((l.length:Int) - ((l.drop q).length:Int))),_,_,_] _ _=_
 rw [hqr]
 refine rq L rfl (ev_cmp rfl L.g0 rfl) fun _=>rs (ev_cut (k:=3) rfl rfl rfl) (rq L rfl (bd (ev_cmp rfl (ev_pre rfl rfl) rfl) beq_iff_eq) fun _=>rq L rfl (bd (ev_or2 (ev_cmp rfl rfl rfl) (ev_cmp rfl rfl rfl)) ?_) fun _ =>
  rs (v:=.bytes (((l.drop q).drop 3).take m)) (Eq.trans (ev_cut (q:=q+3) (k:=m) rfl rfl rfl) (by rw [List.drop_drop])) (rqn L rfl rfl fun _=>ri0 (bd (ev_or2 (ev_cmp rfl rfl rfl) (ev_cmp rfl rfl rfl)) ?_) (fun _=>rr rfl) fun h5=>rr ?_))
 ·simp only [Bool.or_eq_true,decide_eq_true_iff,beq_iff_eq,List.length_drop]; lia
 ·rw [Bool.or_eq_true,decide_eq_true_iff,decide_eq_true_iff]; exact or_congr Int.ofNat_lt Iff.rfl
 ·exact okp (pos_at (q:=q+3+m) (by rw [List.drop_drop,Nat.add_assoc]; rfl) (lit_len h5))
end
end Mine
namespace Mine
section
variable {T:Nat→Option CF} {G:Nat→Res PV} {W:Nat} (L:Lib T G)
include L
omit L in
theorem skip_no {c:Int} {t:List Int} (h:c≠92):skip92 (c::t)=c::t:=by
 unfold skip92; split
 ·rename_i heq; cases heq; exact absurd rfl h
 ·rfl
noncomputable def wordF (x r:List Int):PR PV:=match r with
 | []=>.none
 | c::t=>wordEnd (ahead x (c::t)) (c::t)
omit L in
theorem wordP_eq (W:Nat) (x:List Int):wordP W x=onS (scanN isAtomC W (skip92 x)) (wordF x):=by
 unfold wordP; rcases scanN isAtomC W (skip92 x) with _ | _ | ⟨c,t⟩ <;> rfl
theorem d_read_word (d:Nat) (l:List Int) (hD:∀ x∈l,0≤x∧x<256) (p:Nat) (hp:p≤l.length):den T G W (d+3) 20 [.bytes l,.int p]=ofPR l (wordP W (l.drop p)):=by
 rw [den_code L.t20 rfl,wordP_eq]
 refine go (rs rfl (rs rfl ?_))
 have hf:∃ (q:Nat) (v:List Int),q≤l.length∧p+v.length=q∧l.drop p=v++l.drop q∧l.drop q=skip92 (l.drop p)∧∀ r kb kn,run (den T G W (d+2)) G W (.if_ (.and_ [(.cmp .lt (.var 3) (.var 2)),(.cmp .eq (.idx (.var 0) (.var 3)) (.lit (.int 92)))]) [.aug 3 .add (.lit (.int 1))] []::r) [.val (.bytes l),.val (.int p),.val (.int l.length),.val (.int p),.unset,.unset] kb kn =
   run (den T G W (d+2)) G W r [.val (.bytes l),.val (.int p),.val (.int l.length),.val (.int q),.unset,.unset] kb kn:=by
  rcases hd:l.drop p with _ | ⟨c,t⟩
  ·exact ⟨p,[],hp,rfl,hd.symm,hd,fun r kb kn=>rf0 (ev_andF (bF (lt_no hd))) rfl⟩
  ·have h2:=drop_cons hd
   by_cases hc:c=92
   ·subst hc
    exact ⟨p+1,[92],h2.2.2,rfl,by rw [h2.2.1]; rfl,h2.2.1,fun r kb kn=>ry (Eq.trans (ev_and2 rfl (ev_cmp (ix hd) rfl rfl)) (by rw [lt_yes hd]; rfl)) (rag rfl rfl)⟩
   ·exact ⟨p,[],hp,rfl,hd.symm,hd.trans (skip_no hc).symm,fun r kb kn=>rf0 (Eq.trans (ev_and2 rfl (ev_cmp (r:=false) (ix hd) rfl (by show Res.ok (c == 92)=_; rw [beq_eq_false_iff_ne.2 hc]))) (bF (Bool.and_false _))) rfl⟩
 obtain ⟨q,v,hq,hv,hpq,hdq,he⟩:=hf
 refine (he _ _ _).trans (rw0 ?_)
 rw [← hdq]
 refine scan_do (l:=l) (O:=ofPR l) (σ:=Unit) (fun z _=>[.val (.bytes l),.val (.int p),.val (.int l.length),.val (.int z),.unset,.unset]) isAtomC rfl (fun z a n hd=>?_) (fun z a n x t hd=>⟨(),?_⟩) W q () hq fun u r z _ hu hz hr hl=>?_
 ·exact wh_n (ev_andF (bF (lt_no hd))) rfl
 ·exact wh_b (Eq.trans (ev_and2 rfl (Eq.trans (to_call1 (ix hd)) (d_is_atom_char L (d+1) x))) (by rw [lt_yes hd]; rfl)) (rag rfl rfl)
 rcases r with _ | ⟨c,t⟩
 ·exact ry (bT (eq_yes hr hl)) (rr rfl)
 refine rf0 (bF (eq_no hr)) (rs (ev_ahd (u:=v++u) rfl rfl rfl (by rw [hpq,hu,List.append_assoc]) (by rw [List.length_append,← Nat.add_assoc,hv,hz])) ?_)
 have hwD:∀ x∈ahead (l.drop p) (c::t),0≤x∧x<256:=fun x hx=>hD x (List.drop_subset _ _ (List.take_subset _ _ hx))
 show _=ofPR l (wordEnd (ahead (l.drop p) (c::t)) (c::t))
 generalize ahead (l.drop p) (c::t)=w at hwD
 refine rq L rfl (bd (ev_and2 rfl rfl) ?_) fun _=>ri0 (bd (ev_and2 rfl (ev_cmp (Eq.trans (to_call1 rfl) (d_upper L (d+1) w hwD)) rfl rfl)) ?_) (fun _=>rr (okp (pos_at hr hl))) fun _=>ri0 (bd (Eq.trans (to_call1 rfl) (d_all_digits L d w)) Iff.rfl) (fun h=>rs (Eq.trans (to_call1 rfl) (d_digits_value L (d+1) w ?_)) (rq L rfl (ev_cmp rfl L.g0 rfl) fun _=>rr (okp (pos_at hr hl)))) fun _=>rr (okp (pos_at hr hl))
 ·simp only [Bool.and_eq_true,Bool.not_eq_true',beq_eq_false_iff_ne]
 ·rw [Bool.and_eq_true,beq_iff_eq,beq_iff_eq]; exact and_congr_left fun _=>Int.ofNat_inj
 ·unfold allDig at h; rw [Bool.and_eq_true,List.all_eq_true] at h; exact h.2
noncomputable def lstB:List CS:=[.assign 5 (.call 21 [(.var 0),(.var 1),(.bin .sub (.var 2) (.lit (.int 1)))]),.if_ (.cmp .is_ (.var 5) (.lit .none)) [.ret (.lit .none)] [],.app 4 (.idx (.var 5) (.lit (.int 0))),.assign 1 (.idx (.var 5) (.lit (.int 1))),.if_ (.cmp .ge (.var 1) (.var 3)) [.ret (.lit .none)] [],.if_ (.cmp .eq (.idx (.var 0) (.var 1)) (.lit (.int 41))) [.frz 4,.ret (.tup [(.tup [(.lit (.str [108,105,115,116])),(.var 4)]),(.bin .add (.var 1) (.lit (.int 1)))])] [],.expr (.call 0 [(.cmp .eq (.idx (.var 0) (.var 1)) (.lit (.int 32)))]),.aug 1 .add (.lit (.int 1))]
noncomputable def Eats (v:List Int→PR PV):Prop:=∀ x a r,v x=.ok a r→∃ u,u≠[]∧x=u++r
theorem lst_loop (d:Nat) (l:List Int) (hlim:l.length<lim) (dep:Nat) (v:List Int→PR PV) (hv:∀ p:Nat,p≤l.length→den T G W (d+1) 21 [.bytes l,.int p,.int dep]=ofPR l (v (l.drop p))) (hE:Eats v) (kb k:List Slot→Res PV) :
  ∀ (n q:Nat) (acc:List PV) (s:Slot),q≤l.length→acc.length≤q →
  wh (den T G W (d+1)) G W (.lit (.bool true)) lstB n [.val (.bytes l),.val (.int q),.val (.int ((dep:Int)+1)),.val (.int l.length),.own acc,s] kb k=ofPR l (itemsN v n acc (l.drop q))
 | 0,q,acc,s,_,_=>rfl
 | n+1,q,acc,s,hq,ha=>by
  refine wh_y rfl (rc (out_pr l).toOut0 (out_pr l) (w:=fun v r=>.tuple [v,.int ((l.length:Int) - (r.length:Int))]) (X:=v (l.drop q)) ?_ rfl fun a r e=>?_)
  ·show den T G W (d+1) 21 [.bytes l,.int q,.int ((dep:Int)+1 - 1)]=_
   rw [Int.add_sub_cancel]; exact hv q hq
  ·obtain ⟨u,hu0,hu⟩:=hE _ _ _ e
   obtain ⟨z,hz,hzr,hd,hzl⟩:=rest_at hu hq
   have hqz:q<z:=by rw [← hz]; exact Nat.lt_add_of_pos_right (List.length_pos_iff.2 hu0)
   refine rap rfl rfl (Nat.lt_of_le_of_lt (Nat.le_trans ha hq) hlim) (rs (v:=.int (z:Int)) (congrArg (fun z=>Res.ok (PV.int z)) hzr) ?_)
   rcases r with _ | ⟨c,t⟩
   ·exact re0 hd rfl
   have h2:=drop_cons hd
   refine re1 hd rfl (ri0 (P:=c=41) (ev_cmp (ix hd) rfl rfl) (fun _=>rfz rfl (rr (okp (pos_tl hd)))) fun _=>rq L (P:=c=32) rfl (ev_cmp (ix hd) rfl rfl) fun _=>rag rfl (r0 ?_))
   exact (lst_loop d l hlim dep v hv hE kb k n (z+1) (acc++[a]) _ h2.2.2 (len_app ha (Nat.lt_succ_of_lt hqz))).trans (congrArg (fun x=>ofPR l (itemsN v n (acc++[a]) x)) h2.2.1)
theorem d_read_list (d:Nat) (l:List Int) (hlim:l.length<lim) (dep:Nat) (v:List Int→PR PV) (hv:∀ p:Nat,p≤l.length→den T G W (d+1) 21 [.bytes l,.int p,.int dep]=ofPR l (v (l.drop p))) (hE:Eats v)
  (q:Nat) (hq:q≤l.length):den T G W (d+2) 17 [.bytes l,.int q,.int ((dep:Int)+1)]=ofPR l (lstP W v (l.drop q)):=by
 rw [den_code L.t17 rfl]
 refine go (rn (need_y L (bT (decide_eq_true (Int.lt_add_one_of_le (Int.natCast_nonneg dep))))) (rs rfl (row0 ?_)))
 rcases hd:l.drop q with _ | ⟨c,t⟩
 ·exact re0 hd rfl
 refine re1 hd rfl (ri0 (P:=c=41) (ev_cmp (ix hd) rfl rfl) (fun _=>rfz rfl (rr (okp (pos_tl hd)))) fun _=>rw0 ?_)
 exact (lst_loop L d l hlim dep v hv hE _ _ W q [] .unset hq (Nat.zero_le _)).trans (congrArg (fun x=>ofPR l (itemsN v W [] x)) hd)
theorem d_read_list0 (d:Nat) (l:List Int) (q:Nat):den T G W (d+2) 17 [.bytes l,.int q,.int 0]=.exc:=by
 rw [den_code L.t17 rfl]
 exact congrArg outS (run_exc (need_n L rfl))
omit L in
theorem eats_quo:∀ (n:Nat) (acc x:List Int) (a:PV) (r:List Int),quoN n acc x=.ok a r→∃ u,u≠[]∧x=u++r
 | 0,_,_,_,_,h=>by cases h
 | n+1,acc,[],a,r,h=>by simp [quoN] at h
 | n+1,acc,c::t,a,r,h=>by
  by_cases c34:c=34
  ·subst c34; rw [quoN_34] at h; cases h; exact ⟨[34],by simp,rfl⟩
  ·by_cases c92:c=92
   ·subst c92
    cases t with
    | nil=>rw [quoN_92] at h; cases h
    | cons y u =>
     rw [quoN_92y] at h
     split at h
     ·obtain ⟨w,_,e⟩:=eats_quo n _ _ _ _ h
      exact ⟨92::y::w,by simp,by rw [e]; rfl⟩
     ·cases h
   ·rw [quoN_c _ _ _ _ c34 c92] at h
    split at h
    ·obtain ⟨w,_,e⟩:=eats_quo n _ _ _ _ h
     exact ⟨c::w,by simp,by rw [e]; rfl⟩
    ·cases h
omit L in
theorem eats_word:Eats (wordP W):=by
 intro x a r h
 unfold wordP at h
 split at h
 ·cases h
 ·cases h
 ·rename_i c t hs
  obtain ⟨u,hu⟩:=scanN_len _ _ _ _ hs
  have hx:∃ v,x=v++(c::t):=by
   cases x with
   | nil=>exact ⟨u,hu⟩
   | cons b y =>
    by_cases hb:b=92
    ·subst hb; exact ⟨92::u,by rw [show y=u++c::t from hu]; rfl⟩
    ·refine ⟨u,?_⟩
     have:skip92 (b::y)=b::y:=by unfold skip92; split; (rename_i heq; cases heq; exact absurd rfl hb); rfl
     rw [this] at hu; exact hu
  obtain ⟨v,hv⟩:=hx
  have ha:=ahead_app hv
  unfold wordEnd at h
  rw [ha] at h
  by_cases hne:v≠[]∧v≠[92]
  ·have hr:r=c::t:=by
    rw [if_pos hne] at h
    split at h
    ·cases h; rfl
    ·split at h
     ·split at h
      ·cases h; rfl
      ·cases h
     ·cases h; rfl
   exact ⟨v,hne.1,by rw [hr]; exact hv⟩
  ·rw [if_neg hne] at h; cases h
omit L in
theorem eats_lit {x:List Int} {a:PV} {r:List Int} (h:litP W x=.ok a r):∃ u,u≠[]∧x=u++r:=by
 unfold litP at h
 split at h
 ·cases h
 ·rename_i n q hs
  obtain ⟨⟨u,hu⟩,_⟩:=litN_suf _ _ _ _ _ (by lia) hs
  split at h
  ·split at h
   ·split at h
    ·split at h
     ·cases h
     ·split at h
      ·cases h
      ·rename_i h5
       cases h
       simp only [not_or,Nat.not_lt,List.length_take,List.length_drop] at h5
       refine ⟨u++q.take (3+n.toNat),?_,?_⟩
       ·intro e
        have:(u++q.take (3+n.toNat)).length=0:=by rw [e]; rfl
        rw [List.length_append,List.length_take] at this; lia
       ·rw [List.append_assoc,List.take_append_drop]; exact hu
    ·cases h
   ·cases h
  ·cases h
omit L in
theorem eats_items (v:List Int→PR PV) (hE:Eats v):∀ (n:Nat) (acc:List PV) (x:List Int) (a:PV) (r:List Int),itemsN v n acc x=.ok a r→∃ u,u≠[]∧x=u++r
 | 0,_,_,_,_,h=>by cases h
 | n+1,acc,x,a,r,h=>by
  rw [itemsN] at h
  cases hv:v x with
  | none=>rw [hv] at h; cases h
  | err=>rw [hv] at h; cases h
  | stuck=>rw [hv] at h; cases h
  | ok b y =>
   rw [hv] at h
   obtain ⟨u,hu0,hu⟩:=hE _ _ _ hv
   simp only [PR.bind] at h
   cases y with
   | nil=>cases h
   | cons c t =>
    simp only at h
    split at h
    ·cases h; exact ⟨u++[c],by simp,by rw [hu]; simp⟩
    ·split at h
     ·obtain ⟨w,_,e⟩:=eats_items v hE n _ _ _ _ h
      exact ⟨u++c::w,by simp,by rw [hu,e]; simp⟩
     ·cases h
omit L in
theorem valP_nil (dep:Nat):valP W dep []=.none:=by cases dep <;> rfl
omit L in
theorem valP_cons (dep:Nat) (c:Int) (t:List Int):valP W dep (c::t)=if c=40 then (match dep with | 0=>.err | dep+1=>lstP W (valP W dep) t) else if c=34 then quoN W [] t else if c=123 then litP W t else wordP W (c::t):=by cases dep <;> rfl
omit L in
theorem eats_val:∀ dep:Nat,Eats (valP W dep)
 | dep,[],a,r,h=>by rw [valP_nil] at h; cases h
 | dep,c::t,a,r,h=>by
  rw [valP_cons] at h
  split at h
  ·cases dep with
   | zero=>cases h
   | succ dep =>
    simp only at h
    unfold lstP at h
    cases t with
    | nil=>cases h
    | cons b y =>
     simp only at h
     split at h
     ·cases h; exact ⟨[c,b],by simp,rfl⟩
     ·obtain ⟨u,_,e⟩:=eats_items _ (eats_val dep) _ _ _ _ _ h
      exact ⟨c::u,by simp,by rw [e]; rfl⟩
  ·split at h
   ·obtain ⟨u,_,e⟩:=eats_quo _ _ _ _ _ h
    exact ⟨c::u,by simp,by rw [e]; rfl⟩
   ·split at h
    ·obtain ⟨u,_,e⟩:=eats_lit h
     exact ⟨c::u,by simp,by rw [e]; rfl⟩
    ·exact eats_word _ _ _ h
theorem val_head (d:Nat) (l:List Int) (hlim:l.length<lim) (hD:∀ x∈l,0≤x∧x<256) (dep:Nat) (p:Nat) (hp:p≤l.length)
  (hl:∀ t,l.drop p=40::t→den T G W (d+3) 17 [.bytes l,.int ((p:Int)+1),.int dep]=ofPR l (match dep with | 0=>.err | dep+1=>lstP W (valP W dep) t)) :
  den T G W (d+4) 21 [.bytes l,.int p,.int dep]=ofPR l (valP W dep (l.drop p)):=by
 rw [den_code L.t21 rfl]
 refine go ?_
 rcases hd:l.drop p with _ | ⟨c,t⟩
 ·rw [valP_nil]; exact re0 hd rfl
 have h2:=drop_cons hd
 rw [valP_cons]
 refine re1 hd rfl (rs (ix hd) (ri0 (O:=ofPR l) rfl (fun h=>rr (hl t (h ▸ hd))) fun _=>ri0 rfl (fun _=>rr ?_) fun _=>ri0 rfl (fun _=>rr ?_) fun _=>rr ?_))
 ·exact (d_read_quoted L (d+1) l hlim (p+1) h2.2.2).trans (congrArg (fun x=>ofPR l (quoN W [] x)) h2.2.1)
 ·exact (d_read_literal L (d+1) l (p+1) h2.2.2).trans (congrArg (fun x=>ofPR l (litP W x)) h2.2.1)
 ·exact (d_read_word L d l hD p hp).trans (congrArg (fun x=>ofPR l (wordP W x)) hd)
theorem d_read_value (l:List Int) (hlim:l.length<lim) (hD:∀ x∈l,0≤x∧x<256):∀ (dep:Nat) (d:Nat) (p:Nat),p≤l.length→den T G W (d+2 * dep+4) 21 [.bytes l,.int p,.int dep]=ofPR l (valP W dep (l.drop p)):=by
 intro dep
 induction dep with
 | zero =>
  intro d p hp
  exact val_head L d l hlim hD 0 p hp fun t ht=>by
   have hl1:((p:Int)+1)=((p+1:Nat):Int):=by lia
   rw [hl1]
   exact d_read_list0 L (d+1) l (p+1)
 | succ dep ih =>
  intro d p hp
  refine val_head L (d+2 * (dep+1)) l hlim hD (dep+1) p hp fun t ht=>?_
  obtain ⟨_,g2,g3⟩:=drop_cons ht
  have hl1:((p:Int)+1)=((p+1:Nat):Int):=by lia
  have hd1:(((dep+1:Nat):Int))=(dep:Int)+1:=by lia
  rw [hl1,hd1]
  have e:d+2 * (dep+1)+3=(d+2 * dep+3)+2:=by lia
  rw [e,d_read_list L (d+2 * dep+3) l hlim dep (valP W dep) (fun q hq=>ih d q hq) (eats_val dep) (p+1) (by lia),g2]
end
end Mine
namespace Mine
section
variable {T:Nat→Option CF} {G:Nat→Res PV} {W:Nat} (L:Lib T G)
include L
noncomputable def cmdB:List CS:=[.if_ (.cmp .ge (.var 4) (.var 6)) [.ret (.lit .none)] [],.if_ (.cmp .ne (.idx (.var 0) (.var 4)) (.lit (.int 32))) [.assign 8 (.call 12 [(.var 0),(.var 4)]),.if_ (.cmp .is_ (.var 8) (.lit .none)) [.ret (.lit .none)] [],.frz 7,.ret (.tup [(.tup [(.var 3),(.call 8 [(.var 5)]),(.var 7)]),(.var 8)])] [],.assign 2 (.call 21 [(.var 0),(.bin .add (.var 4) (.lit (.int 1))),(.var 1)]),.if_ (.cmp .is_ (.var 2) (.lit .none)) [.ret (.lit .none)] [],.app 7 (.idx (.var 2) (.lit (.int 0))),.assign 4 (.idx (.var 2) (.lit (.int 1)))]
noncomputable def ofCmd (l tag name:List Int):PR (List PV)→Res PV
 | .none=>.ok .none
 | .err=>.exc
 | .stuck=>.stuck
 | .ok vs r=>.ok (.tuple [.tuple [.bytes tag,.bytes (up name),.list vs],.int ((l.length:Int) - (r.length:Int))])
omit L in
theorem out_cmd (l tag name:List Int):Out (ofCmd l tag name) (fun vs r=>.tuple [.tuple [.bytes tag,.bytes (up name),.list vs],.int ((l.length:Int) - (r.length:Int))]):=⟨⟨rfl,rfl,rfl⟩,fun _ _=>rfl,fun _ _=>rfl⟩
theorem cmd_loop (d:Nat) (l:List Int) (hlim:l.length<lim) (dep:Nat) (tag name:List Int) (hname:∀ x∈name,0≤x∧x<256) (v:List Int→PR PV) (hv:∀ p:Nat,p≤l.length→den T G W (d+2) 21 [.bytes l,.int p,.int dep]=ofPR l (v (l.drop p))) (hE:Eats v) (kb k:List Slot→Res PV) :
  ∀ (n q:Nat) (acc:List PV) (s:Slot),q≤l.length→acc.length≤q →
  wh (den T G W (d+2)) G W (.lit (.bool true)) cmdB n [.val (.bytes l),.val (.int dep),s,.val (.bytes tag),.val (.int q),.val (.bytes name),.val (.int l.length),.own acc,.unset] kb k=ofCmd l tag name (valsN v n acc (l.drop q))
 | 0,q,acc,s,_,_=>rfl
 | n+1,q,acc,s,hq,ha=>by
  refine wh_y rfl ?_
  rcases hd:l.drop q with _ | ⟨c,t⟩
  ·exact re0 hd rfl
  have h2:=drop_cons hd
  refine re1 hd rfl (rin (P:=c=32) (O:=ofCmd l tag name) (ev_cmp (ix hd) rfl rfl) (fun _=>?_) fun _=>?_)
  ·refine rc (out_cmd l tag name).toOut0 (out_pr l) (w:=fun v r=>.tuple [v,.int ((l.length:Int) - (r.length:Int))]) (X:=v t) ((hv (q+1) h2.2.2).trans (congrArg (fun x=>ofPR l (v x)) h2.2.1)) rfl fun a r e=>?_
   obtain ⟨u,hu0,hu⟩:=hE _ _ _ e
   obtain ⟨z,hz,hzr,hd',hzl⟩:=rest_at (h2.2.1.trans hu) h2.2.2
   refine rap rfl rfl (Nat.lt_of_le_of_lt (Nat.le_trans ha hq) hlim) (rs (v:=.int (z:Int)) (congrArg (fun z=>Res.ok (PV.int z)) hzr) (r0 ?_))
   exact (cmd_loop d l hlim dep tag name hname v hv hE kb k n z (acc++[a]) _ hzl (len_app ha (by rw [← hz]; exact Nat.le_add_right _ _))).trans (congrArg (fun x=>ofCmd l tag name (valsN v n (acc++[a]) x)) hd')
  ·exact rc (out_cmd l tag name).toOut0 (out_crlf l) (w:=fun _ r=>.int ((l.length:Int) - (r.length:Int))) (X:=crlfP (c::t)) ((d_read_crlf L d l q hq).trans (congrArg (fun x=>ofCrlf l (crlfP x)) hd)) rfl fun _ r e=>rfz rfl (rr (tup2 (nm rfl (Eq.trans (to_call1 rfl) (d_upper L (d+1) name hname)) rfl) rfl))
theorem d_read_command (l:List Int) (hlim:l.length<lim) (hD:∀ x∈l,0≤x∧x<256) (dep d:Nat):den T G W (d+2 * dep+5) 28 [.bytes l,.int dep]=ofPR l (cmdP W dep l):=by
 rw [den_code L.t28 rfl]
 refine go (rc (out_pr l).toOut0 (out_run l) (w:=fun v r=>.tuple [.bytes v,.int ((l.length:Int) - (r.length:Int))]) (d_read_run L (d+2 * dep+1) l 0 (Nat.zero_le _) false) rfl fun tag r e=>?_)
 obtain ⟨hu,c,t,rfl⟩:=run_ok e
 obtain ⟨z,hz,hzr,hd,hzl⟩:=rest_at (q:=0) hu (Nat.zero_le _)
 have h2:=drop_cons hd
 refine rs rfl (rs (v:=.int (z:Int)) (congrArg (fun z=>Res.ok (PV.int z)) hzr) (rq L (P:=c=32) rfl (ev_cmp (ix hd) rfl rfl) fun _=>rc (out_pr l).toOut0 (out_run l) (w:=fun v r=>.tuple [.bytes v,.int ((l.length:Int) - (r.length:Int))]) (X:=runP W isLet t) ((d_read_run L (d+2 * dep+1) l (z+1) h2.2.2 true).trans (congrArg (fun x=>ofRun l (runP W isLet x)) h2.2.1)) rfl fun name r2 e2=>?_))
 have hn:l.drop (z+1)=name++r2:=h2.2.1.trans (run_ok e2).1
 obtain ⟨y,hy,hyr,hd2,hyl⟩:=rest_at hn h2.2.2
 refine rs rfl (rs (v:=.int (y:Int)) (congrArg (fun z=>Res.ok (PV.int z)) hyr) (rs rfl (row0 (rw0 ((cmd_loop L (d+2 * dep+2) l hlim dep tag name (fun x hx=>hD x (List.drop_subset _ _ (by rw [hn]; exact List.mem_append_left _ hx))) (valP W dep) (fun p hp=>d_read_value L l hlim hD dep d p hp) (eats_val dep) _ _ W y [] _ hyl (Nat.zero_le _)).trans ?_)))))
 rw [hd2]
 cases valsN (valP W dep) W [] r2 <;> rfl
end
end Mine
namespace Mine
noncomputable def txtC (c:Int):Bool:=decide (c≠10) && decide (c≠13) && decide (c≠0)
section
variable {T:Nat→Option CF} {G:Nat→Res PV} {W:Nat} (L:Lib T G)
include L
noncomputable def textF (x r:List Int):PR (List Int):=match r with
 | []=>(match x with
  | []=>.none
  | c::_=>if c=91 then .err else .none)
 | c::t =>
  if c=13 then
   match ahead x (c::t) with
   | []=>.err
   | a::u=>if a=91 then .err else (crlfP (c::t)).bind fun _ r=>.ok (a::u) r
  else .err
omit L in
theorem textP_eq (W:Nat) (x:List Int):textP W x=onS (scanN txtC W x) (textF x):=by
 unfold textP
 rw [show (fun c:Int=>decide (c≠10) && decide (c≠13) && decide (c≠0))=txtC from rfl]
 rcases scanN txtC W x with _ | _ | ⟨c,t⟩ <;> rfl
omit L in
theorem txt_eq {x:Int}:(true && (!decide (x=10) && (!decide (x=13) && !decide (x=0))))=txtC x:=by
 unfold txtC; rw [Bool.true_and,decide_not,decide_not,decide_not,Bool.and_assoc]
theorem d_read_text (d:Nat) (l:List Int) (p:Nat) (hp:p≤l.length):den T G W (d+3) 24 [.bytes l,.int p]=ofRun l (textP W (l.drop p)):=by
 rw [den_code L.t24 rfl,textP_eq]
 refine go (rs rfl (rs rfl (rw0 ?_)))
 refine scan_do (l:=l) (O:=ofRun l) (σ:=Unit) (fun z _=>[.val (.bytes l),.val (.int p),.val (.int l.length),.val (.int z),.unset,.unset]) txtC rfl (fun z a n hd=>?_) (fun z a n x t hd=>⟨(),?_⟩) W p () hp fun u r z _ hu hz hr hl=>?_
 ·exact wh_n (ev_andF (bF (lt_no hd))) rfl
 ·exact wh_b (Eq.trans (ev_andC rfl (ev_and3 (ev_cmp (ix hd) rfl rfl) (ev_cmp (ix hd) rfl rfl) (ev_cmp (ix hd) rfl rfl))) (bE (by rw [lt_yes hd]; exact txt_eq))) (rag rfl rfl)
 have ha:=ahead_app hu
 rcases r with _ | ⟨c,t⟩
 ·refine rf0 (bF (lt_no hr)) (rs (v:=.bytes u) (Eq.trans (ev_ahd rfl rfl rfl hu hz) (by rw [ha])) ?_)
  rw [hu]
  rcases u with _ | ⟨a,y⟩
  ·exact rf rfl (rf0 (bF (lt_no hr)) (r0 (ry (bT (eq_yes hr hl)) (rr rfl))))
  ·exact ry (bT (decide_eq_true (Int.natCast_pos.2 (Nat.succ_pos _)))) (rqn L (P:=a=91) (O:=ofRun l) rfl rfl fun _=>r0 (ry (bT (eq_yes hr hl)) (rr rfl)))
 ·refine ry (bT (lt_yes hr)) (rq L (P:=c=13) (O:=ofRun l) rfl (ev_cmp (ix hr) rfl rfl) fun _=>r0 (rs (v:=.bytes u) (Eq.trans (ev_ahd rfl rfl rfl hu hz) (by rw [ha])) ?_))
  rw [ha]
  rcases u with _ | ⟨a,y⟩
  ·exact rf rfl (ry (bT (lt_yes hr)) rfl)
  ·exact ry (bT (decide_eq_true (Int.natCast_pos.2 (Nat.succ_pos _)))) (rqn L (P:=a=91) (O:=ofRun l) rfl rfl fun _=>r0 (rf0 (bF (eq_no hr)) (rc (out_run l).toOut0 (out_crlf l) (w:=fun _ r=>.int ((l.length:Int) - (r.length:Int))) (X:=crlfP (c::t)) ((d_read_crlf L d l z hl).trans (congrArg (fun x=>ofCrlf l (crlfP x)) hr)) rfl fun _ r e=>rr rfl)))
noncomputable def optV:Option (List Int)→PV
 | none=>.none
 | some w=>.bytes w
noncomputable def stB:List CS:=[.assign 3 (.len (.var 2)),.assign 4 (.slc (.var 0) (some (.var 1)) (some (.bin .add (.bin .add (.var 1) (.var 3)) (.lit (.int 1))))),.if_ (.and_ [(.cmp .eq (.len (.var 4)) (.bin .add (.var 3) (.lit (.int 1)))),(.cmp .eq (.call 8 [(.var 4)]) (.bin .add (.var 2) (.lit (.bytes [32]))))]) [.ret (.var 2)] []]
theorem st_loop (d:Nat) (l:List Int) (hD:∀ x∈l,0≤x∧x<256) (p:Nat) (kb:List Slot→Res PV):∀ (ws:List (List Int)) (s2 s3 s4:Slot),(∀ w∈ws,w.length≤10) →
  fr (den T G W (d+1)) G W 2 stB (ws.map PV.bytes) [.val (.bytes l),.val (.int p),s2,s3,s4] kb kN=.ok (optV (ws.find? fun w=>decide (((l.drop p).take (w.length+1)).length=w.length+1) && decide (up ((l.drop p).take (w.length+1))=w++[32])))
 | [],_,_,_,_=>rfl
 | w::ws,s2,s3,s4,hw=>by
  refine fr_cons (rs rfl (rs (ev_cut (q:=p) (k:=w.length+1) rfl rfl rfl) ?_))
  have hu:=d_upper (W:=W) L d ((l.drop p).take (w.length+1)) fun y hy=>hD y (List.drop_subset _ _ (List.take_subset _ _ hy))
  have ih:=st_loop d l hD p kb ws (.val (.bytes w)) (.val (.int w.length)) (.val (.bytes ((l.drop p).take (w.length+1)))) fun x hx=>hw x (List.mem_cons_of_mem _ hx)
  have hz:binP .add (.bytes w) (.bytes [32])=.ok (.bytes (w++[32])):=if_pos (Nat.le_trans (Nat.succ_le_succ (hw w (List.mem_cons_self ..))) (show 11≤lim by decide))
  refine (rib (p:=decide (((l.drop p).take (w.length+1)).length=w.length+1) && decide (up ((l.drop p).take (w.length+1))=w++[32])) (Eq.trans (ev_and2 rfl (ev_cmp (Eq.trans (to_call1 rfl) hu) (ev_bin (R:=.ok (.bytes (w++[32]))) rfl rfl hz) rfl)) (bE ?_)) (rr rfl) (r0 ih)).trans ?_
  ·rw [Bool.eq_iff_iff,Bool.and_eq_true,Bool.and_eq_true,beq_iff_eq,beq_iff_eq,decide_eq_true_iff,decide_eq_true_iff]; exact and_congr_left fun _=>Int.ofNat_inj
  ·rw [List.find?_cons]
   cases decide (((l.drop p).take (w.length+1)).length=w.length+1) && decide (up ((l.drop p).take (w.length+1))=w++[32]) <;> rfl
theorem d_status_word (d:Nat) (l:List Int) (hD:∀ x∈l,0≤x∧x<256) (p:Nat) (hp:p≤l.length):den T G W (d+2) 25 [.bytes l,.int p]=.ok (optV (statP (l.drop p))):=by
 rw [den_code L.t25 rfl]
 exact go (rfo (vs:=statuses.map PV.bytes) L.g1 rfl (st_loop L d l hD p kS statuses .unset .unset .unset (by decide)))
end
end Mine
namespace Mine
theorem memD_bytes (n:Nat) (x:List Int):∀ l:List (List Int),memD n (.bytes x) (l.map PV.bytes)=some (decide (x∈l))
 | []=>rfl
 | a::r=>by
  rw [List.map_cons,memD,memD_bytes n x r]
  have:eqD n (.bytes a) (.bytes x)=some (a == x):=by cases n <;> rfl
  rw [this]
  simp only
  congr 1
  rw [Bool.eq_iff_iff,Bool.or_eq_true,beq_iff_eq,decide_eq_true_iff,decide_eq_true_iff,List.mem_cons]
  exact ⟨fun h=>h.imp Eq.symm id,fun h=>h.imp Eq.symm id⟩
noncomputable def Shape (l:List Int) (a:PV):Prop:=(∃ w,a=atomV w∧∀ x∈w,x∈l)∨(∃ s rest,a=.tuple (.str s::rest)∧s≠[97,116,111,109])
theorem quo_shape (l:List Int):∀ (n:Nat) (acc x:List Int) (a:PV) (r:List Int),quoN n acc x=.ok a r→Shape l a
 | 0,_,_,_,_,h=>by cases h
 | n+1,acc,[],a,r,h=>by simp [quoN] at h
 | n+1,acc,c::t,a,r,h=>by
  by_cases c34:c=34
  ·subst c34; rw [quoN_34] at h; cases h; exact .inr ⟨_,_,rfl,by decide⟩
  ·by_cases c92:c=92
   ·subst c92
    cases t with
    | nil=>rw [quoN_92] at h; cases h
    | cons y u =>
     rw [quoN_92y] at h
     split at h
     ·exact quo_shape l n _ _ _ _ h
     ·cases h
   ·rw [quoN_c _ _ _ _ c34 c92] at h
    split at h
    ·exact quo_shape l n _ _ _ _ h
    ·cases h
theorem items_shape (l:List Int) (v:List Int→PR PV):∀ (n:Nat) (acc:List PV) (x:List Int) (a:PV) (r:List Int),itemsN v n acc x=.ok a r→Shape l a
 | 0,_,_,_,_,h=>by cases h
 | n+1,acc,x,a,r,h=>by
  rw [itemsN] at h
  cases hv:v x with
  | none=>rw [hv] at h; cases h
  | err=>rw [hv] at h; cases h
  | stuck=>rw [hv] at h; cases h
  | ok b y =>
   rw [hv] at h
   simp only [PR.bind] at h
   cases y with
   | nil=>cases h
   | cons c t =>
    simp only at h
    split at h
    ·cases h; exact .inr ⟨_,_,rfl,by decide⟩
    ·split at h
     ·exact items_shape l v n _ _ _ _ h
     ·cases h
theorem val_shape {W:Nat} (dep:Nat) (x:List Int) (a:PV) (r:List Int) (h:valP W dep x=.ok a r):Shape x a:=by
 cases x with
 | nil=>rw [valP_nil] at h; cases h
 | cons c t =>
  rw [valP_cons] at h
  split at h
  ·cases dep with
   | zero=>cases h
   | succ dep =>
    simp only at h
    unfold lstP at h
    cases t with
    | nil=>cases h
    | cons b y =>
     simp only at h
     split at h
     ·cases h; exact .inr ⟨_,_,rfl,by decide⟩
     ·exact items_shape _ _ _ _ _ _ _ h
  ·split at h
   ·exact quo_shape _ _ _ _ _ _ h
   ·split at h
    ·unfold litP at h
     split at h
     ·cases h
     ·split at h
      ·split at h
       ·split at h
        ·split at h
         ·cases h
         ·split at h
          ·cases h
          ·cases h; exact .inr ⟨_,_,rfl,by decide⟩
        ·cases h
       ·cases h
      ·cases h
    ·unfold wordP at h
     split at h
     ·cases h
     ·cases h
     ·rename_i c' t' hs
      unfold wordEnd at h
      split at h
      ·split at h
       ·cases h; exact .inr ⟨_,_,rfl,by decide⟩
       ·split at h
        ·split at h
         ·cases h; exact .inr ⟨_,_,rfl,by decide⟩
         ·cases h
        ·cases h
         exact .inl ⟨_,rfl,fun z hz=>List.take_subset _ _ hz⟩
      ·cases h
section
variable {T:Nat→Option CF} {G:Nat→Res PV} {W:Nat} (L:Lib T G)
include L
noncomputable def codeB:List CS:=[.assign 6 (.call 21 [(.var 0),(.var 3),(.var 1)]),.if_ (.cmp .is_ (.var 6) (.lit .none)) [.ret (.lit .none)] [],.app 8 (.idx (.var 6) (.lit (.int 0))),.assign 3 (.idx (.var 6) (.lit (.int 1))),.if_ (.cmp .ge (.var 3) (.var 2)) [.ret (.lit .none)] [],.if_ (.cmp .eq (.idx (.var 0) (.var 3)) (.lit (.int 93))) [.aug 3 .add (.lit (.int 1)),.brk] [],.expr (.call 0 [(.cmp .eq (.idx (.var 0) (.var 3)) (.lit (.int 32)))]),.aug 3 .add (.lit (.int 1))]
noncomputable def stC (l:List Int) (dep q:Nat) (w:List Int) (s:Slot) (tag:List Int) (s8:Slot):List Slot:=[.val (.bytes l),.val (.int dep),.val (.int l.length),.val (.int q),.val (.bytes w),.unset,s,.val (.bytes tag),s8,.unset,.unset,.unset,.unset]
theorem code_loop (d:Nat) (l:List Int) (hlim:l.length<lim) (dep:Nat) (tag w:List Int) (v:List Int→PR PV) (hv:∀ p:Nat,p≤l.length→den T G W (d+1) 21 [.bytes l,.int p,.int dep]=ofPR l (v (l.drop p))) (hE:Eats v) {O:PR (List PV)→Res PV} (hO:Out0 O) (kb k:List Slot→Res PV)
  (hk:∀ vs (z:Nat) s,z≤l.length→k (stC l dep z w s tag (.own vs))=O (.ok vs (l.drop z))) :
  ∀ (n q:Nat) (acc:List PV) (s:Slot),q≤l.length→acc.length≤q→wh (den T G W (d+1)) G W (.lit (.bool true)) codeB n (stC l dep q w s tag (.own acc)) kb k=O (codeN v n acc (l.drop q))
 | 0,q,acc,s,_,_=>hO.s.symm
 | n+1,q,acc,s,hq,ha=>by
  refine wh_y rfl (rc hO (out_pr l) (w:=fun v r=>.tuple [v,.int ((l.length:Int) - (r.length:Int))]) (X:=v (l.drop q)) (hv q hq) rfl fun a r e=>?_)
  obtain ⟨u,hu0,hu⟩:=hE _ _ _ e
  obtain ⟨z,hz,hzr,hd,hzl⟩:=rest_at hu hq
  have hqz:q<z:=by rw [← hz]; exact Nat.lt_add_of_pos_right (List.length_pos_iff.2 hu0)
  refine rap rfl rfl (Nat.lt_of_le_of_lt (Nat.le_trans ha hq) hlim) (rs (v:=.int (z:Int)) (congrArg (fun z=>Res.ok (PV.int z)) hzr) ?_)
  rcases r with _ | ⟨c,t⟩
  ·exact (re0 hd rfl).trans hO.n.symm
  have h2:=drop_cons hd
  refine re1 hd rfl (ri0 (P:=c=93) (ev_cmp (ix hd) rfl rfl) (fun _=>rag rfl (rbk ?_)) fun _=>rq L (P:=c=32) hO.e (ev_cmp (ix hd) rfl rfl) fun _=>rag rfl (r0 ?_))
  ·exact (hk (acc++[a]) (z+1) _ h2.2.2).trans (congrArg (fun x=>O (.ok (acc++[a]) x)) h2.2.1)
  ·exact (code_loop d l hlim dep tag w v hv hE hO kb k hk n (z+1) (acc++[a]) _ h2.2.2 (len_app ha (Nat.lt_succ_of_lt hqz))).trans (congrArg (fun x=>O (codeN v n (acc++[a]) x)) h2.2.1)
noncomputable def dataB:List CS:=[.assign 6 (.call 21 [(.var 0),(.var 3),(.var 1)]),.if_ (.cmp .is_ (.var 6) (.lit .none)) [.ret (.lit .none)] [],.if_ (.and_ [(.cmp .eq (.len (.var 5)) (.lit (.int 0))),(.cmp .eq (.idx (.idx (.var 6) (.lit (.int 0))) (.lit (.int 0))) (.lit (.str [97,116,111,109])))]) [.expr (.call 0 [(.cmp .notIn (.call 8 [(.idx (.idx (.var 6) (.lit (.int 0))) (.lit (.int 1)))]) (.glob 1))])] [],.app 5 (.idx (.var 6) (.lit (.int 0))),.assign 3 (.idx (.var 6) (.lit (.int 1))),.if_ (.cmp .ge (.var 3) (.var 2)) [.ret (.lit .none)] [],.if_ (.cmp .ne (.idx (.var 0) (.var 3)) (.lit (.int 32))) [.assign 11 (.call 12 [(.var 0),(.var 3)]),.if_ (.cmp .is_ (.var 11) (.lit .none)) [.ret (.lit .none)] [],.frz 5,.ret (.tup [(.tup [(.lit (.str [100,97,116,97])),(.var 5)]),(.var 11)])] [],.aug 3 .add (.lit (.int 1))]
noncomputable def dO (l:List Int) (X:PR (List PV)):Res PV:=ofPR l (X.bind fun vs r=>.ok (.tuple [.str [100,97,116,97],.list vs]) r)
omit L in
theorem dO0 (l:List Int):Out0 (dO l):=⟨rfl,rfl,rfl⟩
omit L in
theorem isStat_atom (w:List Int):isStat (atomV w)=decide (up w∈statuses):=rfl
omit L in
theorem isStat_other {s:List Nat} {rest:List PV} (h:s≠[97,116,111,109]):isStat (.tuple (.str s::rest))=false:=by
 show (s == [97,116,111,109] && statArg rest)=false
 rw [beq_eq_false_iff_ne.2 h]; rfl
theorem stat_if (d:Nat) {acc:List PV} {a:PV} {x l:List Int} {ρ:List Slot} {r:List CS} {kb kn:List Slot→Res PV} {A:PR (List PV)} (h5:getS ρ 5=.own acc) (h6:evE (den T G W (d+2)) G (.idx (.var 6) (.lit (.int 0))) ρ=.ok a) (hS:Shape x a) (hx:∀ y∈x,0≤y∧y<256) (k:run (den T G W (d+2)) G W r ρ kb kn=dO l A) :
  run (den T G W (d+2)) G W (.if_ (.and_ [(.cmp .eq (.len (.var 5)) (.lit (.int 0))),(.cmp .eq (.idx (.idx (.var 6) (.lit (.int 0))) (.lit (.int 0))) (.lit (.str [97,116,111,109])))]) [.expr (.call 0 [(.cmp .notIn (.call 8 [(.idx (.idx (.var 6) (.lit (.int 0))) (.lit (.int 1)))]) (.glob 1))])] []::r) ρ kb kn=dO l (if acc.isEmpty∧isStat a=true then .err else A):=by
 have e5:evE (den T G W (d+2)) G (.cmp .eq (.len (.var 5)) (.lit (.int 0))) ρ=.ok (.bool ((acc.length:Int) == 0)):=ev_cmp (by rw [xlen,h5]) rfl rfl
 rcases acc with _ | ⟨b,acc⟩
 ·rcases hS with ⟨w,rfl,hw⟩ | ⟨st,rest,rfl,hst⟩
  ·have em:memD 12 (.bytes (up w)) (statuses.map PV.bytes)=_:=memD_bytes 12 (up w) statuses
   refine Eq.trans (ry (ev_and2 e5 (ev_cmp (ev_idx h6 rfl) rfl rfl)) (rqn L (P:=up w∈statuses) (O:=dO l) rfl (ev_cmp (Eq.trans (to_call1 (ev_idx h6 rfl)) (d_upper L (d+1) w fun y hy=>hx y (hw y hy))) L.g1 (by show ofO ((memD 12 (.bytes (up w)) (statuses.map PV.bytes)).map (!·))=_; rw [em]; rfl)) fun _=>r0 k)) (congrArg (dO l) (ite_congr (propext ?_) (fun _=>rfl) fun _=>rfl))
   rw [isStat_atom,decide_eq_true_iff]; exact ⟨fun h=>⟨rfl,h⟩,fun h=>h.2⟩
  ·refine Eq.trans (rf0 (Eq.trans (ev_and2 e5 (ev_cmp (ev_idx h6 rfl) rfl rfl)) (bF ?_)) k) (congrArg (dO l) (if_neg fun h=>?_).symm)
   ·show (true && (st == [97,116,111,109]))=false
    rw [beq_eq_false_iff_ne.2 hst]; rfl
   ·rw [isStat_other hst] at h; cases h.2
 ·exact Eq.trans (rf0 (ev_andF (Eq.trans e5 (bF (beq_eq_false_iff_ne.2 fun h=>Nat.succ_ne_zero _ (Int.ofNat.inj h))))) k) (congrArg (dO l) (if_neg fun h=>by cases h.1).symm)
noncomputable def stD (l:List Int) (dep q:Nat) (tag:List Int) (acc:List PV) (s:Slot):List Slot:=[.val (.bytes l),.val (.int dep),.val (.int l.length),.val (.int q),.val .none,.own acc,s,.val (.bytes tag),.unset,.unset,.unset,.unset,.unset]
theorem data_loop (d:Nat) (l:List Int) (hlim:l.length<lim) (hD:∀ x∈l,0≤x∧x<256) (dep:Nat) (tag:List Int) (v:List Int→PR PV) (hv:∀ p:Nat,p≤l.length→den T G W (d+2) 21 [.bytes l,.int p,.int dep]=ofPR l (v (l.drop p))) (hE:Eats v) (hS:∀ x a r,v x=.ok a r→Shape x a) (kb k:List Slot→Res PV) :
  ∀ (n q:Nat) (acc:List PV) (s:Slot),q≤l.length→acc.length≤q →
  wh (den T G W (d+2)) G W (.lit (.bool true)) dataB n (stD l dep q tag acc s) kb k=dO l (dataN v n acc (l.drop q))
 | 0,q,acc,s,_,_=>rfl
 | n+1,q,acc,s,hq,ha=>by
  refine wh_y rfl (rc (dO0 l) (out_pr l) (w:=fun v r=>.tuple [v,.int ((l.length:Int) - (r.length:Int))]) (X:=v (l.drop q)) (hv q hq) rfl fun a r e=>stat_if L d rfl rfl (hS _ _ _ e) (fun y hy=>hD y (List.drop_subset _ _ hy)) ?_)
  obtain ⟨u,hu0,hu⟩:=hE _ _ _ e
  obtain ⟨z,hz,hzr,hd,hzl⟩:=rest_at hu hq
  have hqz:q<z:=by rw [← hz]; exact Nat.lt_add_of_pos_right (List.length_pos_iff.2 hu0)
  refine rap rfl rfl (Nat.lt_of_le_of_lt (Nat.le_trans ha hq) hlim) (rs (v:=.int (z:Int)) (congrArg (fun z=>Res.ok (PV.int z)) hzr) ?_)
  rcases r with _ | ⟨c,t⟩
  ·exact re0 hd rfl
  have h2:=drop_cons hd
  refine re1 hd rfl (rin (P:=c=32) (O:=dO l) (ev_cmp (ix hd) rfl rfl) (fun _=>rag rfl (r0 ?_)) fun _=>rc (dO0 l) (out_crlf l) (w:=fun _ r=>.int ((l.length:Int) - (r.length:Int))) (X:=crlfP (c::t)) ((d_read_crlf L d l z hzl).trans (congrArg (fun x=>ofCrlf l (crlfP x)) hd)) rfl fun _ r e=>rfz rfl (rr rfl))
  exact (data_loop d l hlim hD dep tag v hv hE hS kb k n (z+1) (acc++[a]) _ h2.2.2 (len_app ha (Nat.lt_succ_of_lt hqz))).trans (congrArg (fun x=>dO l (dataN v n (acc++[a]) x)) h2.2.1)
end
end Mine
namespace Mine
noncomputable def codeC:List CS:=[.aug 3 .add (.lit (.int 1)),.own 8 [],.while_ (.lit (.bool true)) codeB,.if_ (.cmp .ge (.var 3) (.var 2)) [.ret (.lit .none)] [],.expr (.call 0 [(.cmp .eq (.idx (.var 0) (.var 3)) (.lit (.int 32)))]),.aug 3 .add (.lit (.int 1))]
noncomputable def finC:List CS:=[.assign 6 (.call 24 [(.var 0),(.var 3)]),.if_ (.cmp .is_ (.var 6) (.lit .none)) [.ret (.lit .none)] [],.frz 8,.ret (.tup [(.tup [(.lit (.str [115,116,97,116,117,115])),(.var 7),(.var 4),(.var 8),(.idx (.var 6) (.lit (.int 0)))]),(.idx (.var 6) (.lit (.int 1)))])]
noncomputable def statC:List CS:=.assign 3 (.bin .add (.bin .add (.var 3) (.len (.var 4))) (.lit (.int 1)))::.assign 8 (.lit .none)::.if_ (.cmp .ge (.var 3) (.var 2)) [.ret (.lit .none)] []::.if_ (.cmp .eq (.idx (.var 0) (.var 3)) (.lit (.int 91))) codeC []::finC
noncomputable def forC:List CS:=[.assign 12 (.bin .add (.var 10) (.lit (.bytes [32]))),.if_ (.cmp .eq (.slc (.var 12) none (some (.len (.var 9)))) (.var 9)) [.ret (.lit .none)] []]
noncomputable def noC:List CS:=[.if_ (.cmp .le (.bin .sub (.var 2) (.var 3)) (.lit (.int 4))) [.assign 9 (.call 8 [(.slc (.var 0) (some (.var 3)) none)]),.for_ 10 (.glob 1) forC] [],.raise_]
noncomputable def tailC:List CS:=[.if_ (.cmp .ge (.var 3) (.var 2)) [.ret (.lit .none)] [],.expr (.call 0 [(.cmp .eq (.idx (.var 0) (.var 3)) (.lit (.int 32)))]),.aug 3 .add (.lit (.int 1)),.assign 4 (.call 25 [(.var 0),(.var 3)]),.if_ (.cmp .isNot (.var 4) (.lit .none)) statC [],.if_ (.cmp .ne (.var 7) (.lit (.bytes []))) noC [],.own 5 [],.while_ (.lit (.bool true)) dataB]
section
variable {T:Nat→Option CF} {G:Nat→Res PV} {W:Nat} (L:Lib T G)
include L
theorem fin_eq (d:Nat) (l:List Int) (dep:Nat) (tag w:List Int) (code:PV) (s6 s8:Slot) (h8:s8=.val code∨∃ vs,s8=.own vs∧code=.list vs) (q:Nat) (hq:q≤l.length) (kb kn:List Slot→Res PV) :
  run (den T G W (d+3)) G W finC (stC l dep q w s6 tag s8) kb kn=ofPR l (finP W tag w code (l.drop q)):=by
 refine rc (out_pr l).toOut0 (out_run l) (w:=fun v r=>.tuple [.bytes v,.int ((l.length:Int) - (r.length:Int))]) (X:=textP W (l.drop q)) (d_read_text L d l q hq) rfl fun t r e=>?_
 rcases h8 with rfl | ⟨vs,rfl,rfl⟩
 ·exact rn rfl (rr rfl)
 ·exact rfz rfl (rr rfl)
theorem stat_eq (l:List Int) (hlim:l.length<lim) (hD:∀ x∈l,0≤x∧x<256) (d dep:Nat) (tag w:List Int) (s6:Slot) (q:Nat) (hq:q+(w.length+1)≤l.length) (kb kn:List Slot→Res PV) :
  run (den T G W (d+2 * dep+4)) G W statC (stC l dep q w s6 tag .unset) kb kn=ofPR l (statRest W dep tag w (l.drop (q+(w.length+1)))):=by
 refine rs (v:=.int ((q+(w.length+1):Nat):Int)) rfl (rs rfl ?_)
 generalize q+(w.length+1)=q at hq
 rcases hd:l.drop q with _ | ⟨c,t⟩
 ·exact re0 hd rfl
 have h2:=drop_cons hd
 refine re1 hd rfl (ri0 (P:=c=91) (O:=ofPR l) (ev_cmp (ix hd) rfl rfl) (fun _=>rag rfl (row0 (rw0 ?_))) fun _=>?_)
 ·refine (code_loop L (d+2 * dep+3) l hlim dep tag w (valP W dep) (fun p hp=>d_read_value L l hlim hD dep d p hp) (eats_val dep) (O:=fun X=>ofPR l (X.bind (codeEnd W tag w))) ⟨rfl,rfl,rfl⟩ _ _ (fun vs z s hz=>?_) W (q+1) [] s6 h2.2.2 (Nat.zero_le _)).trans (congrArg (fun x=>ofPR l ((codeN (valP W dep) W [] x).bind (codeEnd W tag w))) h2.2.1)
  show _=ofPR l (codeEnd W tag w vs (l.drop z))
  rcases he:l.drop z with _ | ⟨c,t⟩
  ·exact re0 he rfl
  have h3:=drop_cons he
  exact re1 he rfl (rq L (P:=c=32) (O:=ofPR l) rfl (ev_cmp (ix he) rfl rfl) fun _=>rag rfl (r0 ((fin_eq L (d+2 * dep+1) l dep tag w (.list vs) s (.own vs) (.inr ⟨vs,rfl,rfl⟩) (z+1) h3.2.2 _ _).trans (congrArg (fun x=>ofPR l (finP W tag w (.list vs) x)) h3.2.1))))
 ·exact (fin_eq L (d+2 * dep+1) l dep tag w .none s6 (.val .none) (.inl rfl) q (Nat.le_of_lt h2.2.2) _ _).trans (congrArg (fun x=>ofPR l (finP W tag w .none x)) hd)
noncomputable def stN (l:List Int) (dep q:Nat) (s6:Slot) (tag:List Int) (s9 s10 s12:Slot):List Slot:=[.val (.bytes l),.val (.int dep),.val (.int l.length),.val (.int q),.val .none,.unset,s6,.val (.bytes tag),.unset,s9,s10,.unset,s12]
omit L in
theorem no_loop {F:Nat→List PV→Res PV} (l:List Int) (dep q:Nat) (tag x:List Int) (s6:Slot) (kb kn:List Slot→Res PV) (hkn:∀ ρ,kn ρ=.exc):∀ (ws:List (List Int)) (s10 s12:Slot),(∀ w∈ws,w.length≤10) →
  fr F G W 10 forC (ws.map PV.bytes) (stN l dep q s6 tag (.val (.bytes x)) s10 s12) kb kn=if ws.any (fun w=>decide ((w++[32]).take x.length=x))=true then .ok .none else .exc
 | [],_,_,_=>hkn _
 | w::ws,s10,s12,hw=>by
  have hz:binP .add (.bytes w) (.bytes [32])=.ok (.bytes (w++[32])):=if_pos (Nat.le_trans (Nat.succ_le_succ (hw w (List.mem_cons_self ..))) (show 11≤lim by decide))
  refine fr_cons (rs (ev_bin (R:=.ok (.bytes (w++[32]))) rfl rfl hz) ((rib (p:=decide ((w++[32]).take x.length=x)) (bd (ev_cmp (ev_pre rfl rfl) rfl rfl) beq_iff_eq) (rr rfl) (r0 (no_loop l dep q tag x s6 kb kn hkn ws _ _ fun y hy=>hw y (List.mem_cons_of_mem _ hy)))).trans ?_))
  rw [List.any_cons]
  cases decide ((w++[32]).take x.length=x) <;> rfl
theorem no_eq (l:List Int) (hD:∀ x∈l,0≤x∧x<256) (d dep:Nat) (tag:List Int) (s6:Slot) (q:Nat) (hq:q≤l.length) (kb kn:List Slot→Res PV) :
  run (den T G W (d+1)) G W noC (stN l dep q s6 tag .unset .unset .unset) kb kn=ofPR l (if (l.drop q).length≤4∧statuses.any (fun w=>decide ((w++[32]).take (up (l.drop q)).length=up (l.drop q)))=true then .none else .err):=by
 have e1:evE (den T G W (d+1)) G (.cmp .le (.bin .sub (.var 2) (.var 3)) (.lit (.int 4))) (stN l dep q s6 tag .unset .unset .unset)=.ok (.bool (decide ((l.drop q).length≤4))):=bd rfl (by rw [decide_eq_true_iff,List.length_drop]; omega)
 by_cases h4:(l.drop q).length≤4
 ·rw [decide_eq_true h4] at e1
  refine Eq.trans (ry e1 (rs (Eq.trans (to_call1 (ev_from rfl rfl)) (d_upper L d (l.drop q) fun y hy=>hD y (List.drop_subset _ _ hy))) (rfo (vs:=statuses.map PV.bytes) L.g1 rfl (no_loop l dep q tag (up (l.drop q)) s6 kb _ (fun _=>rfl) statuses _ _ (by decide))))) ?_
  cases statuses.any (fun w=>decide ((w++[32]).take (up (l.drop q)).length=up (l.drop q)))
  ·show ofPR l .err=_
   exact congrArg (ofPR l) (if_neg fun h=>Bool.false_ne_true h.2).symm
  ·show ofPR l .none=_
   exact congrArg (ofPR l) (if_pos ⟨h4,rfl⟩).symm
 ·rw [decide_eq_false h4] at e1
  rw [if_neg (fun h=>h4 h.1)]
  exact rf0 e1 rfl
theorem tail_eq (l:List Int) (hlim:l.length<lim) (hD:∀ x∈l,0≤x∧x<256) (d dep:Nat) (tag:List Int) (s6:Slot) (q:Nat) (hq:q≤l.length) (kb kn:List Slot→Res PV) :
  run (den T G W (d+2 * dep+4)) G W tailC [.val (.bytes l),.val (.int dep),.val (.int l.length),.val (.int q),.unset,.unset,s6,.val (.bytes tag),.unset,.unset,.unset,.unset,.unset] kb kn=ofPR l (goP W dep tag (l.drop q)):=by
 rcases hd:l.drop q with _ | ⟨c,t⟩
 ·exact re0 hd rfl
 have h2:=drop_cons hd
 refine re1 hd rfl (rq L (P:=c=32) (O:=ofPR l) rfl (ev_cmp (ix hd) rfl rfl) fun _=>rag rfl (rs ((d_status_word L (d+2 * dep+2) l hD (q+1) h2.2.2).trans (congrArg (fun x=>Res.ok (optV (statP x))) h2.2.1)) ?_))
 show _=ofPR l (match statP t with | some w=>_ | none=>_)
 rcases hs:statP t with _ | w
 ·refine rf0 rfl (ri0 (P:=tag≠[]) (O:=ofPR l) (bd rfl (by rw [Bool.not_eq_true',beq_eq_false_iff_ne])) (fun _=>?_) fun _=>row0 (rw0 ?_))
  ·exact (no_eq L l hD (d+2 * dep+3) dep tag s6 (q+1) h2.2.2 _ _).trans (by rw [h2.2.1])
  ·exact (data_loop L (d+2 * dep+2) l hlim hD dep tag (valP W dep) (fun p hp=>d_read_value L l hlim hD dep d p hp) (eats_val dep) (fun x a r h=>val_shape dep x a r h) _ _ W (q+1) [] s6 h2.2.2 (Nat.zero_le _)).trans (congrArg (fun x=>dO l (dataN (valP W dep) W [] x)) h2.2.1)
 ·have hw:w.length+1≤t.length:=by
   have:=List.find?_some hs
   rw [Bool.and_eq_true,decide_eq_true_iff,List.length_take] at this
   exact this.1 ▸ Nat.min_le_right ..
  refine ry rfl ((stat_eq L l hlim hD d dep tag w s6 (q+1) ?_ _ _).trans (congrArg (fun x=>ofPR l (statRest W dep tag w x)) ?_))
  ·rw [← h2.2.1,List.length_drop] at hw; omega
  ·rw [← h2.2.1,List.drop_drop]
omit L in
theorem ev_head {F:Nat→List PV→Res PV} {c n:Int} {t:List Int} {r:List Slot} {s:Slot}:evE F G (.and_ [(.cmp .gt (.var 2) (.lit (.int 0))),(.cmp .eq (.idx (.var 0) (.lit (.int 0))) (.lit (.int n)))]) (.val (.bytes (c::t))::s::.val (.int ((c::t).length:Int))::r)=.ok (.bool (decide (c=n))) :=
 Eq.trans (ev_and2 rfl rfl) (bE (by rw [decide_eq_true (show (0:Int)<((c::t).length:Int) from Int.natCast_pos.2 (Nat.succ_pos _))]; rfl))
theorem d_read_line (l:List Int) (hlim:l.length<lim) (hD:∀ x∈l,0≤x∧x<256) (dep d:Nat):den T G W (d+2 * dep+5) 26 [.bytes l,.int dep]=ofPR l (lineP W dep l):=by
 rw [den_code L.t26 rfl]
 refine go (rs rfl ?_)
 have road:run (den T G W (d+2 * dep+4)) G W [.assign 6 (.call 11 [(.var 0),(.lit (.int 0)),(.lit (.bool false))]),.if_ (.cmp .is_ (.var 6) (.lit .none)) [.ret (.lit .none)] [],.assign 7 (.idx (.var 6) (.lit (.int 0))),.assign 3 (.idx (.var 6) (.lit (.int 1)))] [.val (.bytes l),.val (.int dep),.val (.int l.length),.unset,.unset,.unset,.unset,.unset,.unset,.unset,.unset,.unset,.unset] kS (fun ρ=>run (den T G W (d+2 * dep+4)) G W tailC ρ kS kN)=ofPR l ((runP W isTagC l).bind (goP W dep)):=by
  refine rc (out_pr l).toOut0 (out_run l) (w:=fun v r=>.tuple [.bytes v,.int ((l.length:Int) - (r.length:Int))]) (d_read_run L (d+2 * dep+1) l 0 (Nat.zero_le _) false) rfl fun tag r e=>?_
  obtain ⟨z,hz,hzr,hd,hzl⟩:=rest_at (q:=0) (run_ok e).1 (Nat.zero_le _)
  exact rs rfl (rs (v:=.int (z:Int)) (congrArg (fun z=>Res.ok (PV.int z)) hzr) (r0 ((tail_eq L l hlim hD d dep tag _ z hzl _ _).trans (congrArg (fun x=>ofPR l (goP W dep tag x)) hd))))
 rcases l with _ | ⟨c,t⟩
 ·exact rf0 (ev_andF rfl) (rf (ev_andF rfl) road)
 refine ri0 (P:=c=43) (O:=ofPR (c::t)) ev_head (fun _=>?_) fun _=>ri (P:=c=42) (O:=ofPR (c::t)) ev_head (fun _=>rs rfl (rs rfl (r0 (tail_eq L (c::t) hlim hD d dep [] .unset 1 (Nat.succ_le_succ (Nat.zero_le _)) _ _)))) fun _=>road
 rcases t with _ | ⟨b,u⟩
 ·exact ry rfl (rr rfl)
 ·exact rf0 (bF (decide_eq_false fun h=>Nat.not_succ_le_zero _ (Nat.le_of_succ_le_succ (Nat.le_of_succ_le_succ (Int.ofNat_lt.1 h))))) (rq L (P:=b=32) (O:=ofPR (c::b::u)) rfl rfl fun _=>rc (out_pr (c::b::u)).toOut0 (out_run (c::b::u)) (w:=fun v r=>.tuple [.bytes v,.int (((c::b::u).length:Int) - (r.length:Int))]) (X:=textP W u) (d_read_text L (d+2 * dep+1) (c::b::u) 2 (Nat.succ_le_succ (Nat.succ_le_succ (Nat.zero_le _)))) rfl fun tx r e=>rr rfl)
end
end Mine
namespace Mine
noncomputable def PExt {α:Type} (y:List Int) (a b:PR α):Prop:=match a with
 | .none=>True
 | .err=>b=.err
 | .stuck=>b=.stuck
 | .ok v r=>b=.ok v (r++y)
noncomputable def Mono {α:Type} (W:Nat) (p:List Int→PR α):Prop:=∀ x y,(x++y).length<W→PExt y (p x) (p (x++y))
noncomputable def Suf {α:Type} (p:List Int→PR α):Prop:=∀ x a r,p x=.ok a r→r.length≤x.length
theorem PExt.bind {α β:Type} {y:List Int} {a b:PR α} {f:α→List Int→PR β} (h:PExt y a b) (hf:∀ v r,a=.ok v r→PExt y (f v r) (f v (r++y))):PExt y (a.bind f) (b.bind f):=by
 cases a with
 | none=>trivial
 | err=>cases h; rfl
 | stuck=>cases h; rfl
 | ok v r=>cases h; exact hf v r rfl
theorem Mono.bind {α β:Type} {W:Nat} {p:List Int→PR α} {f:α→List Int→PR β} (hp:Mono W p) (hs:Suf p) (hf:∀ v,Mono W (f v)):Mono W (fun x=>(p x).bind f):=by
 intro x y hl
 refine PExt.bind (hp x y hl) fun v r e=>hf v r y ?_
 have:=hs x v r e
 rw [List.length_append] at hl ⊢; lia
theorem scanN_none (p:Int→Bool) (y:List Int):∀ (n:Nat) (x:List Int),scanN p n x=none→scanN p n (x++y)=none
 | 0,_,_=>rfl
 | n+1,[],h=>by simp [scanN] at h
 | n+1,c::t,h=>by
  rw [scanN] at h
  rw [List.cons_append,scanN]
  split at h
  ·rename_i hc; rw [if_pos hc]; exact scanN_none p y n t h
  ·cases h
theorem scanN_some (p:Int→Bool) (y:List Int):∀ (n:Nat) (x:List Int) (c:Int) (t:List Int),scanN p n x=some (c::t)→scanN p n (x++y)=some (c::t++y)
 | 0,_,_,_,h=>by cases h
 | n+1,[],_,_,h=>by simp [scanN] at h
 | n+1,a::u,c,t,h=>by
  rw [scanN] at h
  rw [List.cons_append,scanN]
  split at h
  ·rename_i hc; rw [if_pos hc]; exact scanN_some p y n u c t h
  ·rename_i hc; rw [if_neg hc]; cases h; rfl
theorem scanN_fuel (p:Int→Bool):∀ (n:Nat) (x:List Int),x.length<n→scanN p n x≠none
 | 0,x,h=>by lia
 | n+1,[],_=>by simp [scanN]
 | n+1,c::t,h=>by
  rw [scanN]
  split
  ·exact scanN_fuel p n t (by simpa using h)
  ·simp
theorem ahead_ext {x r y u:List Int} (h:x=u++r):ahead (x++y) (r++y)=ahead x r:=by
 rw [ahead_app h]
 exact ahead_app (by rw [h,List.append_assoc])
theorem mono_run (W:Nat) (p:Int→Bool):Mono W (runP W p):=by
 intro x y hl
 unfold runP
 cases hs:scanN p W x with
 | none=>rw [scanN_none p y W x hs]; rfl
 | some r =>
  cases r with
  | nil=>trivial
  | cons c t =>
   rw [scanN_some p y W x c t hs]
   obtain ⟨u,hu⟩:=scanN_len _ _ _ _ hs
   simp only [List.cons_append]
   by_cases hlt:(c::t).length<x.length
   ·have hlt2:(c::(t++y)).length<(x++y).length:=by simp only [List.length_cons,List.length_append] at hlt ⊢; lia
    rw [if_pos hlt,if_pos hlt2]
    have:=ahead_ext (y:=y) hu
    rw [List.cons_append] at this
    rw [this]
    rfl
   ·have hlt2:¬ (c::(t++y)).length<(x++y).length:=by simp only [List.length_cons,List.length_append] at hlt ⊢; lia
    rw [if_neg hlt,if_neg hlt2]; rfl
theorem suf_run (W:Nat) (p:Int→Bool):Suf (runP W p):=by
 intro x a r h
 unfold runP at h
 split at h
 ·cases h
 ·cases h
 ·split at h
  ·rename_i hlt; cases h; lia
  ·cases h
theorem mono_crlf (W:Nat):Mono W crlfP:=by
 intro x y _
 match x with
 | []=>exact trivial
 | [a] =>
  by_cases ha:a=13
  ·subst ha; exact trivial
  ·have h1:crlfP [a]=.err:=by simp [crlfP,ha]
   have h2:crlfP ([a]++y)=.err:=by
    cases y with
    | nil=>exact h1
    | cons b t=>simp [crlfP,ha]
   rw [h1,h2]; rfl
 | a::b::t =>
  have e:∀ z,crlfP (a::b::z)=if a=13∧b=10 then .ok () z else .err:=by intro z; simp [crlfP]
  rw [List.cons_append,List.cons_append,e,e]
  split <;> rfl
theorem mono_quo (y:List Int):∀ (n:Nat) (acc x:List Int),PExt y (quoN n acc x) (quoN n acc (x++y))
 | 0,_,_=>rfl
 | n+1,acc,[]=>by simp only [quoN,PExt]
 | n+1,acc,c::t=>by
  rw [List.cons_append]
  by_cases c34:c=34
  ·subst c34; rw [quoN_34,quoN_34]; rfl
  ·by_cases c92:c=92
   ·subst c92
    cases t with
    | nil=>rw [quoN_92]; trivial
    | cons b u =>
     rw [List.cons_append,quoN_92y,quoN_92y]
     split
     ·exact mono_quo y n _ u
     ·rfl
   ·rw [quoN_c _ _ _ _ c34 c92,quoN_c _ _ _ _ c34 c92]
    split
    ·exact mono_quo y n _ t
    ·rfl
theorem litN_some (y:List Int):∀ (n:Nat) (v:Int) (x:List Int) (v' c:Int) (t:List Int),litN n v x=some (v',c::t)→litN n v (x++y)=some (v',c::t++y)
 | 0,_,_,_,_,_,h=>by cases h
 | n+1,_,[],_,_,_,h=>by simp [litN] at h
 | n+1,v,a::u,v',c,t,h=>by
  rw [litN] at h
  rw [List.cons_append,litN]
  split at h
  ·rename_i hc; rw [if_pos hc]; exact litN_some y n _ u v' c t h
  ·rename_i hc; rw [if_neg hc]; cases h; rfl
theorem litN_none (y:List Int):∀ (n:Nat) (v:Int) (x:List Int),litN n v x=none→litN n v (x++y)=none
 | 0,_,_,_=>rfl
 | n+1,_,[],h=>by simp [litN] at h
 | n+1,v,c::t,h=>by
  rw [litN] at h
  rw [List.cons_append,litN]
  split at h
  ·rename_i hc; rw [if_pos hc]; exact litN_none y n _ t h
  ·cases h
theorem litN_big:∀ (n:Nat) (x:List Int),x.length<n→∃ r,litN n 4294967296 x=some (4294967296,r)
 | 0,x,h=>by lia
 | n+1,[],_=>⟨[],by simp [litN]⟩
 | n+1,c::t,h=>by
  rw [litN]
  split
  ·rename_i hc
   simp only [isDig,Bool.and_eq_true,decide_eq_true_iff] at hc
   have:clamp (4294967296 * 10+(c - 48))=4294967296:=by unfold clamp; rw [if_pos (by lia)]
   rw [this]
   exact litN_big n t (by simpa using h)
  ·exact ⟨_,rfl⟩
theorem litN_le:∀ (n:Nat) (v:Int) (x:List Int) (v':Int) (r:List Int),v≤4294967296→litN n v x=some (v',r)→v'≤4294967296
 | 0,_,_,_,_,_,h=>by cases h
 | n+1,v,[],v',r,hv,h=>by simp [litN] at h; lia
 | n+1,v,c::t,v',r,hv,h=>by
  rw [litN] at h
  split at h
  ·exact litN_le n _ t v' r (by unfold clamp; split <;> lia) h
  ·cases h; exact hv
theorem litN_err (y:List Int):∀ (n:Nat) (v:Int) (x:List Int),0≤v→v≤4294967296→(x++y).length<n→litN n v x=some (4294967296,[])→∃ r,litN n v (x++y)=some (4294967296,r)
 | 0,_,_,_,_,h,_=>by lia
 | n+1,v,[],_,_,hl,h=>by
  simp [litN] at h; subst h
  rw [List.nil_append]; exact litN_big (n+1) y (by simpa using hl)
 | n+1,v,c::t,h0,hv,hl,h=>by
  rw [litN] at h
  rw [List.cons_append,litN]
  split at h
  ·rename_i hc
   rw [if_pos hc]
   simp only [isDig,Bool.and_eq_true,decide_eq_true_iff] at hc
   exact litN_err y n _ t (by unfold clamp; split <;> lia) (by unfold clamp; split <;> lia) (by simpa using hl) h
  ·cases h
theorem mono_lit (W:Nat):Mono W (litP W):=by
 intro x y hl
 unfold litP
 cases hs:litN W 0 x with
 | none=>rw [litN_none y W 0 x hs]; rfl
 | some vr =>
  obtain ⟨n,r⟩:=vr
  obtain ⟨⟨u,hu⟩,hn0⟩:=litN_suf _ _ _ _ _ (by lia) hs
  have hnle:=litN_le _ _ _ _ _ (by lia) hs
  cases r with
  | nil =>
   simp only
   by_cases hn:n<4294967296
   ·rw [if_pos hn]
    simp [PExt]
   ·have:n=4294967296:=by lia
    subst this
    obtain ⟨r',h2⟩:=litN_err y W 0 x (by lia) (by lia) hl hs
    rw [h2]
    simp [PExt]
  | cons c t =>
   rw [litN_some y W 0 x n c t hs]
   simp only
   by_cases hn:n<4294967296
   case neg=>rw [if_neg hn,if_neg hn]; rfl
   rw [if_pos hn,if_pos hn]
   have hlen:((c::t).length<x.length∨((c::t).take 3).length=0)↔((c::t++y).length<(x++y).length∨((c::t++y).take 3).length=0):=by
    simp only [List.length_append,List.length_take,List.length_cons]; lia
   generalize hr:c::t=r at hlen
   have hrne:r≠[]:=by rw [← hr]; simp
   clear hs hu hr
   by_cases h3:3≤r.length
   ·have e3:(r++y).take 3=r.take 3:=by rw [List.take_append_of_le_length h3]
    rw [e3] at hlen ⊢
    by_cases ht:r.take 3=[125,13,10].take (r.take 3).length
    case neg=>rw [if_neg ht,if_neg ht]; rfl
    rw [if_pos ht,if_pos ht]
    by_cases hz:r.length<x.length∨(r.take 3).length=0
    case neg=>rw [if_neg hz,if_neg (fun h=>hz (hlen.2 h))]; rfl
    rw [if_pos hz,if_pos (hlen.1 hz)]
    have ed:(r++y).drop 3=r.drop 3++y:=by rw [List.drop_append_of_le_length h3]
    rw [ed]
    obtain ⟨m,rfl⟩:=Int.eq_ofNat_of_zero_le hn0
    simp only [Int.toNat_natCast]
    by_cases h0:(0:Int)∈(r.drop 3).take m
    ·have h0':(0:Int)∈(r.drop 3++y).take m:=by
      rw [List.take_append]; exact List.mem_append_left _ h0
     rw [if_pos h0,if_pos h0']; rfl
    rw [if_neg h0]
    by_cases h5:(r.take 3).length<3∨(((r.drop 3).take m).length:Int)<(m:Int)
    ·rw [if_pos h5]; trivial
    rw [if_neg h5]
    have h6:m≤(r.drop 3).length:=by
     simp only [not_or,List.length_take] at h5; lia
    have e6:(r.drop 3++y).take m=(r.drop 3).take m:=List.take_append_of_le_length h6
    rw [e6,if_neg h0,if_neg h5]
    have e7:(r++y).drop (3+m)=r.drop (3+m)++y:=by
     rw [List.drop_append_of_le_length (by rw [List.length_drop] at h6; lia)]
    rw [e7]; rfl
   ·have hlt3:(r.take 3).length<3:=by rw [List.length_take]; lia
    have er:r.take 3=r:=List.take_of_length_le (by lia)
    by_cases ht:r.take 3=[125,13,10].take (r.take 3).length
    case neg =>
     rw [if_neg ht]
     have ht':¬ (r++y).take 3=[125,13,10].take ((r++y).take 3).length:=by
      intro h
      apply ht
      match r,hrne,h3,h with
      | [a],_,_,h =>
       have h1:=congrArg List.head? h
       cases y <;> simp at h1 ⊢ <;> exact h1
      | [a,b],_,_,h =>
       have h1:=congrArg (List.take 2) h
       cases y <;> simp at h1 ⊢ <;> exact h1
      | a::b::c::q,_,h3,_=>exact absurd (by simp) h3
     rw [if_neg ht']; rfl
    rw [if_pos ht]
    by_cases hz:r.length<x.length∨(r.take 3).length=0
    case neg =>
     rw [if_neg hz]
     have hz':=fun h=>hz (hlen.2 h)
     by_cases ht':(r++y).take 3=[125,13,10].take ((r++y).take 3).length
     ·rw [if_pos ht',if_neg hz']; rfl
     ·rw [if_neg ht']; rfl
    rw [if_pos hz]
    have hd3:r.drop 3=[]:=List.drop_eq_nil_of_le (by lia)
    rw [hd3,List.take_nil,if_neg (by simp),if_pos (Or.inl hlt3)]
    trivial
theorem skip92_app {x:List Int} (h:x≠[]) (y:List Int):skip92 (x++y)=skip92 x++y:=by
 cases x with
 | nil=>exact absurd rfl h
 | cons c t =>
  by_cases hc:c=92
  ·subst hc; rfl
  ·have e:∀ z,skip92 (c::z)=c::z:=by intro z; unfold skip92; split; (rename_i heq; cases heq; exact absurd rfl hc); rfl
   rw [List.cons_append,e,e]; rfl
theorem skip92_suf (x r:List Int) (u:List Int) (h:skip92 x=u++r):∃ v,x=v++r:=by
 cases x with
 | nil=>exact ⟨u,h⟩
 | cons b z =>
  by_cases hb:b=92
  ·subst hb; exact ⟨92::u,by rw [show z=u++r from h]; rfl⟩
  ·have:skip92 (b::z)=b::z:=by unfold skip92; split; (rename_i heq; cases heq; exact absurd rfl hb); rfl
   rw [this] at h; exact ⟨u,h⟩
theorem wordEnd_ext (w r y:List Int):PExt y (wordEnd w r) (wordEnd w (r++y)):=by
 unfold wordEnd
 split
 ·split
  ·rfl
  ·split
   ·split <;> rfl
   ·rfl
 ·rfl
theorem mono_word (W:Nat):Mono W (wordP W):=by
 intro x y hl
 unfold wordP
 cases x with
 | nil =>
  have:scanN isAtomC W (skip92 [])=some []∨scanN isAtomC W (skip92 [])=none:=by
   cases W with
   | zero=>right; rfl
   | succ n=>left; rfl
  rcases this with h | h
  ·rw [h]; trivial
  ·rw [h]; cases W with
   | zero=>simp at hl
   | succ n=>cases h
 | cons c t =>
  rw [skip92_app (by simp) y]
  cases hs:scanN isAtomC W (skip92 (c::t)) with
  | none=>rw [scanN_none _ y W _ hs]; rfl
  | some r =>
   cases r with
   | nil=>trivial
   | cons a b =>
    rw [scanN_some _ y W _ a b hs]
    obtain ⟨u,hu⟩:=scanN_len _ _ _ _ hs
    obtain ⟨v,hv⟩:=skip92_suf _ _ _ hu
    simp only [List.cons_append]
    have e:=ahead_ext (y:=y) hv
    simp only [List.cons_append] at e
    rw [e]
    exact wordEnd_ext _ _ y
theorem mono_items (W:Nat) (v:List Int→PR PV) (hv:Mono W v) (hE:Eats v) (y:List Int):∀ (n:Nat) (acc:List PV) (x:List Int),(x++y).length<W→PExt y (itemsN v n acc x) (itemsN v n acc (x++y))
 | 0,_,_,_=>rfl
 | n+1,acc,x,hl=>by
  rw [itemsN,itemsN]
  refine PExt.bind (hv x y hl) fun a r e=>?_
  obtain ⟨u,hu0,hu⟩:=hE _ _ _ e
  cases r with
  | nil=>trivial
  | cons c t =>
   rw [List.cons_append]
   simp only
   split
   ·rfl
   ·split
    ·exact mono_items W v hv hE y n _ t (by rw [hu] at hl; simp only [List.length_append,List.length_cons] at hl ⊢; lia)
    ·rfl
theorem mono_val (W:Nat):∀ dep:Nat,Mono W (valP W dep)
 | dep,[],y,hl=>by rw [valP_nil]; trivial
 | dep,c::t,y,hl=>by
  have hlt:(t++y).length<W:=by simp only [List.length_append,List.length_cons] at hl ⊢; lia
  rw [List.cons_append,valP_cons,valP_cons]
  split
  ·cases dep with
   | zero=>rfl
   | succ dep =>
    simp only
    unfold lstP
    cases t with
    | nil=>trivial
    | cons b z =>
     rw [List.cons_append]
     simp only
     split
     ·rfl
     ·have:=mono_items W (valP W dep) (mono_val W dep) (eats_val dep) y W [] (b::z) (by rw [List.cons_append]; simpa using hlt)
      rw [List.cons_append] at this
      exact this
  ·split
   ·exact mono_quo y W [] t
   ·split
    ·exact mono_lit W t y hlt
    ·have:=mono_word W (c::t) y (by rw [List.cons_append]; exact hl)
     rw [List.cons_append] at this
     exact this
theorem mono_vals (W:Nat) (v:List Int→PR PV) (hv:Mono W v) (hE:Eats v) (y:List Int):∀ (n:Nat) (acc:List PV) (x:List Int),(x++y).length<W→PExt y (valsN v n acc x) (valsN v n acc (x++y))
 | 0,_,_,_=>rfl
 | n+1,acc,[],_=>by rw [valsN]; trivial
 | n+1,acc,c::t,hl=>by
  have hlt:(t++y).length<W:=by simp only [List.length_append,List.length_cons] at hl ⊢; lia
  rw [List.cons_append,valsN,valsN]
  split
  ·refine PExt.bind (hv t y hlt) fun a r e=>?_
   obtain ⟨u,hu0,hu⟩:=hE _ _ _ e
   exact mono_vals W v hv hE y n _ r (by rw [hu] at hlt; simp only [List.length_append] at hlt ⊢; lia)
  ·have:=mono_crlf W (c::t) y (by rw [List.cons_append]; exact hl)
   rw [List.cons_append] at this
   exact PExt.bind this fun _ r _=>rfl
theorem mono_code (W:Nat) (v:List Int→PR PV) (hv:Mono W v) (hE:Eats v) (y:List Int):∀ (n:Nat) (acc:List PV) (x:List Int),(x++y).length<W→PExt y (codeN v n acc x) (codeN v n acc (x++y))
 | 0,_,_,_=>rfl
 | n+1,acc,x,hl=>by
  rw [codeN,codeN]
  refine PExt.bind (hv x y hl) fun a r e=>?_
  obtain ⟨u,hu0,hu⟩:=hE _ _ _ e
  cases r with
  | nil=>trivial
  | cons c t =>
   rw [List.cons_append]
   simp only
   split
   ·rfl
   ·split
    ·exact mono_code W v hv hE y n _ t (by rw [hu] at hl; simp only [List.length_append,List.length_cons] at hl ⊢; lia)
    ·rfl
theorem mono_data (W:Nat) (v:List Int→PR PV) (hv:Mono W v) (hE:Eats v) (y:List Int):∀ (n:Nat) (acc:List PV) (x:List Int),(x++y).length<W→PExt y (dataN v n acc x) (dataN v n acc (x++y))
 | 0,_,_,_=>rfl
 | n+1,acc,x,hl=>by
  rw [dataN,dataN]
  refine PExt.bind (hv x y hl) fun a r e=>?_
  obtain ⟨u,hu0,hu⟩:=hE _ _ _ e
  split
  ·rfl
  ·cases r with
   | nil=>trivial
   | cons c t =>
    have hlt:(c::t++y).length<W:=by rw [hu] at hl; simp only [List.length_append,List.length_cons] at hl ⊢; lia
    rw [List.cons_append]
    simp only
    split
    ·exact mono_data W v hv hE y n _ t (by simp only [List.length_append,List.length_cons] at hlt ⊢; lia)
    ·have:=mono_crlf W (c::t) y hlt
     rw [List.cons_append] at this
     exact PExt.bind this fun _ r _=>rfl
theorem mono_cmd (W dep:Nat):Mono W (cmdP W dep):=by
 unfold cmdP
 refine Mono.bind (mono_run W isTagC) (suf_run W isTagC) fun tag=>?_
 intro x y hl
 cases x with
 | nil=>trivial
 | cons c t =>
  have hlt:(t++y).length<W:=by simp only [List.length_append,List.length_cons] at hl ⊢; lia
  rw [List.cons_append]
  simp only
  split
  ·refine PExt.bind (mono_run W isLet t y hlt) fun name r e=>?_
   have:=suf_run W isLet _ _ _ e
   refine PExt.bind (mono_vals W _ (mono_val W dep) (eats_val dep) y W [] r (by rw [List.length_append] at hlt ⊢; lia)) fun vs r' _=>rfl
  ·rfl
end Mine
namespace Mine
theorem mono_text (W:Nat):Mono W (textP W):=by
 intro x y hl
 have etx:(fun c:Int=>decide (c≠10) && decide (c≠13) && decide (c≠0))=txtC:=rfl
 unfold textP
 rw [etx]
 cases hs:scanN txtC W x with
 | none=>rw [scanN_none _ y W x hs]; rfl
 | some r =>
  obtain ⟨u,hu⟩:=scanN_len _ _ _ _ hs
  cases r with
  | nil =>
   cases x with
   | nil=>trivial
   | cons c t =>
    simp only
    by_cases c91:c=91
    case neg=>rw [if_neg c91]; trivial
    subst c91
    rw [if_pos rfl]
    show _=_
    cases hs2:scanN txtC W (91::t++y) with
    | none=>exact absurd hs2 (scanN_fuel _ _ _ hl)
    | some r2 =>
     cases r2 with
     | nil=>rfl
     | cons a b =>
      obtain ⟨v,hv⟩:=scanN_len _ _ _ _ hs2
      simp only
      split
      ·rw [ahead_app hv]
       cases v with
       | nil =>
        exfalso
        have:(91::(t++y))=a::b:=hv
        injection this with h1 h2
        subst h1
        cases W with
        | zero=>simp at hl
        | succ n =>
         rw [List.cons_append,scanN] at hs2
         rw [if_pos (by decide)] at hs2
         obtain ⟨v',hv'⟩:=scanN_len _ _ _ _ hs2
         have e1:=congrArg List.length hv'
         rw [← h2] at e1
         simp only [List.length_append,List.length_cons] at e1; lia
       | cons q w =>
        have:91=q:=by
         have:=congrArg List.head? hv
         simpa using this
        subst this
        rfl
      ·rfl
  | cons c t =>
   rw [scanN_some _ y W x c t hs]
   simp only [List.cons_append]
   split
   ·rename_i hc
    have e:=ahead_ext (y:=y) hu
    simp only [List.cons_append] at e
    rw [e]
    split
    ·rfl
    ·split
     ·rfl
     ·have hlt:(c::t++y).length<W:=by rw [hu] at hl; simp only [List.length_append,List.length_cons] at hl ⊢; lia
      have:=mono_crlf W (c::t) y hlt
      rw [List.cons_append] at this
      exact PExt.bind this fun _ r _=>rfl
   ·rfl
theorem mono_fin (W:Nat) (tag w:List Int) (code:PV):Mono W (finP W tag w code):=by
 intro x y hl
 exact PExt.bind (mono_text W x y hl) fun _ r _=>rfl
theorem code_suf {v:List Int→PR PV} (hE:Eats v):∀ (n:Nat) (acc:List PV) (x:List Int) (vs:List PV) (r:List Int),codeN v n acc x=.ok vs r→r.length≤x.length
 | 0,_,_,_,_,h=>by cases h
 | n+1,acc,x,vs,r,h=>by
  rw [codeN] at h
  cases hv:v x with
  | none=>rw [hv] at h; cases h
  | err=>rw [hv] at h; cases h
  | stuck=>rw [hv] at h; cases h
  | ok a q =>
   rw [hv] at h
   obtain ⟨u,_,e⟩:=hE _ _ _ hv
   simp only [PR.bind] at h
   cases q with
   | nil=>cases h
   | cons c t =>
    simp only at h
    have e2:x.length=u.length+(t.length+1):=by rw [e]; simp
    split at h
    ·cases h; lia
    ·split at h
     ·have:=code_suf hE n _ _ _ _ h; lia
     ·cases h
theorem mono_statRest (W dep:Nat) (tag w:List Int):Mono W (statRest W dep tag w):=by
 intro x y hl
 unfold statRest
 cases x with
 | nil=>trivial
 | cons c t =>
  have hlt:(t++y).length<W:=by simp only [List.length_append,List.length_cons] at hl ⊢; lia
  rw [List.cons_append]
  simp only
  split
  ·refine PExt.bind (mono_code W _ (mono_val W dep) (eats_val dep) y W [] t hlt) fun vs r e=>?_
   have:=code_suf (eats_val dep) _ _ _ _ _ e
   unfold codeEnd
   cases r with
   | nil=>trivial
   | cons a b =>
    rw [List.cons_append]
    simp only
    split
    ·exact mono_fin W tag w _ b y (by simp only [List.length_append,List.length_cons] at this hlt ⊢; lia)
    ·rfl
  ·have:=mono_fin W tag w .none (c::t) y (by rw [List.cons_append]; exact hl)
   rw [List.cons_append] at this
   exact this
noncomputable def hit (x w:List Int):Bool:=decide ((x.take (w.length+1)).length=w.length+1) && decide (up (x.take (w.length+1))=w++[32])
theorem statP_eq (x:List Int):statP x=statuses.find? (hit x):=rfl
theorem hit_ext {x w:List Int} (h:w.length+1≤x.length) (y:List Int):hit (x++y) w=hit x w:=by
 unfold hit
 rw [List.take_append_of_le_length h]
theorem hit_short {x w:List Int} (h:x.length<w.length+1):hit x w=false:=by
 unfold hit
 have:¬ (x.take (w.length+1)).length=w.length+1:=by rw [List.length_take]; lia
 rw [decide_eq_false this]; rfl
theorem hit_len {x w:List Int} (h:hit x w=true):w.length+1≤x.length:=by
 rcases Nat.lt_or_ge x.length (w.length+1) with h' | h'
 ·rw [hit_short h'] at h; cases h
 ·exact h'
theorem statP_some {x w:List Int} (h:statP x=some w) (y:List Int):statP (x++y)=some w:=by
 rw [statP_eq] at h ⊢
 have hm:=List.mem_of_find?_eq_some h
 have ht:=List.find?_some h
 have hl:=hit_len ht
 simp only [statuses,List.mem_cons,List.not_mem_nil,or_false] at hm
 simp only [statuses,List.find?_cons,List.find?_nil] at h ⊢
 have e1:(3:Nat)≤x.length:=by rcases hm with rfl | rfl | rfl | rfl <;> simp at hl <;> lia
 have k1:hit (x++y) [79,75]=hit x [79,75]:=hit_ext (w:=_) (x:=x) (by simpa using e1) y
 have k2:hit (x++y) [78,79]=hit x [78,79]:=hit_ext (w:=_) (x:=x) (by simpa using e1) y
 rw [k1,k2]
 by_cases h4:4≤x.length
 ·have k3:hit (x++y) [66,65,68]=hit x [66,65,68]:=hit_ext (w:=_) (x:=x) (by simpa using h4) y
  have k4:hit (x++y) [66,89,69]=hit x [66,89,69]:=hit_ext (w:=_) (x:=x) (by simpa using h4) y
  rw [k3,k4]; exact h
 ·have k3:hit x [66,65,68]=false:=hit_short (by simp; lia)
  have k4:hit x [66,89,69]=false:=hit_short (by simp; lia)
  rw [k3,k4] at h
  cases a1:hit x [79,75] with
  | true=>rw [a1] at h; exact h
  | false =>
   rw [a1] at h
   simp only at h ⊢
   cases a2:hit x [78,79] with
   | true=>rw [a2] at h; exact h
   | false=>rw [a2] at h; cases h
theorem statP_none {x:List Int} (h:statP x=none):∀ w∈statuses,hit x w=false:=by
 rw [statP_eq,List.find?_eq_none] at h
 intro w hw
 simpa using h w hw
theorem scan_letters:∀ (n:Nat) (x:List Int),x.length<n→(∀ c∈x,isAtomC c=true)→scanN isAtomC n x=some []
 | 0,x,h,_=>by lia
 | n+1,[],_,_=>rfl
 | n+1,c::t,h,hx=>by
  rw [scanN,if_pos (hx c (by simp))]
  exact scan_letters n t (by simpa using h) (fun a ha=>hx a (by simp [ha]))
theorem letter_atom {c:Int} (h:65≤upC c) (h2:upC c≤90):isAtomC c=true∧c≠92∧c≠40∧c≠34∧c≠123:=by
 have:(65≤c∧c≤90)∨(97≤c∧c≤122):=by
  unfold upC at h h2; split at h <;> split at h2 <;> lia
 refine ⟨?_,by lia,by lia,by lia,by lia⟩
 unfold isAtomC
 have h1:¬ c<33:=by lia
 have h2:¬ 126<c:=by lia
 have h3:¬ c∈[34,37,40,41,42,92,93,123]:=by
  simp only [List.mem_cons,List.not_mem_nil,or_false]; lia
 simp [h1,h2,h3]
theorem val_open (W dep:Nat) (x:List Int) (hl:x.length<W) (h:∀ c∈x,65≤upC c∧upC c≤90):valP W dep x=.none:=by
 cases x with
 | nil=>exact valP_nil dep
 | cons c t =>
  obtain ⟨k0,k1,k2,k3,k4⟩:=letter_atom (h c (by simp)).1 (h c (by simp)).2
  rw [valP_cons,if_neg k2,if_neg k3,if_neg k4]
  unfold wordP
  have e:skip92 (c::t)=c::t:=by unfold skip92; split; (rename_i heq; cases heq; exact absurd rfl k1); rfl
  rw [e,scan_letters W (c::t) hl (fun a ha=>(letter_atom (h a ha).1 (h a ha).2).1)]
theorem up_take (x:List Int) (n:Nat):up (x.take n)=(up x).take n:=by unfold up; rw [List.map_take]
theorem up_len (x:List Int):(up x).length=x.length:=by unfold up; simp
theorem up_app (x y:List Int):up (x++y)=up x++up y:=by unfold up; simp
theorem hit_prefix {x y w:List Int} (h:hit (x++y) w=true) (hx:x.length≤w.length+1):(w++[32]).take (up x).length=up x:=by
 unfold hit at h
 simp only [Bool.and_eq_true,decide_eq_true_iff] at h
 rw [← h.2,up_take,up_app,up_len]
 rw [List.take_take,Nat.min_eq_left hx,← up_len x,List.take_left]
theorem mono_rest (W dep:Nat) (tag:List Int):Mono W (restP W dep tag):=by
 intro x y hl
 unfold restP
 cases hs:statP x with
 | some w =>
  rw [statP_some hs y]
  simp only
  have ht:hit x w=true:=by rw [statP_eq] at hs; exact List.find?_some hs
  have hw:=hit_len ht
  rw [List.drop_append_of_le_length hw]
  exact mono_statRest W dep tag w (x.drop (w.length+1)) y (by rw [List.length_append] at hl ⊢; rw [List.length_drop]; lia)
 | none =>
  have hno:=statP_none hs
  simp only
  by_cases ht:tag≠[]
  ·rw [if_pos ht]
   by_cases hop:x.length≤4∧statuses.any (fun w=>decide ((w++[32]).take (up x).length=up x))=true
   ·rw [if_pos hop]; trivial
   rw [if_neg hop]
   show _=_
   have hstat:statP (x++y)=none:=by
    rw [statP_eq,List.find?_eq_none]
    intro w hw hh
    by_cases hle:x.length≤w.length
    ·apply hop
     refine ⟨?_,?_⟩
     ·have:w.length≤3:=by
       simp only [statuses,List.mem_cons,List.not_mem_nil,or_false] at hw
       rcases hw with rfl | rfl | rfl | rfl <;> decide
      lia
     ·rw [List.any_eq_true]
      exact ⟨w,hw,decide_eq_true (hit_prefix hh (by lia))⟩
    ·rw [hit_ext (by lia)] at hh
     rw [hno w hw] at hh; cases hh
   rw [hstat]
   simp only
   rw [if_pos ht,if_neg ?_]
   intro hop2
   apply hop
   refine ⟨by rw [List.length_append] at hop2; lia,?_⟩
   rw [List.any_eq_true] at hop2 ⊢
   obtain ⟨w,hw,hd⟩:=hop2.2
   refine ⟨w,hw,decide_eq_true ?_⟩
   have hd:=of_decide_eq_true hd
   have h1:=congrArg (List.take (up x).length) hd
   rw [List.take_take,up_app,List.length_append,Nat.min_eq_left (by lia),List.take_left] at h1
   exact h1
  ·rw [if_neg ht]
   have ht':tag=[]:=by simpa using ht
   cases hs2:statP (x++y) with
   | none =>
    simp only
    rw [if_neg ht]
    refine PExt.bind (mono_data W _ (mono_val W dep) (eats_val dep) y W [] x hl) fun vs r _=>rfl
   | some w =>
    have hm:w∈statuses:=by rw [statP_eq] at hs2; exact List.mem_of_find?_eq_some hs2
    have hh:hit (x++y) w=true:=by rw [statP_eq] at hs2; exact List.find?_some hs2
    have hle:x.length≤w.length:=by
     rcases Nat.lt_or_ge w.length x.length with h | h
     ·rw [hit_ext (by lia),hno w hm] at hh; cases hh
     ·exact h
    have hpre:=hit_prefix hh (by lia)
    rw [List.take_append_of_le_length (by rw [up_len]; exact hle)] at hpre
    have hlet:∀ c∈x,65≤upC c∧upC c≤90:=by
     intro c hc
     have h1:upC c∈up x:=by unfold up; exact List.mem_map_of_mem hc
     rw [← hpre] at h1
     have h2:=List.take_subset _ _ h1
     have key:∀ w∈statuses,∀ z∈w,65≤z∧z≤90:=by decide
     exact key w hm _ h2
    have hv:=val_open W dep x (by rw [List.length_append] at hl; lia) hlet
    have:dataN (valP W dep) W [] x=.none∨dataN (valP W dep) W [] x=.stuck∧W=0:=by
     cases hW:W with
     | zero=>right; exact ⟨rfl,rfl⟩
     | succ n=>left; rw [hW] at hv; rw [dataN,hv]; rfl
    rcases this with h | ⟨_,h⟩
    ·rw [h]; trivial
    ·lia
theorem mono_go (W dep:Nat) (tag:List Int):Mono W (goP W dep tag):=by
 intro x y hl
 unfold goP
 cases x with
 | nil=>trivial
 | cons c t =>
  rw [List.cons_append]
  simp only
  split
  ·exact mono_rest W dep tag t y (by simp only [List.length_append,List.length_cons] at hl ⊢; lia)
  ·rfl
theorem mono_line (W dep:Nat):Mono W (lineP W dep):=by
 intro x y hl
 unfold lineP
 cases x with
 | nil =>
  have:runP W isTagC []=.none:=by
   cases W with
   | zero=>simp at hl
   | succ n=>rfl
  simp only [this]
  trivial
 | cons c t =>
  have hlt:(t++y).length<W:=by simp only [List.length_append,List.length_cons] at hl ⊢; lia
  rw [List.cons_append]
  simp only
  split
  ·unfold contP
   cases t with
   | nil=>trivial
   | cons b u =>
    rw [List.cons_append]
    simp only
    split
    ·exact PExt.bind (mono_text W u y (by simp only [List.length_append,List.length_cons] at hlt ⊢; lia)) fun _ r _=>rfl
    ·rfl
  ·split
   ·exact mono_go W dep [] t y hlt
   ·have:=mono_run W isTagC (c::t) y (by rw [List.cons_append]; exact hl)
    rw [List.cons_append] at this
    refine PExt.bind this fun tag r e=>?_
    have h2:=suf_run W isTagC _ _ _ e
    exact mono_go W dep tag r y (by simp only [List.length_append,List.length_cons] at hl h2 ⊢; lia)
theorem reads_good {α:Type} {W:Nat} {p:List Int→PR α} (hm:Mono W p) {x:List Int} {a:α} (h:p x=.ok a []) (hl:x.length<W) {n:Nat} (hn:n<x.length):p (x.take n)=.none:=by
 have e:x.take n++x.drop n=x:=List.take_append_drop n x
 have:=hm (x.take n) (x.drop n) (by rw [e]; exact hl)
 rw [e,h] at this
 cases hp:p (x.take n) with
 | none=>rfl
 | err=>rw [hp] at this; cases this
 | stuck=>rw [hp] at this; cases this
 | ok b r =>
  rw [hp] at this
  have h2:=congrArg (fun z:PR α=>match z with | .ok _ r=>r.length | _=>0) (show PR.ok a []=.ok b (r++x.drop n) from this)
  simp only [List.length_nil,List.length_append,List.length_drop] at h2
  lia
theorem reads_more {α:Type} {W:Nat} {p:List Int→PR α} (hm:Mono W p) {x:List Int} {a:α} {r:List Int} (h:p x=.ok a r) (y:List Int) (hl:(x++y).length<W):p (x++y)=.ok a (r++y):=by
 have:=hm x y hl
 rw [h] at this; exact this
end Mine
namespace Mine
open PySem
theorem digR_same (n:Nat):∀ k k':Nat,n<k→n<k'→digR k n=digR k' n:=by
 induction n using Nat.strongRecOn with
 | ind n ih =>
  intro k k' h h'
  obtain ⟨k,rfl⟩:∃ j,k=j+1:=⟨k - 1,by lia⟩
  obtain ⟨k',rfl⟩:∃ j,k'=j+1:=⟨k' - 1,by lia⟩
  rw [digR,digR]
  by_cases h0:n=0
  ·rw [if_pos h0,if_pos h0]
  ·rw [if_neg h0,if_neg h0]
   have h1:n / 10<n:=Nat.div_lt_self (by lia) (by lia)
   rw [ih (n / 10) h1 k k' (by lia) (by lia)]
noncomputable def digs (n:Nat):List Int:=digR (n+1) n
theorem digs_zero:digs 0=[]:=rfl
theorem digs_step {n:Nat} (h:0<n):digs n=((48+n % 10:Nat):Int)::digs (n / 10):=by
 unfold digs
 rw [digR,if_neg (by lia)]
 have h1:n / 10<n:=Nat.div_lt_self (by lia) (by lia)
 rw [digR_same (n / 10) n (n / 10+1) h1 (by lia)]
theorem digs_range (n:Nat):∀ x∈digs n,0≤x∧x<256:=by
 induction n using Nat.strongRecOn with
 | ind n ih =>
  by_cases h0:n=0
  ·subst h0; intro x hx; cases hx
  ·rw [digs_step (by lia)]
   intro x hx
   rcases List.mem_cons.1 hx with e | e
   ·have:=Nat.mod_lt n (show 10 > 0 by lia); rw [e]; lia
   ·exact ih (n / 10) (Nat.div_lt_self (by lia) (by lia)) x e
theorem digs_len:∀ (j n:Nat),n<10 ^ j→(digs n).length≤j
 | 0,n,h=>by
  have:n=0:=by simpa using h
  subst this; simp [digs_zero]
 | j+1,n,h=>by
  by_cases h0:n=0
  ·subst h0; simp [digs_zero]
  ·rw [digs_step (by lia),List.length_cons]
   have:=digs_len j (n / 10) (by rw [Nat.div_lt_iff_lt_mul (by lia)]; rw [Nat.pow_succ] at h; exact h)
   lia
theorem decD_digs {n:Nat} (h:0<n):decD n=(digs n).reverse:=by unfold decD digs; rw [if_neg (by lia)]
end Mine
namespace Mine
open PySem PySem.W PyProof.Rows
noncomputable def decNames : List (Str × NameKind) := [(Str.ofString "n",.local),(Str.ofString "digits",.cell),(Str.ofString "bytes",.globalImplicit),(Str.ofString "range",.globalImplicit),(Str.ofString "len",.globalImplicit)]
noncomputable def decComp : Scope := { kind := .function,names := [(Str.ofString ".0",.local),(Str.ofString "i",.local),(Str.ofString "digits",.free)],isGenerator := false,isCoroutine := false,more := [] }
noncomputable def decTest (p : Nat → Pos) : Expr := .Compare (.Name "n" (p 10)) [.Gt] [.Constant (.int 0) 0 (p 11)] (p 12)
noncomputable def decElt (p : Nat → Pos) : Expr := .BinOp (.Constant (.int 48) 0 (p 15)) .Add (.BinOp (.Name "n" (p 16)) .Mod (.Constant (.int 10) 0 (p 17)) (p 18)) (p 19)
noncomputable def decDiv (p : Nat → Pos) : Expr := .BinOp (.Name "n" (p 23)) .FloorDiv (.Constant (.int 10) 0 (p 24)) (p 25)
noncomputable def decLen (p : Nat → Pos) : Expr := .BinOp (.Call (.Name "len" (p 34)) [.Name "digits" (p 35)] [] (p 36)) .Sub (.Constant (.int 1) 0 (p 37)) (p 38)
noncomputable def decRange (p : Nat → Pos) : Expr := .Call (.Name "range" (p 33)) [decLen p,.UnaryOp .USub (.Constant (.int 1) 0 (p 39)) (p 40),.UnaryOp .USub (.Constant (.int 1) 0 (p 41)) (p 42)] [] (p 43)
noncomputable def decList (p : Nat → Pos) : Expr := .ListComp (.Subscript (.Name "digits" (p 29)) (.Name "i" (p 30)) (p 31)) [⟨.Name "i" (p 32),decRange p,[],0⟩] decComp (p 44)
noncomputable def decApp (p : Nat → Pos) : Stmt := .Expr (.Call (.Attribute (.Name "digits" (p 13)) "append" (p 14)) [decElt p] [] (p 20)) (p 21)
noncomputable def decBody (p:Nat→Pos):List Stmt:=[
 .If (.Compare (.Name "n" (p 1)) [.Eq] [.Constant (.int 0) 0 (p 2)] (p 3)) [.Return (some (.Constant (.bytes [48]) 0 (p 4))) (p 5)] [] (p 6),
 .Assign [.Name "digits" (p 7)] (.List [] (p 8)) (p 9),
 .While (decTest p) [decApp p,.Assign [.Name "n" (p 22)] (decDiv p) (p 26)] [] (p 27),
 .Return (some (.Call (.Name "bytes" (p 28)) [decList p] [] (p 45))) (p 46)]
structure DecOk (Γ:Ct):Prop where
 there : ∃ a o params scope pm code doc p,Γ.mg (Str.ofString "_decimal") = some (.ref a) ∧ Γ.Base.get? a = some o ∧ o.data = .func (Calls.docDef (Str.ofString "_decimal") params (decBody p) scope pm code doc) ∧ Γ.Base.CodeRec code (Str.ofString "_decimal") ∧
  (∀ v : Value,bindArgs (Calls.docDef (Str.ofString "_decimal") params (decBody p) scope pm code doc) ⟨[v],[]⟩ = pure [(Str.ofString "n",v)]) ∧ scope.isCoroutine = false ∧ scope.isGenerator = false ∧ scope.kind = .function ∧ scope.names = decNames ∧ ((p 14).endLine == (p 20).line) = true
theorem cell_ups {h h':Heap} {c:Addr} {v:Option Value} (x:h.IsCell c v) (u:h.UpToSlots h'):h'.IsCell c v:=by
 obtain ⟨o,ho,hd⟩:=x
 obtain ⟨sl,q⟩:=u c o ho fun vs q=>by rw [hd] at q; cases q
 exact ⟨_,q,hd⟩
theorem own_same {h h':Heap} {a C:Addr} {ws:List Value} (x:OwnAt h a ws) (hs:Heap.SameBut C h h') (hne:a≠C):OwnAt h' a ws:=by
 obtain ⟨o,n,ho,hc,hdn,hd⟩:=x
 exact ⟨o,n,(hs.2 a hne).trans ho,hc,hdn,hd⟩
section
variable {prog:Program} {w:World} {Γ:Ct} {B:Bl}
theorem st_turn {d:Nat} (hB:B.Ok d) (hfn:B.fenv.frame=some B.env.locals) {H:Heap} {ρ:List Slot} {s:Shared} (hno:∀ i l,getS ρ i≠.own l) (hs:St Γ B H ρ s) {C:Addr} (hC:H.get? C=none) (hlt:B.env.locals<C)
  {h':Heap} (hsb:Heap.SameBut C s.heap h'):St Γ B H ρ { s with heap:=h' }:=by
 obtain ⟨m,oa,hn,hl,hN,hsl,hdd⟩:=hs.loc
 have hne:B.env.locals≠C:=Nat.ne_of_lt hlt
 refine ⟨hs.base,fun b o e=>(hsb.2 b (fun q=>by rw [q,hC] at e; cases e)).trans (hs.stays b o e),?_,m,oa,hn.sameBut hsb hne,hl,hN,fun i x hx=>?_,hdd⟩
 ·have:=hs.frames
  have low:∀ v∈B.fenv::B.outer,∀ L,v.frame=some L→L≠C:=fun v hv L hL=>by
   rcases List.mem_cons.mp hv with rfl | hv
   ·rw [hfn] at hL; obtain rfl:=Option.some.inj hL; exact hne
   ·exact Nat.ne_of_lt (Nat.lt_trans (Nat.lt_of_lt_of_le (hB.low v hv L hL) hN) hlt)
  revert this low
  generalize B.fenv::B.outer=l
  intro this low
  induction l with
  | nil=>trivial
  | cons v r ih =>
   obtain ⟨hk',⟨L',o₁,hf,hnn,ho₁,hd₁⟩,hr⟩:=this
   exact ⟨hk',⟨L',o₁,hf,hnn,(hsb.2 L' (low v (.head _) L' hf)).trans ho₁,hd₁⟩,ih hr fun u hu=>low u (.tail _ hu)⟩
 ·have:=hsl i x hx
  revert this
  cases hg:getS ρ i with
  | unset=>exact fun h=>h
  | val p=>exact fun h=>h
  | own l=>exact absurd hg (hno i l)
theorem no_own (p:PV):∀ i l,getS [.val p] i≠.own l:=by
 intro i l
 cases i with
 | zero=>intro h; cases h
 | succ i=>intro h; cases i <;> cases h
noncomputable def DSt (Γ:Ct) (B:Bl) (H₀:Heap) (h₀:Shared) (c:Addr) (n:Nat) (ds:List Int) (s:Shared):Prop :=
 ∃ H D ws,ExtS B.N₀ H₀ h₀ H s∧St Γ B H [.val (.int n)] s∧s.heap.IsCell c (some (.ref D))∧H.get? c=none∧OwnAt s.heap D ws∧H.get? D=none∧B.env.locals<D∧B.env.locals<c∧c≠D∧RepL H (ds.map PV.int) ws
structure DB (Γ:Ct) (B:Bl) (c:Addr):Prop where
 names:B.env.scope.names=decNames
 vs : B.vs = [Str.ofString "n"]
 cells : B.env.cells.lookup (Str.ofString "digits") = some c
 fr:B.fenv.frame=some B.env.locals
 clos : closureFor decComp B.env = pure [(Str.ofString "digits",c)]
theorem DB.kind {c:Addr} (x:DB Γ B c) {n:Str} {k:NameKind} (h:decNames.lookup n=some k):B.env.kindOf n=some k:=by
 show B.env.scope.names.lookup n=some k; rw [x.names]; exact h
theorem DB.gd {c : Addr} (x : DB Γ B c) : Gd Γ ⟨decNames,[Str.ofString "n"],Γ.fs,Γ.gs⟩ B := ⟨x.names.symm,x.vs.symm,rfl,rfl⟩
theorem dec_turn {d:Nat} (hΓ:Γ.Ok) (hfn:∀ (f:Nat) (x:Str),Γ.fs[f]?=some x→FnAt Γ x) (hB:B.Ok d) {c:Addr} (hD:DB Γ B c) (p:Nat→Pos) (hln:((p 14).endLine == (p 20).line)=true)
  {H₀:Heap} {h₀:Shared} {n:Nat} {ds:List Int} {s:Shared} (hlen:ds.length<1000) {E:Value→Shared→Prop} {Q:Flow→Shared→Prop} (x:DSt Γ B H₀ h₀ c n ds s) (hQ:∀ s',DSt Γ B H₀ h₀ c (n / 10) (ds++[((48+n % 10:Nat):Int)]) s'→Q .next s') :
  wpAny (model prog w) B.A (execs [decApp p,.Assign [.Name "n" (p 22)] (decDiv p) (p 26)] B.env) Q E s := by
 obtain ⟨H,D,ws,ex,hs,hcell,hcH,hown,hDH,hLD,hLc,hcD,hrl⟩:=x
 have hF:∀ f x,Γ.fs[f]?=some x→FnAt Γ x∧∀ args,Con prog w Γ d x args ((fun _ _=>Res.stuck:Nat→List PV→Res PV) f args):=fun f x hx=>⟨hfn f x hx,fun args a A H l s ws Q E _ _ _ hp=>hp.elim⟩
 have helt:=(chk_e hΓ hF (.bin .add (.lit (.int 48)) (.bin .mod (.var 0) (.lit (.int 10)))) hB hD.gd (e:=decElt p) rfl).1
 have hdiv:=(chk_e hΓ hF (.bin .fdiv (.var 0) (.lit (.int 10))) hB hD.gd (e:=decDiv p) rfl).1
 have hkd : B.env.kindOf (Str.ofString "digits") = some .cell := hD.kind rfl
 have hkn : B.env.kindOf (Str.ofString "n") = some .local := hD.kind rfl
 have hvn : B.vs[0]? = some (Str.ofString "n") := by rw [hD.vs]; rfl
 refine wpAny_execs_cons ?_
 have htr:backTo (p 20) (starEach [decElt p] B.env)=[(false,eval (decElt p) B.env)]:=by rw [starEach_cons rfl]; rfl
 refine wpAny_Expr ?_ (not_interactive hB) (notComp_swaps rfl)
 refine wpAny_Call_append rfl (by rw [htr]; rfl) hln htr ?_
 refine wpAny_Name (wpAny_loadName_cell hB.kind hkd hD.cells hcell ⟨D,ws.toArray,rfl,?_,?_⟩) rfl
 ·obtain ⟨o,k,ho,hc,hdn,hdt⟩:=hown; exact ⟨o,k,ho,hc,hdn,hdt⟩
 refine helt H _ s _ _ hs ?_
 have ev:evE (fun _ _=>Res.stuck) Γ.GV (.bin .add (.lit (.int 48)) (.bin .mod (.var 0) (.lit (.int 10)))) [.val (.int n)]=.ok (.int (48+(n:Int) % 10)):=rfl
 rw [ev]
 intro v s₁ H₁ e₁ r₁
 have hs₁:=hs.ext e₁
 have hown₁:=hown.ups e₁.ups
 have hcell₁:=cell_ups hcell e₁.ups
 have hDH₁:H₁.get? D=none:=by
  obtain ⟨o,k,ho,_,_,hdt⟩:=hown
  exact e₁.old _ o ho (fun vs q=>by rw [hdt] at q; cases q) hDH
 have hcH₁:H₁.get? c=none:=by
  obtain ⟨o,ho,hdt⟩:=hcell
  exact e₁.old _ o ho (fun vs q=>by rw [hdt] at q; cases q) hcH
 have hrl₁:=hrl.mono e₁.grow
 have hwl:ws.length=ds.length:=by rw [hrl.length,List.length_map]
 obtain ⟨o,k,ho,hc,hdn,hdt⟩:=id hown₁
 refine list_append_plainL (its:=ws.toArray) ⟨o,k,ho,hc,hdn,hdt⟩ (fun h' hpl hsb=>?_) (by rw [List.size_toArray,hwl]; exact lim_line (by unfold lim; lia))
 have keep:∀ b o,s₁.heap.get? b=some o→b≠D→h'.get? b=some o:=fun b o e hb=>(hsb.2 b hb).trans e
 have hs₂:St Γ B H₁ [.val (.int n)] { s₁ with heap:=h' }:=st_turn hB hD.fr (no_own _) hs₁ hDH₁ hLD hsb
 have hown₂:OwnAt h' D (ws++[v]):=by
  obtain ⟨o',n',a1,a2,a3,a4⟩:=hpl
  exact ⟨o',n',a1,a2,a3,by rw [a4]; simp⟩
 have hcell₂:h'.IsCell c (some (.ref D)):=hcell₁.sameBut hsb hcD
 have hN:B.N₀≤B.env.locals:=by obtain ⟨_,_,_,_,hN,_⟩:=hs.loc; exact hN
 have ex₂:ExtS B.N₀ H₀ h₀ H₁ { s₁ with heap:=h' }:=(ex.trans e₁.toS).trans ⟨stays_refl _,fun _ _ _ _ _ e=>e,hs₂.stays,fun b o hb e _=>⟨o.slots,keep b o e (fun q=>by subst q; exact absurd (Nat.lt_of_lt_of_le hb hN) (Nat.not_lt.mpr (Nat.le_of_lt hLD)))⟩,rfl,rfl⟩
 show wpAny _ _ (execs [.Assign [.Name "n" (p 22)] (decDiv p) (p 26)] B.env) _ _ _
 refine wpAny_execs_cons ?_
 refine wpAny_Assign_Name (hdiv H₁ _ _ _ _ hs₂ ?_) (notComp_swaps rfl)
 have ev2:evE (fun _ _=>Res.stuck) Γ.GV (.bin .fdiv (.var 0) (.lit (.int 10))) [.val (.int n)]=.ok (.int ((n:Int) / 10)):=rfl
 rw [ev2]
 intro v₂ s₃ H₃ e₃ r₃
 have hs₃:=hs₂.ext e₃
 refine store_var2 hB hs₃ hvn hkn r₃ fun s₄ hs₄ ex₄ hsb₄=>?_
 show wpAny _ _ (execs [] _) _ _ _
 refine wpAny_execs_nil (hQ s₄ ⟨H₃,D,ws++[v],(ex₂.trans e₃.toS).trans ex₄,?_,(cell_ups hcell₂ e₃.ups).sameBut hsb₄ (Nat.ne_of_gt hLc),?_,own_same (hown₂.ups e₃.ups) hsb₄ (Nat.ne_of_gt hLD),?_,hLD,hLc,hcD,?_⟩)
 ·have:((n / 10:Nat):Int)=(n:Int) / 10:=by lia
  rw [this]; exact hs₄
 ·obtain ⟨o,ho,hdt⟩:=hcell₂
  exact e₃.old _ o ho (fun vs q=>by rw [hdt] at q; cases q) hcH₁
 ·obtain ⟨o,k,ho,_,_,hdt⟩:=hown₂
  exact e₃.old _ o ho (fun vs q=>by rw [hdt] at q; cases q) hDH₁
 ·rw [List.map_append]
  refine RepL.append (hrl₁.mono e₃.grow) (RepL.one ?_)
  have:((48+n % 10:Nat):Int)=48+(n:Int) % 10:=by lia
  rw [this]; exact r₁.mono e₃.grow
theorem dec_while {d:Nat} (hΓ:Γ.Ok) (hfn:∀ (f:Nat) (x:Str),Γ.fs[f]?=some x→FnAt Γ x) (hB:B.Ok d) {c:Addr} (hD:DB Γ B c) (p:Nat→Pos) (hln:((p 14).endLine == (p 20).line)=true)
  {H₀:Heap} {h₀:Shared} {n:Nat} {ds all:List Int} {s:Shared} (hall:ds++digs n=all) (hlen:all.length<1000) {E:Value→Shared→Prop} {Q:Flow→Shared→Prop} (x:DSt Γ B H₀ h₀ c n ds s) (hQ:∀ s',DSt Γ B H₀ h₀ c 0 all s'→Q .next s') :
  wpAny (model prog w) B.A (exec (.While (decTest p) [decApp p,.Assign [.Name "n" (p 22)] (decDiv p) (p 26)] [] (p 27)) B.env) Q E s := by
 have hF:∀ f x,Γ.fs[f]?=some x→FnAt Γ x∧∀ args,Con prog w Γ d x args ((fun _ _=>Res.stuck:Nat→List PV→Res PV) f args):=fun f x hx=>⟨hfn f x hx,fun args a A H l s ws Q E _ _ _ hp=>hp.elim⟩
 have htest:=(chk_e hΓ hF (.cmp .gt (.var 0) (.lit (.int 0))) hB hD.gd (e:=decTest p) rfl).2
 refine wpAny_While ?_
 refine codeAny_whileLoop (fun k s'=>∃ ds',ds'++digs k=all∧DSt Γ B H₀ h₀ c k ds' s') ?_ n ⟨ds,hall,x⟩
 rintro k s' ⟨ds',hall',x'⟩
 obtain ⟨H,D,ws,ex,hs,hcell,hcH,hown,hDH,hLD,hLc,hcD,hrl⟩:=id x'
 refine htest H _ s' _ _ hs ?_
 have ev:(evE (fun _ _=>Res.stuck) Γ.GV (.cmp .gt (.var 0) (.lit (.int 0))) [.val (.int k)]).bind truP=.ok (decide ((0:Int)<(k:Int))):=rfl
 show Post _ _ _ _ ((evE (fun _ _=>Res.stuck) Γ.GV (.cmp .gt (.var 0) (.lit (.int 0))) [.val (.int k)]).bind truP) _ _
 rw [ev]
 intro y s₁ H₁ e₁ hy
 have x₁:DSt Γ B H₀ h₀ c k ds' s₁:=by
  refine ⟨H₁,D,ws,ex.trans e₁.toS,hs.ext e₁,cell_ups hcell e₁.ups,?_,hown.ups e₁.ups,?_,hLD,hLc,hcD,hrl.mono e₁.grow⟩
  ·obtain ⟨o,ho,hdt⟩:=hcell
   exact e₁.old _ o ho (fun vs q=>by rw [hdt] at q; cases q) hcH
  ·obtain ⟨o,k,ho,_,_,hdt⟩:=hown
   exact e₁.old _ o ho (fun vs q=>by rw [hdt] at q; cases q) hDH
 by_cases hk:k=0
 ·subst hk
  have hy':y=false:=by rw [← hy]; rfl
  subst hy'
  show wpAny _ _ (execs [] _) _ _ _
  rw [digs_zero,List.append_nil] at hall'
  subst hall'
  exact wpAny_execs_nil (hQ s₁ x₁)
 ·have hy':y=true:=by rw [← hy]; exact decide_eq_true (by lia)
  subst hy'
  show wpAny _ _ (execs _ _) _ _ _
  have hl:ds'.length<1000:=by rw [← hall',List.length_append] at hlen; lia
  refine dec_turn hΓ hfn hB hD p hln hl x₁ fun s₂ x₂=>?_
  refine ⟨k / 10,Nat.div_lt_self (by lia) (by lia),ds'++[((48+k % 10:Nat):Int)],?_,x₂⟩
  rw [List.append_assoc,← hall',digs_step (show 0<k by lia)]; rfl
end
end Mine
namespace Mine
open PySem PySem.W PyProof.Rows
theorem rangeSize_down (n:Nat):Builtin.Range.rangeSize ((n:Int) - 1) (-1) (-1)=(n:Int):=by
 unfold Builtin.Range.rangeSize
 rw [if_neg (by decide)]
 split
 ·rw [show -(-1:Int)=1 by decide,Int.ediv_one]; lia
 ·lia
theorem small_down {n:Nat} (h:n<100000):Builtin.Range.small ((n:Int) - 1) (-1) (-1)=true:=by
 unfold Builtin.Range.small
 rw [rangeSize_down]
 simp only [Builtin.Range.rangeFitsLong,Bool.and_eq_true,Bool.or_eq_true,decide_eq_true_eq,beq_iff_eq,show ¬ ((-1:Int) > 0) by decide,if_false]
 lia
theorem dec_pairs {ds:List Int}:∀ {vs ys:List Value} {ns:List Int},Paired (fun (v y:Value)=>∃ (i:Int) (t:Tok) (x:Int) (u:Tok),v=Value.int i t∧y=Value.int x u∧0≤i∧ds[i.toNat]?=some x) vs ys→vs.length=ns.length →
  (∀ (j:Nat) (v:Value),vs[j]?=some v→∃ (i:Int) (t:Tok),v=Value.int i t∧ds[i.toNat]?=ns[j]?)→IntsAre ys ns
 | _,_,ns,.nil,hl,_=>by
  cases ns with
  | nil=>exact .nil
  | cons a r=>simp at hl
 | _,_,ns,.cons (a:=a) (b:=b) (l₁:=l₁) (l₂:=l₂) hF ht,hl,h=>by
  cases ns with
  | nil=>simp at hl
  | cons x r =>
   obtain ⟨i,t,y,u,rfl,rfl,h0,hd⟩:=hF
   obtain ⟨i',t',e,hd'⟩:=h 0 _ rfl
   cases e
   rw [hd] at hd'
   simp at hd'
   subst hd'
   exact .cons y u (dec_pairs ht (by simpa using hl) fun j v hv=>by simpa using h (j+1) v (by simpa using hv))
section
variable {prog:Program} {w:World} {Γ:Ct} {B:Bl}
theorem dec_range {d:Nat} (hΓ:Γ.Ok) (hB:B.Ok d) {c:Addr} (hD:DB Γ B c) (p:Nat→Pos) {H:Heap} {ρ:List Slot} {s:Shared} (hs:St Γ B H ρ s) {D:Addr} {ws:List Value} (hcell:s.heap.IsCell c (some (.ref D))) (hown:OwnAt s.heap D ws)
  (hlen:ws.length<1000) {E:Value→Shared→Prop} {Q:Value→Shared→Prop} (hQ:∀ s₁ H₁ r t u v,Ext H s H₁ s₁→IsRange s₁.heap r ((ws.length:Int) - 1) (-1) (-1) t u v→Q (.ref r) s₁) :
  wpAny (model prog w) B.A (eval (decRange p) B.env) Q E s:=by
 have hkr : B.env.kindOf (Str.ofString "range") = some .globalImplicit := hD.kind rfl
 have hkl : B.env.kindOf (Str.ofString "len") = some .globalImplicit := hD.kind rfl
 have hkd : B.env.kindOf (Str.ofString "digits") = some .cell := hD.kind rfl
 unfold decRange
 refine Call_Name rfl (word_name hΓ hB hkr rfl (by decide) Boot.«range» hs ?_)
 have htr:backTo (p 43) (starEach [decLen p,.UnaryOp .USub (.Constant (.int 1) 0 (p 39)) (p 40),.UnaryOp .USub (.Constant (.int 1) 0 (p 41)) (p 42)] B.env)=[(false,eval (decLen p) B.env),(false,eval (.UnaryOp .USub (.Constant (.int 1) 0 (p 39)) (p 40)) B.env),(false,eval (.UnaryOp .USub (.Constant (.int 1) 0 (p 41)) (p 42)) B.env)]:=by
  rw [starEach_cons rfl,starEach_cons rfl,starEach_cons rfl]; rfl
 rw [htr]
 refine PySem.callWith_type rfl (Calls.evalArgs_plain (Calls.spliced_cons ?_))
 unfold decLen
 refine wpAny_BinOp ?_
 refine call1_b hΓ hB (id := "len") (by decide) (by kernel_rfl) hkl rfl rfl hs ?_
 refine wpAny_Name (wpAny_loadName_cell hB.kind hkd hD.cells hcell ?_) rfl
 refine len_list hown.list (by rw [List.size_toArray]; lia) ?_
 rw [show (ws.toArray.size:Int)=(ws.length:Int) by rw [List.size_toArray]]
 refine (se_lit (prog:=prog) (w:=w) (Γ:=Γ) (B:=B) (k:=0) (pos:=p 37) (c:=.int 1) (v:=.int 1) rfl (fun l e=>by cases e)) H ρ { s with toks:=_ } _ _ (hs.ext (s':={ s with toks:=_ }) (.refl hs.stays)) ?_
 intro b s₁ H₁ e₁ r₁
 have hs₁:=(hs.ext (s':={ s with toks:=_ }) (.refl hs.stays)).ext e₁
 refine so_bin (o:=.sub) rfl H₁ ρ s₁ (.int (ws.length:Int)) (.int 1) _ _ hs₁ (repInt _ _ _) r₁ _ _ ?_
 intro v₁ s₂ H₂ e₂ r₂
 have hs₂:=hs₁.ext e₂
 refine Calls.spliced_cons ?_
 refine (se_neg (prog:=prog) (w:=w) (Γ:=Γ) (B:=B) (k:=0) (p:=p 39) (pos:=p 40) (i:=1) (n:=1) rfl) H₂ ρ s₂ _ _ hs₂ ?_
 intro v₂ s₃ H₃ e₃ r₃
 have hs₃:=hs₂.ext e₃
 refine Calls.spliced_cons ?_
 refine (se_neg (prog:=prog) (w:=w) (Γ:=Γ) (B:=B) (k:=0) (p:=p 41) (pos:=p 42) (i:=1) (n:=1) rfl) H₃ ρ s₃ _ _ hs₃ ?_
 intro v₃ s₄ H₄ e₄ r₄
 refine Calls.spliced_nil ?_
 obtain ⟨t₁,rfl⟩:=rep_int r₂
 obtain ⟨t₂,rfl⟩:=rep_int r₃
 obtain ⟨t₃,rfl⟩:=rep_int r₄
 refine call_range_3 (by decide) ?_ (Or.inl (PyProof.noPylong_small (by decide)))
 have ex:Ext H s H₄ s₄:=(((Ext.trans (.refl hs.stays) e₁).trans e₂).trans e₃).trans e₄
 refine hQ _ H₄ _ t₁ t₂ t₃ (ex.trans (.push ex.stays _)) ?_
 exact IsRange.new ..
theorem dec_list {d:Nat} (hΓ:Γ.Ok) (hB:B.Ok d) {c:Addr} (hD:DB Γ B c) (p:Nat→Pos) {H:Heap} {ρ:List Slot} {s:Shared} (hs:St Γ B H ρ s) {D:Addr} {ws:List Value} {ds:List Int} (hcell:s.heap.IsCell c (some (.ref D))) (hown:OwnAt s.heap D ws)
  (hrl:RepL H (ds.map PV.int) ws) (hlen:ws.length<1000) {E:Value→Shared→Prop} {Q:Value→Shared→Prop} (hQ:∀ s₁ H₁ a ys,Ext H s H₁ s₁→s₁.heap.IsList a ys.toArray→IntsAre ys ds.reverse→Q (.ref a) s₁) :
  wpAny (model prog w) B.A (eval (decList p) B.env) Q E s:=by
 have hwl:ws.length=ds.length:=by rw [hrl.length,List.length_map]
 unfold decList
 refine wpAny_ListComp_free (fun _=>true) (fun v y=>∃ i t x u,v=.int i t∧y=.int x u∧0≤i∧ds[i.toNat]?=some x) hD.clos (by decide) rfl (by decide) rfl ?_ (fun _=>rfl)
 refine dec_range hΓ hB hD p hs hcell hown hlen fun s₁ H₁ r t u v e₁ hr=>?_
 refine wpAny_pyIter_range hr (small_down (by lia)) ?_
 rw [rangeSize_down]
 have e₂ : Ext H s H₁ { s₁ with heap := s₁.heap.push { cls := .type "range_iterator",data := .fields #[rawInt ((ws.length : Int) - 1),rawInt (ws.length : Int),rawInt (-1)] } } := e₁.trans (.push e₁.stays _)
 refine ⟨s₁.heap.objs.size,[s₁.heap.objs.size],[s₁.heap.objs.size],ws.length,_,_,rfl,(Walks.range hB.hand s₁.heap.objs.size ((ws.length:Int) - 1) (-1) ws.length).bound,by show ws.length≤sizeLine; exact lim_line (by unfold lim; lia),?_,?_,?_,?_⟩
 ·show IsRangeIter _ _ _ _ _
  have e1:(ws.length:Int) - 1+((0:Nat):Int) * -1=(ws.length:Int) - 1:=by lia
  have e2:(ws.length:Int) - ((0:Nat):Int)=(ws.length:Int):=by lia
  rw [e1,e2]
  exact Heap.get?_push_size _ rfl
 ·intro b hb
  rw [List.mem_singleton.1 hb]
  show s₁.heap.objs.size<(s₁.heap.push _).objs.size
  rw [Heap.size_push]; exact Nat.lt_succ_self _
 ·have hcell₂ : (s₁.heap.push ({ cls := .type "range_iterator",data := .fields #[rawInt ((ws.length : Int) - 1),rawInt (ws.length : Int),rawInt (-1)] } : Obj)).IsCell c (some (.ref D)) := (cell_ups hcell e₂.ups)
  have hcell₁:s₁.heap.IsCell c (some (.ref D)):=cell_ups hcell e₁.ups
  have hown₁:=hown.ups e₁.ups
  refine ⟨fun C i v s₃ m₃ E' _ _ _ _ _ _=>by rw [List.forIn_nil]; exact wpAny_pure ⟨rfl,s₃.heap,s₃.toks,rfl,fun _ _ e=>e⟩,fun C i v s₃ m₃ E' hC hPi _ hns hmi hk _=>?_⟩
  have keep:∀ b o,s₁.heap.get? b=some o→s₃.heap.get? b=some o:=fun b o e=>hk b o (fun hb=>by
   have:=Heap.lt_size e
   rw [List.mem_singleton.1 hb] at this
   exact Nat.lt_irrefl _ this) (Heap.get?_push_of_some _ e)
  obtain ⟨hi,t,rfl⟩:=hPi
  have hcell₃:s₃.heap.IsCell c (some (.ref D)):=hcell₁.keeps keep
  have hlist₃:s₃.heap.IsList D ws.toArray:=by
   obtain ⟨o,n,ho,hcl,_,hd⟩:=hown₁
   exact ⟨o,keep _ _ ho,hcl,n,hd⟩
  have hkd : B.env.kindOf (Str.ofString "digits") = some .cell := hD.kind rfl
  have hl : (compEnvC decComp [(Str.ofString "digits",c)] C B.env).kindOf (Str.ofString "digits") = some .cell := by
   show List.lookup (Str.ofString "digits") (relabel decComp B.env).names = some .cell
   unfold relabel decComp
   simp only [List.map_cons,List.map_nil,hB.kind,hkd]
   rfl
  have hli : (compEnvC decComp [(Str.ofString "digits",c)] C B.env).kindOf (Str.ofString "i") = some .local := by
   show List.lookup (Str.ofString "i") (relabel decComp B.env).names = some .local
   unfold relabel decComp
   simp only [List.map_cons,List.map_nil,hB.kind,hkd]
   rfl
  refine Subscript_ (wpAny_Name (wpAny_loadName_cell (env := compEnvC decComp [(Str.ofString "digits",c)] C B.env) rfl hl rfl hcell₃ ?_) rfl)
  refine wpAny_Name (wpAny_loadName_local (env := compEnvC decComp [(Str.ofString "digits",c)] C B.env) rfl hli hns hmi ?_) rfl
  have h0:0≤(ws.length:Int) - 1+(i:Int) * -1:=by lia
  have hix:((ws.length:Int) - 1+(i:Int) * -1).toNat<ws.length:=by lia
  have hdx:ds[((ws.length:Int) - 1+(i:Int) * -1).toNat]?=some (ds[((ws.length:Int) - 1+(i:Int) * -1).toNat]'(by lia)):=List.getElem?_eq_getElem _
  obtain ⟨y,hy,hry⟩:=hrl.get (i:=((ws.length:Int) - 1+(i:Int) * -1).toNat) (p:=.int (ds[((ws.length:Int) - 1+(i:Int) * -1).toNat]'(by lia))) (by rw [List.getElem?_map,hdx]; rfl)
  obtain ⟨u,rfl⟩:=rep_int hry
  refine tail_any (T := "list") hlist₃.typeIs slot_list_getitem.lookup (wpAny_getItem_list hlist₃ h0 (by lia) (show ws.toArray[((ws.length : Int) - 1 + (i : Int) * -1).toNat]? = some _ by rw [List.getElem?_toArray]; exact hy) ?_) (sub_plain rfl _ _)
  exact ⟨⟨_,_,_,_,rfl,rfl,h0,hdx⟩,s₃.heap,s₃.toks,rfl,fun _ _ e=>e⟩
 ·intro D' h' tk ys vs hD' hlst hpl hvl hP hpair hkeep
  refine hQ { s₁ with heap:=h',toks:=tk } H₁ D' ys.toList (e₁.trans (.keeps e₁.stays fun b o e=>?_)) (by simpa using hlst) ?_
  ·refine hkeep b o (fun hb=>?_) (Heap.get?_push_of_some _ e)
   have:=Heap.lt_size e
   rw [List.mem_singleton.1 hb] at this
   exact Nat.lt_irrefl _ this
  ·rw [List.filter_eq_self.2 (fun _ _=>rfl)] at hpair
   refine dec_pairs hpair (by rw [hvl,List.length_reverse,hwl]) fun j v hv=>?_
   obtain ⟨_,t,rfl⟩:=hP j v hv
   refine ⟨_,t,rfl,?_⟩
   have hj:j<ws.length:=by rw [← hvl]; exact (List.getElem?_eq_some_iff.1 hv).1
   rw [List.getElem?_reverse (by lia)]
   congr 1
   lia
theorem con_decimal (hΓ : Γ.Ok) (hfn : ∀ (f : Nat) (x : Str),Γ.fs[f]? = some x → FnAt Γ x) (hd : DecOk Γ) (d : Nat) (args : List PV) : Con prog w Γ (d + 1) (Str.ofString "_decimal") args (nf_decimal args) := by
 intro a A H l s ws Q E hm hpre hr hp
 unfold nf_decimal at hp
 split at hp
 ·rename_i n
  split at hp
  ·rename_i hn
   obtain ⟨a',o,params,scope,pm,code,doc,p,hm',ho,hdat,hcr,hbind,hco,hgen,hkd,hnm,hln⟩:=hd.there
   rw [hm] at hm'; obtain rfl:a=a':=by simpa using hm'
   have hbs:Γ.Base.StaysIn s.heap:=stays_trans hpre.base hpre.stays
   rw [RepL] at hr
   obtain ⟨v,r,rfl,hv,hr⟩:=hr
   rw [RepL] at hr
   subst hr
   refine wpAny_call (codeAny_call_cells (o := o) (fd := Calls.docDef (Str.ofString "_decimal") params (decBody p) scope pm code doc) (body := decBody p) (vals := [v]) (binds := [(Str.ofString "n",v)]) (by have := hpre.depth; lia) (hbs _ _ ho) hdat (hΓ.nolimit.keeps hbs) (hcr.keeps hbs) rfl (hbind v) rfl
    (fun x hx=>by rw [List.mem_singleton.1 hx]; left; show scope.names.lookup _=_; rw [hnm]; rfl) (fun s₁ X=>?_) hco hgen hkd)
   have e4 : (callEnvC (Calls.docDef (Str.ofString "_decimal") params (decBody p) scope pm code doc) s.heap.objs.size a).cells = [(Str.ofString "digits",s.heap.objs.size + 1)] := by
    show cellsFrom (s.heap.objs.size+1) scope.names []=_
    rw [hnm]; rfl
   have e1 : (callEnvC (Calls.docDef (Str.ofString "_decimal") params (decBody p) scope pm code doc) s.heap.objs.size a).scope = scope := rfl
   have e2 : (callEnvC (Calls.docDef (Str.ofString "_decimal") params (decBody p) scope pm code doc) s.heap.objs.size a).locals = s.heap.objs.size := rfl
   have e3 : (callEnvC (Calls.docDef (Str.ofString "_decimal") params (decBody p) scope pm code doc) s.heap.objs.size a).frame = some s.heap.objs.size := rfl
   have e5 : (callEnvC (Calls.docDef (Str.ofString "_decimal") params (decBody p) scope pm code doc) s.heap.objs.size a).globals = mainGlobals := rfl
   have e6 : (callEnvC (Calls.docDef (Str.ofString "_decimal") params (decBody p) scope pm code doc) s.heap.objs.size a).builtins = builtinsNs := rfl
   generalize callEnvC (Calls.docDef (Str.ofString "_decimal") params (decBody p) scope pm code doc) s.heap.objs.size a = env at *
   have hnone:s.heap.get? s.heap.objs.size=none:=none_of_size (Nat.le_refl _)
   have hHn:H.get? s.heap.objs.size=none:=none_of_stays hpre.stays hnone
   let B : Bl := { env := env,fenv := env,outer := l,A := A.deeper env,N₀ := s.heap.objs.size,vs := [Str.ofString "n"] }
   have hB:B.Ok d:=by
    refine ⟨by show env.scope.kind = _; rw [e1]; exact hkd,e5,e6,rfl,?_,hpre.hand,?_,?_,by show [Str.ofString "n"].Nodup; decide,?_⟩
    ·show A.frames.map (env::·)=some (env::l); rw [hpre.stack]; rfl
    ·show A.depth+1+d≤_; have:=hpre.depth; lia
    ·show A.units+3+8 * d+100≤_; have:=hpre.units; lia
    ·intro v hv L hL
     exact frames_low hpre.frames hv hL
   have hkn : env.kindOf (Str.ofString "n") = some .local := by show env.scope.names.lookup _ = _; rw [e1,hnm]; rfl
   have hD:DB Γ B (s.heap.objs.size+1):=by
    refine ⟨by show env.scope.names=_; rw [e1,hnm],rfl,by show env.cells.lookup _=_; rw [e4]; rfl,by show env.frame=some env.locals; rw [e3,e2],?_⟩
    show closureFor decComp env=_
    have hc : cellOf env (Str.ofString "digits") = pure (s.heap.objs.size + 1) := by unfold cellOf; rw [e4]; rfl
    unfold closureFor decComp
    simp only [List.forIn_cons,List.forIn_nil]
    rw [hc]; rfl
   have hkeep:s.heap.StaysIn s₁.heap:=X.toInCall.keep
   have hst:St Γ B H [.val (.int n)] s₁:=by
    have hff1:s₁.heap.FunFrames H l:=hpre.frames.of_keeps fun b o ho _=>⟨o,hkeep b o ho,rfl⟩
    have hns:=X.toInCall.ns
    rw [e2] at hns
    obtain ⟨ol,es,ep,hol,hdl,_⟩:=id hns
    refine ⟨hpre.base,stays_trans hpre.stays hkeep,⟨?_,⟨s.heap.objs.size,ol,e3,hHn,hol,fun vs q=>by rw [hdl] at q; cases q⟩,hff1⟩,_,fun _=>0,by show s₁.heap.Ns env.locals _; rw [e2]; exact hns,by show H.get? env.locals=none; rw [e2]; exact hHn,by show s.heap.objs.size≤env.locals; rw [e2]; exact Nat.le_refl _,?_,?_⟩
    ·show env.scope.kind≠.module; rw [e1,hkd]; decide
    ·intro i y hy
     cases i with
     | zero =>
      refine ⟨v,?_,hv⟩
      have : Str.ofString "n" = y := Option.some.inj hy
      subst this
      show bindL env.kindOf [(Str.ofString "n",v)] (fun _ => none) (Str.ofString "n") = some v
      unfold bindL
      rw [if_pos hkn]
      unfold bindL
      simp
     | succ i=>simp [B] at hy
    ·intro i j l1 l2 _ h1
     exact absurd h1 (no_own _ i l1)
   have hsame:s₁.os=s.os∧s₁.gens=s.gens:=by
    obtain ⟨h₁,tk,e⟩:=X.toInCall.same
    rw [e]; exact ⟨rfl,rfl⟩
   have toExt:∀ {H':Heap} {s':Shared},ExtS s.heap.objs.size H s₁ H' s'→Ext H s H' s':=fun {H' s'} ex =>
    ⟨ex.grow,fun b o hb nf hn=>ex.old b o (Heap.lt_size hb) (hkeep b o hb) nf hn,ex.stays,fun b o hb nf=>ex.ups b o (Heap.lt_size hb) (hkeep b o hb) nf,ex.same.1.trans hsame.1,ex.same.2.trans hsame.2⟩
   have hF:∀ f x,Γ.fs[f]?=some x→FnAt Γ x∧∀ args,Con prog w Γ d x args ((fun _ _=>Res.stuck:Nat→List PV→Res PV) f args):=fun f x hx=>⟨hfn f x hx,fun args a A H l s ws Q E _ _ _ hp=>hp.elim⟩
   show wpAny _ B.A (execs (decBody p) B.env) _ _ _
   unfold decBody
   refine wpAny_execs_cons ?_
   have htest := (chk_e hΓ hF (.cmp .eq (.var 0) (.lit (.int 0))) hB hD.gd (e := .Compare (.Name "n" (p 1)) [.Eq] [.Constant (.int 0) 0 (p 2)] (p 3)) rfl).2
   refine wpAny_If (htest H _ s₁ _ _ hst ?_)
   have ev:(evE (fun _ _=>Res.stuck) Γ.GV (.cmp .eq (.var 0) (.lit (.int 0))) [.val (.int n)]).bind truP=.ok (n == 0):=rfl
   show Post _ _ _ _ ((evE (fun _ _=>Res.stuck) Γ.GV (.cmp .eq (.var 0) (.lit (.int 0))) [.val (.int n)]).bind truP) _ _
   rw [ev]
   intro y s₂ H₂ e₂ hy
   have hs₂:=hst.ext e₂
   by_cases h0:n=0
   ·have hy':y=true:=by rw [← hy,h0]; rfl
    subst hy'
    show wpAny _ B.A (execs [.Return (some (.Constant (.bytes [48]) 0 (p 4))) (p 5)] B.env) _ _ _
    refine wpAny_execs_cons (wpAny_Return_some ?_)
    refine (se_lit (prog:=prog) (w:=w) (Γ:=Γ) (B:=B) (k:=0) (pos:=p 4) (c:=.bytes [48]) (v:=.bytes [48]) rfl (fun l e=>by cases e; decide)) H₂ _ s₂ _ _ hs₂ ?_
    intro v₃ s₃ H₃ e₃ r₃
    refine hp.ok (toExt ((e₂.trans e₃).toS)) ?_
    rw [h0]; exact r₃
   ·have hy':y=false:=by rw [← hy]; exact beq_eq_false_iff_ne.2 h0
    subst hy'
    show wpAny _ B.A (execs [] B.env) _ _ _
    refine wpAny_execs_nil ?_
    refine wpAny_execs_cons ?_
    have hcell₁ : s₁.heap.IsCell (s.heap.objs.size + 1) (bindC env.kindOf [(Str.ofString "n",v)] (fun _ => none) (Str.ofString "digits")) := X.cell _ _ (by rw [e4]; rfl)
    have hcell₂:=cell_ups hcell₁ e₂.ups
    have hcH:H.get? (s.heap.objs.size+1)=none:=none_of_stays hpre.stays (none_of_size (Nat.le_succ _))
    have hcH₂:H₂.get? (s.heap.objs.size+1)=none:=by
     obtain ⟨o,ho,hdt⟩:=hcell₁
     exact e₂.old _ o ho (fun vs q=>by rw [hdt] at q; cases q) hcH
    refine wpAny_Assign_Name (List_ ?_) (notComp_swaps rfl)
    refine Calls.spliced_nil ?_
    refine wpAny_newObj_type ?_ (by show ([]:List Value).toArray.size≤sizeLine; exact Nat.zero_le _)
    have hlt:s.heap.objs.size+1<s₂.heap.objs.size:=hcell₂.lt
    have hDn:s₂.heap.get? s₂.heap.objs.size=none:=none_of_size (Nat.le_refl _)
    have e₃ : Ext H₂ s₂ H₂ { s₂ with heap := s₂.heap.push { cls := .type "list",data := .seq ([] : List Value).toArray } } := .push hs₂.stays _
    have hcell₃:=cell_ups hcell₂ e₃.ups
    refine wpAny_storeName_cell (by show env.scope.kind=_; rw [e1]; exact hkd) (hD.kind rfl) hD.cells hcell₃ fun h' hc' hsb=>?_
    have hs₄ : St Γ B H₂ [.val (.int n)] { s₂ with heap := h' } := st_turn (s := { s₂ with heap := s₂.heap.push { cls := .type "list",data := .seq ([] : List Value).toArray } }) hB hD.fr (no_own _) (hs₂.ext (s' := { s₂ with heap := _ }) e₃) hcH₂ (by show env.locals < _; rw [e2]; exact Nat.lt_succ_self _) hsb
    have hown:OwnAt h' s₂.heap.objs.size []:=own_same ⟨_,_,Heap.get?_push_size _ rfl,rfl,rfl,rfl⟩ hsb (Nat.ne_of_gt hlt)
    show wpAny _ B.A (execs _ B.env) _ _ _
    refine wpAny_execs_cons ?_
    have hall:(digs n.toNat).length<1000:=by
     have:=digs_len 10 n.toNat (by have:=hn.2; lia)
     lia
    refine dec_while hΓ hfn hB hD p hln (H₀:=H) (h₀:=s₁) (n:=n.toNat) (ds:=[]) (all:=digs n.toNat) rfl hall ⟨H₂,s₂.heap.objs.size,[],(e₂.trans e₃).toS.trans ⟨stays_refl _,fun _ _ _ _ _ e=>e,hs₄.stays,fun b o hb e _=>⟨o.slots,(hsb.2 b ?_).trans e⟩,rfl,rfl⟩,?_,hc',hcH₂,hown,none_of_stays hs₂.stays hDn,?_,?_,Nat.ne_of_lt hlt,by show RepL _ [] []; rw [RepL]⟩ fun s₅ x₅=>?_
    ·exact fun q=>by subst q; exact absurd hb (Nat.not_lt.mpr (Nat.le_succ _))
    ·rw [Int.toNat_of_nonneg hn.1]; exact hs₄
    ·show env.locals<_; rw [e2]; exact Nat.lt_trans (Nat.lt_succ_self _) hlt
    ·show env.locals<_; rw [e2]; exact Nat.lt_succ_self _
    obtain ⟨H₅,D,ws,ex,hs₅,hcell₅,hcH₅,hown₅,hDH₅,hLD,hLc,hcD,hrl⟩:=x₅
    have hwl:ws.length=(digs n.toNat).length:=by rw [hrl.length,List.length_map]
    show wpAny _ B.A (execs _ B.env) _ _ _
    refine wpAny_execs_cons (wpAny_Return_some ?_)
    have hkb : B.env.kindOf (Str.ofString "bytes") = some .globalImplicit := hD.kind rfl
    refine call1_t hΓ hB (id := "bytes") (by decide) (by kernel_rfl) hkb rfl rfl hs₅ ?_
    refine dec_list hΓ hB hD p hs₅ hcell₅ hown₅ hrl (by lia) fun s₆ H₆ b ys e₆ hl₆ hia=>?_
    have hrg:∀ x∈(digs n.toNat).reverse,0≤x∧x<256:=fun x hx=>digs_range _ x (List.mem_reverse.1 hx)
    have hyl:ys.length=(digs n.toNat).length:=by rw [hia.length,List.length_reverse]
    refine call_bytes_ints hl₆ hia hrg (by rw [hyl]; exact lim_line (by unfold lim; lia)) hB.hand fun h' t k hk=>?_
    refine hp.ok (s':={ s₆ with heap:=h',toks:=k }) (toExt ((ex.trans e₆.toS).trans (Ext.toS (.keeps e₆.stays hk)))) ?_
    rw [decD_digs (by lia)]
    exact repBytes _ _ (byteArr_int hrg) (by rw [List.length_reverse]; unfold lim; lia)
  ·exact hp.elim
 ·exact hp.elim
end
end Mine
namespace Mine
open PySem PySem.W PyProof.Rows
theorem zip_look:∀ (names:List Str) (ws:List Value),ws.length=names.length→∀ n∈names,((names.zip ws).lookup n).isSome=true
 | [],_,_,n,h=>by cases h
 | m::r,[],h,n,_=>by simp at h
 | m::r,w::t,h,n,hn=>by
  rw [List.zip_cons_cons,List.lookup_cons]
  cases hb:n == m with
  | true=>rfl
  | false =>
   rcases List.mem_cons.1 hn with e | e
   ·rw [e] at hb; simp at hb
   ·exact zip_look r t (by simpa using h) n e
theorem fm_congr {α β:Type} {f g:α→Option β}:∀ {l:List α},(∀ x∈l,f x=g x)→l.filterMap f=l.filterMap g
 | [],_=>rfl
 | a::r,h=>by
  rw [List.filterMap_cons,List.filterMap_cons,h a List.mem_cons_self,fm_congr fun x hx=>h x (List.mem_cons_of_mem _ hx)]
theorem zip_binds:∀ (names:List Str) (ws:List Value),ws.length=names.length→names.Nodup→(names.filterMap fun n=>((names.zip ws).lookup n).map fun v=>(n,v))=names.zip ws
 | [],_,_,_=>rfl
 | m::r,[],h,_=>by simp at h
 | m::r,w::t,h,hn=>by
  rw [List.nodup_cons] at hn
  have ih:=zip_binds r t (by simpa using h) hn.2
  rw [List.zip_cons_cons,List.filterMap_cons,List.lookup_cons]
  have hm:(m == m)=true:=by simp
  rw [hm]
  show (m,w)::_=_
  congr 1
  refine Eq.trans (fm_congr fun n hx=>?_) ih
  rw [List.lookup_cons]
  have:(n == m)=false:=by
   rw [beq_eq_false_iff_ne]; intro e; rw [e] at hx; exact hn.1 hx
  rw [this]
theorem bind_plain {x:Str} {params:Arguments} {body:List Stmt} {scope:Scope} {pm code doc:Value} {names:List Str} (h1:params.posonlyargs=[]) (h2:params.kwonlyargs=[]) (h3:params.vararg=none) (h4:params.kwarg=none)
  (h5:params.args.map (·.arg)=names) (hn:names.Nodup) {ws:List Value} (hl:ws.length=names.length):bindArgs (Calls.docDef x params body scope pm code doc) ⟨ws,[]⟩=pure (names.zip ws):=by
 obtain ⟨po,ar,va,ko,kd,kw,df⟩:=params
 dsimp only at h1 h2 h3 h4 h5
 subst h1 h2 h3 h4
 obtain ⟨X,Y,F,K,e,ek⟩:∃ (X Y:Sem (List (Str × Value))) (F:Str × Value→List (Str × Value)→Sem (ForInStep (List (Str × Value)))) (K:List (Str × Value)→Sem (List (Str × Value))),bindArgs (Calls.docDef x ⟨[],ar,none,[],kd,none,df⟩ body scope pm code doc) ⟨ws,[]⟩=(if (decide (ws.length > (ar.map Arg.arg).length) && true)=true then X else if (!(((ar.map Arg.arg).take ((ar.map Arg.arg).length - (([]:List Value).drop (0 - (ar.map Arg.arg).length)).length)).filter fun n=>(((ar.map Arg.arg).zip ws).lookup n).isNone).isEmpty)=true then Y else forIn (((ar.map Arg.arg).drop ((ar.map Arg.arg).length - (([]:List Value).drop (0 - (ar.map Arg.arg).length)).length)).zip (([]:List Value).drop (0 - (ar.map Arg.arg).length))) ((ar.map Arg.arg).zip ws) F >>= K)
   ∧ K ((ar.map Arg.arg).zip ws)=pure (((ar.map Arg.arg)++[]).filterMap fun n=>(((ar.map Arg.arg).zip ws).lookup n).map fun v=>(n,v)):=by
  refine ⟨_,_,_,_,rfl,?_⟩
  rfl
 have h5:ar.map Arg.arg=names:=h5
 rw [e,h5,List.drop_nil,List.length_nil,Nat.sub_zero,if_neg,if_neg,List.zip_nil_right,List.forIn_nil]
 ·rw [h5] at ek
  refine Eq.trans ek ?_
  rw [List.append_nil,zip_binds names ws hl hn]
 ·rw [List.take_length,List.filter_eq_nil_iff.2 fun n hx=>by
   have:=zip_look names ws hl n hx
   cases hq:(names.zip ws).lookup n with
   | none=>rw [hq] at this; cases this
   | some v=>exact Bool.false_ne_true]
  exact Bool.false_ne_true
 ·rw [decide_eq_false (by rw [hl]; exact Nat.lt_irrefl _)]; exact Bool.false_ne_true
end Mine
namespace Mine
open PySem PySem.W PyProof.Rows
noncomputable def recOk (fs gs:List Str) (d:DefRec) (vars:List Str) (k:Nat) (cs:List CS):Bool :=
 chkSs ⟨d.scope.names,vars,fs,gs⟩ d.body cs && !d.scope.isCoroutine && !d.scope.isGenerator && (d.scope.kind == .function) && (d.scope.names.all fun x=>x.2 != .cell) && ((vars.take k).all fun y=>d.scope.names.lookup y == some .local) &&
 d.params.posonlyargs.isEmpty && d.params.kwonlyargs.isEmpty && d.params.vararg.isNone && d.params.kwarg.isNone && (d.params.args.map (·.arg) == vars.take k) && decide vars.Nodup && decide (k≤vars.length)
noncomputable def defsOk (p:Program) (fs gs:List Str) (T:Nat→Option CF):Bool:=(List.range fs.length).all fun i=>match fs[i]?,T i with
 | some f,some (.code vs k cs)=>(recsOf p).any fun d=>d.name == f && recOk fs gs d vs k cs
 | some f,_=>(recsOf p).any fun d=>d.name == f
 | none,_=>false
section
variable {p:Program} {loose:List Str} {mean:ExcName→Option Value} {mg mb:Str→Option Value} {h:Heap} {fs gs:List Str} {GV:Nat→Res PV}
noncomputable def ctx (h:Heap) (mg mb:Str→Option Value) (fs gs:List Str) (GV:Nat→Res PV):Ct:=⟨h,mg,mb,fs,gs,GV⟩
theorem fn_of (T:Top p loose mean mg mb h) {d:DefRec} (hd:d∈recsOf p):FnAt (ctx h mg mb fs gs GV) d.name:=by
 obtain ⟨a,o,pm,code,doc,h1,h2,h3,h4⟩:=T.fn d hd
 exact ⟨a,o,_,h1,h2,h3⟩
theorem def_of (T:Top p loose mean mg mb h) {d:DefRec} (hd:d∈recsOf p) {vars:List Str} {k:Nat} {cs:List CS} (hk:recOk fs gs d vars k cs=true):DefOk (ctx h mg mb fs gs GV) d.name vars k cs:=by
 unfold recOk at hk
 simp only [Bool.and_eq_true,Bool.not_eq_true',beq_iff_eq,List.all_eq_true,bne_iff_ne,decide_eq_true_eq,List.isEmpty_iff,Option.isNone_iff_eq_none] at hk
 obtain ⟨⟨⟨⟨⟨⟨⟨⟨⟨⟨⟨⟨c1,c2⟩,c3⟩,c4⟩,c5⟩,c6⟩,c7⟩,c8⟩,c9⟩,c10⟩,c11⟩,c12⟩,c13⟩:=hk
 obtain ⟨a,o,pm,code,doc,h1,h2,h3,h4⟩:=T.fn d hd
 refine ⟨⟨a,o,d.params,d.body,d.scope,pm,code,doc,h1,h2,h3,h4,fun ws hw=>?_,c1,c2,c3,c4,fun x hx=>c5 x hx,fun y hy=>c6 y hy⟩,c12,c13⟩
 refine bind_plain c7 c8 c9 c10 c11 (c12.sublist (List.take_sublist _ _)) ?_
 rw [hw,List.length_take]; lia
theorem defs_of (T:Top p loose mean mg mb h) {Tb:Nat→Option CF} (hk:defsOk p fs gs Tb=true) :
  (∀ (f:Nat) (x:Str),fs[f]?=some x→FnAt (ctx h mg mb fs gs GV) x)∧(∀ (f:Nat) (x:Str),fs[f]?=some x→∀ vs k cs,Tb f=some (.code vs k cs)→DefOk (ctx h mg mb fs gs GV) x vs k cs):=by
 have key:∀ (f:Nat) (x:Str),fs[f]?=some x→(∃ d∈recsOf p,d.name=x)∧∀ vs k cs,Tb f=some (.code vs k cs)→∃ d∈recsOf p,d.name=x∧recOk fs gs d vs k cs=true:=by
  intro f x hx
  have hlt:f<fs.length:=(List.getElem?_eq_some_iff.1 hx).1
  have:=List.all_eq_true.1 hk f (List.mem_range.2 hlt)
  rw [hx] at this
  cases ht:Tb f with
  | none =>
   rw [ht] at this
   obtain ⟨d,hd,he⟩:=List.any_eq_true.1 this
   exact ⟨⟨d,hd,by simpa using he⟩,fun vs k cs h=>by cases h⟩
  | some c =>
   rw [ht] at this
   cases c with
   | native g =>
    obtain ⟨d,hd,he⟩:=List.any_eq_true.1 this
    exact ⟨⟨d,hd,by simpa using he⟩,fun vs k cs h=>by cases h⟩
   | code vs k cs =>
    obtain ⟨d,hd,he⟩:=List.any_eq_true.1 this
    rw [Bool.and_eq_true] at he
    exact ⟨⟨d,hd,by simpa using he.1⟩,fun vs' k' cs' h=>by cases h; exact ⟨d,hd,by simpa using he.1,he.2⟩⟩
 refine ⟨fun f x hx=>?_,fun f x hx vs k cs ht=>?_⟩
 ·obtain ⟨d,hd,rfl⟩:=(key f x hx).1
  exact fn_of T hd
 ·obtain ⟨d,hd,rfl,hr⟩:=(key f x hx).2 vs k cs ht
  exact def_of T hd hr
end
end Mine
namespace Mine
open PySem PySem.W PyProof.Rows
noncomputable def decPosL:List Pos:=[⟨0,0,0,0⟩,⟨37,7,37,8⟩,⟨37,12,37,13⟩,⟨37,7,37,13⟩,⟨38,15,38,19⟩,⟨38,8,38,19⟩,⟨37,4,38,19⟩,⟨39,4,39,10⟩,⟨39,13,39,15⟩,⟨39,4,39,15⟩,⟨40,10,40,11⟩,⟨40,14,40,15⟩,⟨40,10,40,15⟩,⟨41,8,41,14⟩,⟨41,8,41,21⟩,⟨41,22,41,24⟩,⟨41,27,41,28⟩,⟨41,31,41,33⟩,⟨41,27,41,33⟩,⟨41,22,41,33⟩,⟨41,8,41,34⟩,⟨41,8,41,34⟩,⟨42,8,42,9⟩,⟨42,12,42,13⟩,⟨42,17,42,19⟩,⟨42,12,42,19⟩,⟨42,8,42,19⟩,⟨40,4,42,19⟩,⟨43,11,43,16⟩,⟨43,18,43,24⟩,⟨43,25,43,26⟩,⟨43,18,43,27⟩,⟨43,32,43,33⟩,⟨43,37,43,42⟩,⟨43,43,43,46⟩,⟨43,47,43,53⟩,⟨43,43,43,54⟩,⟨43,57,43,58⟩,⟨43,43,43,58⟩,⟨43,61,43,62⟩,⟨43,60,43,62⟩,⟨43,65,43,66⟩,⟨43,64,43,66⟩,⟨43,37,43,67⟩,⟨43,17,43,68⟩,⟨43,11,43,69⟩,⟨43,4,43,69⟩]
noncomputable def decPos (i:Nat):Pos:=(decPosL[i]?).getD ⟨0,0,0,0⟩
noncomputable def decParams : Arguments := { posonlyargs := [],args := [{ arg := "n",annotation := none,pos := ⟨36,13,36,14⟩ }],vararg := none,kwonlyargs := [],kw_defaults := [],kwarg := none,defaults := [] }
noncomputable def decScope : Scope := { kind := .function,names := decNames,isGenerator := false,isCoroutine := false,more := [(Str.ofString "fast",.str "n"),(Str.ofString "fast",.str "digits"),(Str.ofString "fast",.str "i")] }
noncomputable def decIs (p : Program) : Prop := ((recsOf p).find? fun d => d.name == Str.ofString "_decimal").map (fun d => (d.params,d.body,d.scope)) = some (decParams,decBody decPos,decScope)
section
variable {p:Program} {loose:List Str} {mean:ExcName→Option Value} {mg mb:Str→Option Value} {fs gs:List Str} {GV:Nat→Res PV}
theorem dec_of {h:Heap} (T:Top p loose mean mg mb h) (hd:decIs p):DecOk (ctx h mg mb fs gs GV):=by
 unfold decIs at hd
 cases hf : (recsOf p).find? fun d => d.name == Str.ofString "_decimal" with
 | none=>rw [hf] at hd; cases hd
 | some d =>
  rw [hf] at hd
  obtain ⟨nm,pa,bo,sc,ps⟩:=d
  have hn : nm = Str.ofString "_decimal" := by simpa using List.find?_some hf
  simp only [Option.map_some,Option.some.injEq,Prod.mk.injEq] at hd
  obtain ⟨rfl,rfl,rfl⟩:=hd
  subst hn
  obtain ⟨a,o,pm,code,doc,h1,h2,h3,h4⟩:=T.fn _ (List.mem_of_find?_eq_some hf)
  refine ⟨a,o,decParams,decScope,pm,code,doc,decPos,h1,h2,h3,h4,fun v=>?_,rfl,rfl,rfl,rfl,rfl⟩
  exact bind_plain (names := [Str.ofString "n"]) rfl rfl rfl rfl rfl (by decide) rfl
theorem repl_ints {H:Heap}:∀ {vs:List Value} {xs:List Int},IntsAre vs xs→RepL H (xs.map PV.int) vs
 | _,_,.nil=>by show RepL H [] []; rw [RepL]
 | _,_,.cons n t r=>by
  show RepL H (.int n::_) _
  rw [RepL]
  exact ⟨_,_,rfl,by rw [Rep]; exact ⟨t,rfl⟩,repl_ints r⟩
end
end Mine
namespace Mine
open PySem PySem.W PyProof.Rows
noncomputable def sortP (x:PV):Res PV:=onL x fun l=>match l with
 | [x,y]=>onI x fun a=>onI y fun b=>.ok (.list [.int (min a b),.int (max a b)])
 | _=>.stuck
noncomputable def anyP (x:PV):Res PV:=onL x fun l=>match boolsOf l with
 | some bs=>.ok (.bool (bs.any id))
 | none=>.stuck
section
variable {prog:Program} {w:World} {Γ:Ct} {B:Bl}
theorem Ct.Ok.up (hΓ:Γ.Ok) {H:Heap} (h:Γ.Base.StaysIn H):Ct.Ok { Γ with Base:=H }:=by
 obtain ⟨a1,a2,a3,a4,a5,a6,a7⟩:=hΓ
 refine ⟨a1.keeps h,a2.keeps h,a3.keeps h,?_,a5,fun i x q hi hq=>?_,a7⟩
 ·obtain ⟨m,hn,hm⟩:=a4
  exact ⟨m,hn.keeps h,hm⟩
 ·obtain ⟨v,hv,hr⟩:=a6 i x q hi hq
  exact ⟨v,hv,hr.mono h⟩
theorem se_cap {d : Nat} (hB : B.Ok d) {x : Str} {pos : Pos} {c : Addr} {v : Value} {p : PV} (hk : B.env.kindOf x = some .cell) (hc : B.env.cells.lookup x = some c) (hd : (x == ("__debug__" : Str)) = false)
  (hcell:Γ.Base.IsCell c (some v)) (hr:Rep Γ.Base p v):SE prog w Γ B (.Name x pos) (fun _=>.ok p):=by
 intro H ρ s Q E hs hp
 exact wpAny_Name (wpAny_loadName_cell hB.kind hk hc (hcell.keeps (stays_trans hs.base hs.stays)) (hp.ok (.refl hs.stays) (hr.mono hs.base))) hd
theorem se_compF {d:Nat} (hB:B.Ok d) {elt iter:Expr} {x:Str} {xp pos:Pos} {sc:Scope} {cl:List (Str × Addr)} {f g:List Slot→Res PV} (hclos:closureFor sc B.env=pure cl) (hcell:∀ x∈sc.names,x.2≠.cell) (hk:sc.kind=.function)
  (hnames:∀ y∈sc.names,y.2=.local→sc.names.lookup y.1=some .local) (hx:sc.names.lookup x=some .local) (hns:notSet iter=true) (hne:∀ l,mapR (fun v=>f [.val v]) l≠.exc)
  (helt:∀ C,SE prog w Γ (B.compC (relabel sc B.env) cl x C) elt f) (hit:SE prog w Γ B iter g) :
  SE prog w Γ B (.ListComp elt [⟨.Name x xp,iter,[],0⟩] sc pos) (fun ρ=>(g ρ).bind fun y=>(itemsP y).bind fun l=>(mapR (fun v=>f [.val v]) l).bind fun vs=>.ok (.list vs)):=by
 intro H ρ s Q E hs hp
 rw [eval_ListComp]
 refine wpAny_comprehension_free (use:=none) rfl (folded_not hns) hclos hk hnames (hit H ρ s _ _ hs (Post.bind hp fun p v s₁ H₁ _ e₁ rr hp₁=>?_))
 cases hl:itemsP p with
 | stuck=>rw [hl] at hp₁; exact hp₁.elim
 | exc=>cases p <;> cases hl
 | ok l =>
  rw [hl] at hp₁
  have hs₁:=hs.ext e₁
  refine comp_run (sc':=relabel sc B.env) hB hcell hk hk (lookup_relabel_local hx) helt hs₁ rr hl (K:=fun acc cenv r s'=>compPost (model prog w) B.A E none Q acc cenv.locals r s') ?_
  cases hm:mapR (fun v=>f [.val v]) l with
  | stuck=>rw [show ((Res.ok l).bind fun l=>(mapR (fun v=>f [.val v]) l).bind fun vs=>.ok (.list vs))=(Res.stuck:Res PV) from by show (mapR (fun v=>f [.val v]) l).bind _=_; rw [hm]; rfl] at hp₁; exact hp₁.elim
  | exc=>exact absurd hm (hne l)
  | ok ps =>
   rw [show ((Res.ok l).bind fun l=>(mapR (fun v=>f [.val v]) l).bind fun vs=>.ok (.list vs))=(Res.ok (.list ps):Res PV) from by show (mapR (fun v=>f [.val v]) l).bind _=_; rw [hm]; rfl] at hp₁
   intro D C s' H' ws m hC₀ hD₀ hDC _ ex hn hC hO hHD hrl hz
   refine ⟨m,hn,fun h' hsb=>?_⟩
   obtain ⟨H'',e',r',_⟩:=comp_data ex hC hC₀ hD₀ hDC hsb.2 hO hrl hz
   exact hp₁.ok (s':={ s' with heap:=h' }) e' r'
theorem sort2 {ns:List Int} {a b:Int} (hp:ns.Perm [a,b]) (ho:ns.Pairwise (·≤·)):ns=[min a b,max a b]:=by
 have hl:=hp.length_eq
 match ns,hl with
 | [x,y],_ =>
  have hxy:x≤y:=by simpa using ho
  rcases List.mem_cons.1 (hp.mem_iff.1 List.mem_cons_self:x∈[a,b]) with rfl | hx
  ·have e:=List.perm_singleton.1 hp.cons_inv
   cases e
   rw [Int.min_eq_left hxy,Int.max_eq_right hxy]
  ·have hx:=List.mem_singleton.1 hx
   subst hx
   have e:=List.perm_singleton.1 (hp.trans (List.Perm.swap _ a [])).cons_inv
   cases e
   rw [Int.min_eq_right hxy,Int.max_eq_left hxy]
theorem se_sorted {d : Nat} (hΓ : Γ.Ok) (hB : B.Ok d) {xp pos : Pos} {e : Expr} {f : List Slot → Res PV} (hk : B.env.kindOf (Str.ofString "sorted") = some .globalImplicit) (hst : notStar e = true)
  (he : SE prog w Γ B e f) : SE prog w Γ B (.Call (.Name (Str.ofString "sorted") xp) [e] [] pos) (fun ρ => (f ρ).bind sortP) := by
 intro H ρ s Q E hs hp
 refine call1_b hΓ hB (id := "sorted") (by decide) (by kernel_rfl) hk rfl hst hs (he H ρ s _ _ hs (Post.bind hp fun p v s₁ H₁ _ e₁ rr hp₁ => ?_))
 have hs₁:=(hs.ext e₁).stays
 have hz:Post Rep (B.fenv::B.outer) H₁ s₁ (.stuck:Res PV) Q E→False:=id
 refine onL_k (Z := fun r => Post Rep (B.fenv :: B.outer) H₁ s₁ r Q E) (P := fun p => Rep H₁ p v → wpAny (model prog w) B.A (call (.builtin "sorted") [v]) Q E s₁) hz hp₁ (fun l hp₂ rr => ?_) rr
 split at hp₂
 ·rename_i x y
  refine onI_k (Z := fun r => Post Rep (B.fenv :: B.outer) H₁ s₁ r Q E) (P := fun x => Rep H₁ (.list [x,y]) v → wpAny (model prog w) B.A (call (.builtin "sorted") [v]) Q E s₁) hz hp₂ (fun a hp₂ rr => ?_) rr
  refine onI_k (Z := fun r => Post Rep (B.fenv :: B.outer) H₁ s₁ r Q E) (P := fun y => Rep H₁ (.list [.int a,y]) v → wpAny (model prog w) B.A (call (.builtin "sorted") [v]) Q E s₁) hz hp₂ (fun b hp₂ rr => ?_) rr
  obtain ⟨c,ws,rfl,hl,hz',hr⟩:=rep_list rr
  rw [RepL] at hr
  obtain ⟨v1,r1,rfl,h1,hr⟩:=hr
  rw [RepL] at hr
  obtain ⟨v2,r2,rfl,h2,hr⟩:=hr
  rw [RepL] at hr
  subst hr
  obtain ⟨t1,rfl⟩:=rep_int h1
  obtain ⟨t2,rfl⟩:=rep_int h2
  refine sorted_ints (isList_up hs₁ hl) (.cons a t1 (.cons b t2 .nil)) (by show 2<64; decide) fun out ns' a1 a2 a3=>?_
  rw [sort2 a2 a3] at a1
  obtain ⟨n,hn⟩:=sortedAll_at s₁.heap [.int a t1,.int b t2] out
  have hkp:∀ b' o,s₁.heap.get? b'=some o→(sortedAll s₁.heap [.int a t1,.int b t2] out).get? b'=some o:=fun _ _=>sortedAll_old
  obtain ⟨H',k1,k2,k3,k4⟩:=add_exists (stays_trans hs₁ hkp) hn
  have ex:Ext H₁ s₁ H' { s₁ with heap:=sortedAll s₁.heap [.int a t1,.int b t2] out }:=⟨k1,fun b' o' hb _ en=>by rw [k4 b' (Nat.ne_of_lt (Nat.lt_succ_of_lt (Heap.lt_size hb)))]; exact en,k2,.of_keeps hkp,rfl,rfl⟩
  refine hp₂.ok ex ?_
  rw [Rep]
  refine ⟨_,out.toList,rfl,⟨_,k3,rfl,n,by simp [seqObj]⟩,by show 2≤1048576; decide,?_⟩
  cases h:out.toList with
  | nil=>rw [h] at a1; cases a1
  | cons y1 r =>
   rw [h] at a1
   cases a1 with
   | cons _ u1 q =>
    cases q with
    | cons _ u2 q =>
     cases q
     rw [RepL]
     refine ⟨_,_,rfl,by rw [Rep]; exact ⟨u1,rfl⟩,?_⟩
     rw [RepL]
     refine ⟨_,_,rfl,by rw [Rep]; exact ⟨u2,rfl⟩,?_⟩
     rw [RepL]
 ·exact (hz hp₂).elim
theorem se_any {d : Nat} (hΓ : Γ.Ok) (hB : B.Ok d) {xp pos : Pos} {e : Expr} {f : List Slot → Res PV} (hk : B.env.kindOf (Str.ofString "any") = some .globalImplicit) (hst : notStar e = true)
  (he : SE prog w Γ B e f) : SE prog w Γ B (.Call (.Name (Str.ofString "any") xp) [e] [] pos) (fun ρ => (f ρ).bind anyP) := by
 intro H ρ s Q E hs hp
 refine call1_b hΓ hB (id := "any") (by decide) (by kernel_rfl) hk rfl hst hs (he H ρ s _ _ hs (Post.bind hp fun p v s₁ H₁ _ e₁ rr hp₁ => ?_))
 have hs₁:=(hs.ext e₁).stays
 cases p <;> try exact hp₁.elim
 rename_i l hfl
 simp only [anyP,onL] at hp₁
 cases hb:boolsOf l with
 | none=>rw [hb] at hp₁; exact hp₁.elim
 | some bs =>
  rw [hb] at hp₁
  have hlen:=bools_len hb
  refine call_any_walk (iter_of (A:=B.A.in1) hB.hand hs₁ rr rfl fun s' Sx ex hH hn hI hS=>?_)
  obtain ⟨fp,P,W,h1,h2,h3⟩:=hI
  refine ⟨_,fp,[s₁.heap.objs.size],l.length,fun i v=>i<l.length∧P i v,Sx,fun i=>bs.getD i false,rfl,⟨W.sub,W.frame,fun i s Q E hi st hQ=>W.item i s Q E hi st fun v h' tk hp=>hQ v h' tk ⟨hi,hp⟩,W.done,W.self⟩,hS,?_,fun h' tk hk'=>?_⟩
  ·rintro i v s Q E ⟨hi,hPv⟩ hq
   obtain ⟨p,hp,hr⟩:=h2 i v hi hPv
   obtain ⟨b,rfl,hbi⟩:=bools_get hb hp
   rw [rep_bool hr]
   refine wpAny_truthy_bool ?_
   simpa [List.getD_eq_getElem?_getD,hbi] using hq
  ·have e2:((List.range l.length).any fun i=>bs.getD i false)=bs.any id:=by
    rw [← hlen,Bool.eq_iff_iff]
    simp only [List.any_eq_true,List.mem_range,id]
    constructor
    ·rintro ⟨i,hi,h⟩
     exact ⟨bs[i],List.getElem_mem hi,by simpa [List.getD_eq_getElem?_getD,hi] using h⟩
    ·rintro ⟨x,hx,h⟩
     obtain ⟨n,hn,rfl⟩:=List.getElem_of_mem hx
     exact ⟨n,hn,by simpa [List.getD_eq_getElem?_getD,hn] using h⟩
   rw [e2]
   have kp:∀ b o,H₁.get? b=some o→h'.get? b=some o:=fun b o e=>hk' b o (by intro hm; simp at hm; rw [hm,hH] at e; cases e) (ex.stays b o e)
   have up:s₁.heap.UpToSlots h':=fun b o e hne=>by
    obtain ⟨sl,q⟩:=ex.ups b o e hne
    exact ⟨sl,hk' b _ (by intro hm; simp at hm; rw [hm,hn] at e; cases e) q⟩
   exact hp₁.ok (v:=.bool (bs.any id)) (s':={ s' with heap:=h',toks:=tk }) ⟨stays_refl _,fun _ _ _ _ e=>e,kp,up,ex.same⟩ (repBool _ _)
end
end Mine
namespace Mine
open PySem PySem.W PyProof.Rows
namespace L1
noncomputable def memNames : List (Str × NameKind) := [(Str.ofString "pairs",.local),(Str.ofString "last",.cell),(Str.ofString "ends",.cell),(Str.ofString "range",.globalImplicit)]
noncomputable def scOf (names:List (Str × NameKind)):Scope:={ kind:=.function,names:=names,isGenerator:=false,isCoroutine:=false,more:=[] }
noncomputable def kComp : Scope := scOf [(Str.ofString ".0",.local),(Str.ofString "k",.local),(Str.ofString "last",.free)]
noncomputable def aComp : Scope := scOf [(Str.ofString ".0",.local),(Str.ofString "p",.local),(Str.ofString "sorted",.globalImplicit),(Str.ofString "last",.free)]
noncomputable def eComp : Scope := scOf [(Str.ofString ".0",.local),(Str.ofString "e",.local),(Str.ofString "n",.free)]
noncomputable def nComp : Scope := scOf [(Str.ofString ".0",.local),(Str.ofString "n",.cell),(Str.ofString "any",.globalImplicit),(Str.ofString "ends",.free)]
noncomputable def kElt (p : Nat → Pos) : Expr := .IfExp (.Compare (.Name (Str.ofString "k") (p 1)) [.Eq] [.Constant (.int 0) 0 (p 2)] (p 3)) (.Name (Str.ofString "last") (p 4)) (.Name (Str.ofString "k") (p 5)) (p 6)
noncomputable def kList (p : Nat → Pos) : Expr := .ListComp (kElt p) [⟨.Name (Str.ofString "k") (p 7),.Name (Str.ofString "p") (p 8),[],0⟩] kComp (p 9)
noncomputable def aElt (p : Nat → Pos) : Expr := .Call (.Name (Str.ofString "sorted") (p 10)) [kList p] [] (p 11)
noncomputable def aList (p : Nat → Pos) : Expr := .ListComp (aElt p) [⟨.Name (Str.ofString "p") (p 12),.Name (Str.ofString "pairs") (p 13),[],0⟩] aComp (p 14)
noncomputable def eElt (p : Nat → Pos) : Expr := .Compare (.Subscript (.Name (Str.ofString "e") (p 15)) (.Constant (.int 0) 0 (p 16)) (p 17)) [.LtE,.LtE] [.Name (Str.ofString "n") (p 18),.Subscript (.Name (Str.ofString "e") (p 19)) (.Constant (.int 1) 0 (p 20)) (p 21)] (p 22)
noncomputable def eList (p : Nat → Pos) : Expr := .ListComp (eElt p) [⟨.Name (Str.ofString "e") (p 23),.Name (Str.ofString "ends") (p 24),[],0⟩] eComp (p 25)
noncomputable def nTest (p : Nat → Pos) : Expr := .Call (.Name (Str.ofString "any") (p 26)) [eList p] [] (p 27)
noncomputable def nIter (p : Nat → Pos) : Expr := .Call (.Name (Str.ofString "range") (p 28)) [.Constant (.int 1) 0 (p 29),.BinOp (.Name (Str.ofString "last") (p 30)) .Add (.Constant (.int 1) 0 (p 31)) (p 32)] [] (p 33)
noncomputable def nList (p : Nat → Pos) : Expr := .ListComp (.Name (Str.ofString "n") (p 34)) [⟨.Name (Str.ofString "n") (p 35),nIter p,[nTest p],0⟩] nComp (p 36)
noncomputable def memBody (p : Nat → Pos) : List Stmt := [.Assign [.Name (Str.ofString "ends") (p 37)] (aList p) (p 38),.Return (some (nList p)) (p 39)]
theorem mapR_ne {α β:Type} {f:α→Res β} (h:∀ a,f a≠.exc):∀ l,mapR f l≠.exc
 | []=>fun q=>by cases q
 | a::r=>by
  show (f a).bind (fun b=>(mapR f r).bind fun bs=>.ok (b::bs))≠.exc
  cases hf:f a with
  | exc=>exact absurd hf (h a)
  | stuck=>intro q; cases q
  | ok b =>
   show (mapR f r).bind (fun bs=>.ok (b::bs))≠.exc
   cases hr:mapR f r with
   | exc=>exact absurd hr (mapR_ne h r)
   | stuck=>intro q; cases q
   | ok bs=>intro q; cases q
noncomputable def kF (last:Int) (ρ:List Slot):Res PV:=((match getS ρ 0 with | .val v=>Res.ok v | _=>.stuck).bind fun x=>(Res.ok (PV.int 0)).bind fun y=>cmpP .eq x y).bind fun x=>if x then .ok (.int last) else match getS ρ 0 with | .val v=>.ok v | _=>.stuck
noncomputable def aF (last:Int) (ρ:List Slot):Res PV:=((match getS ρ 0 with | .val v=>Res.ok v | _=>.stuck).bind fun y=>(itemsP y).bind fun l=>(mapR (fun v=>kF last [.val v]) l).bind fun vs=>Res.ok (PV.list vs)).bind sortP
theorem kF_ne (last:Int) (v:PV):kF last [.val v]≠.exc:=by
 show (ofO (eqD 12 v (.int 0))).bind _≠_
 cases eqD 12 v (.int 0) with
 | none=>intro q; cases q
 | some b=>cases b <;> (intro q; cases q)
theorem onI_ne {y:PV} {f:Int→Res PV} (h:∀ i,f i≠.exc):onI y f≠.exc:=fun q=>onI_k (Z:=fun r=>r=.exc) (P:=fun _=>False) (fun e=>nomatch e) q fun i e=>h i e
theorem sortP_ne (v:PV):sortP v≠.exc:=by
 cases v <;> try (intro q; cases q)
 rename_i l
 show (match l with | [x,y]=>onI x fun a=>onI y fun b=>Res.ok (PV.list [.int (min a b),.int (max a b)]) | _=>.stuck)≠.exc
 split
 ·exact onI_ne fun _=>onI_ne fun _=>by intro q; cases q
 ·intro q; cases q
theorem aF_ne (last:Int) (v:PV):aF last [.val v]≠.exc:=by
 show ((itemsP v).bind fun l=>(mapR (fun v=>kF last [.val v]) l).bind fun vs=>.ok (.list vs)).bind sortP≠.exc
 cases hi:itemsP v with
 | exc=>cases v <;> cases hi
 | stuck=>intro q; cases q
 | ok l =>
  show ((mapR (fun v=>kF last [.val v]) l).bind fun vs=>.ok (.list vs)).bind sortP≠.exc
  cases hm:mapR (fun v=>kF last [.val v]) l with
  | exc=>exact absurd hm (mapR_ne (kF_ne last) l)
  | stuck=>intro q; cases q
  | ok vs=>exact sortP_ne _
theorem kF_int (last k:Int):kF last [.val (.int k)]=.ok (.int (endOf last k)):=by
 show (if (k == 0)=true then Res.ok (PV.int last) else .ok (.int k))=_
 unfold endOf
 by_cases h:k=0
 ·rw [if_pos (beq_iff_eq.2 h),if_pos h]
 ·rw [if_neg (fun q=>h (beq_iff_eq.1 q)),if_neg h]
noncomputable def spanP (last:Int) (q:Int × Int):PV:=.list [.int (min (endOf last q.1) (endOf last q.2)),.int (max (endOf last q.1) (endOf last q.2))]
theorem aF_pair (last a b:Int):aF last [.val (.tuple [.int a,.int b])]=.ok (spanP last (a,b)):=by
 show ((mapR (fun v=>kF last [.val v]) [.int a,.int b]).bind fun vs=>.ok (.list vs)).bind sortP=_
 show (((kF last [.val (.int a)]).bind fun x=>(mapR (fun v=>kF last [.val v]) [.int b]).bind fun bs=>Res.ok (x::bs)).bind fun vs=>.ok (.list vs)).bind sortP=_
 rw [kF_int]
 show ((((kF last [.val (.int b)]).bind fun x=>(mapR (fun v=>kF last [.val v]) []).bind fun bs=>Res.ok (x::bs)).bind fun bs=>Res.ok (PV.int (endOf last a)::bs)).bind fun vs=>.ok (.list vs)).bind sortP=_
 rw [kF_int]
 rfl
theorem aF_all (last:Int):∀ (l:List PV) (ps:List (Int × Int)),pairsOf l=some ps→mapR (fun v=>aF last [.val v]) l=.ok (ps.map (spanP last))
 | [],ps,h=>by cases h; rfl
 | v::r,ps,h=>by
  rw [pairsOf] at h
  cases hv:pairOf v with
  | none=>rw [hv] at h; cases h
  | some q =>
   cases hr:pairsOf r with
   | none=>rw [hv,hr] at h; cases h
   | some qs =>
    rw [hv,hr] at h; cases h
    show (aF last [.val v]).bind (fun b=>(mapR (fun v=>aF last [.val v]) r).bind fun bs=>.ok (b::bs))=_
    rw [pairOf_some hv,aF_pair,aF_all last r qs hr]
    rfl
structure MB (B:Bl) (cl ce:Addr):Prop where
 kind:B.env.scope.kind=.function
 names:B.env.scope.names=memNames
 vs : B.vs = [Str.ofString "pairs"]
 last : B.env.cells.lookup (Str.ofString "last") = some cl
 ends : B.env.cells.lookup (Str.ofString "ends") = some ce
theorem MB.of {B:Bl} {cl ce:Addr} (x:MB B cl ce) {n:Str} {k:NameKind} (h:memNames.lookup n=some k):B.env.kindOf n=some k:=by
 show B.env.scope.names.lookup n=some k; rw [x.names]; exact h
theorem clos_one {env:Env} {names:List (Str × NameKind)} {n:Str} {c:Addr} (hn:∃ a,names=a++[(n,.free)]∧∀ x∈a,(x.2 == NameKind.free)=false) (hc:env.cells.lookup n=some c):closureFor (scOf names) env=pure [(n,c)]:=by
 obtain ⟨a,rfl,ha⟩:=hn
 have hc':cellOf env n=pure c:=by unfold cellOf; rw [hc]
 unfold closureFor scOf
 simp only
 induction a with
 | nil=>simp only [List.nil_append,List.forIn_cons,List.forIn_nil]; rw [hc']; rfl
 | cons y r ih =>
  simp only [List.cons_append,List.forIn_cons]
  rw [ha y List.mem_cons_self]
  exact ih fun x hx=>ha x (List.mem_cons_of_mem _ hx)
section
variable {prog:Program} {w:World} {Γ:Ct} {B:Bl}
theorem se_ends {d:Nat} (hΓ:Γ.Ok) (hB:B.Ok d) {cl ce:Addr} (hM:MB B cl ce) (p:Nat→Pos) {last:Int} {t:Tok} (hcell:Γ.Base.IsCell cl (some (.int last t))) :
  SE prog w Γ B (aList p) (fun ρ=>(match getS ρ 0 with | .val v=>Res.ok v | _=>.stuck).bind fun y=>(itemsP y).bind fun l=>(mapR (fun v=>aF last [.val v]) l).bind fun vs=>.ok (.list vs)):=by
 have hkl : B.env.kindOf (Str.ofString "last") = some .cell := hM.of rfl
 have hr:Rep Γ.Base (.int last) (.int last t):=by rw [Rep]; exact ⟨t,rfl⟩
 refine se_compF (f := aF last) hB (clos_one ⟨[(Str.ofString ".0",.local),(Str.ofString "p",.local),(Str.ofString "sorted",.globalImplicit)],rfl,by decide⟩ hM.last) (by decide) rfl (by decide) rfl rfl (mapR_ne (aF_ne last)) (fun C => ?_) (se_var hB (by rw [hM.vs]; rfl) (hM.of rfl) rfl)
 have hB1 := hB.compC (sc := relabel aComp B.env) rfl [(Str.ofString "last",cl)] (Str.ofString "p") C
 have n1 : (B.compC (relabel aComp B.env) [(Str.ofString "last",cl)] (Str.ofString "p") C).env.scope.names = [(Str.ofString ".0",.local),(Str.ofString "p",.local),(Str.ofString "sorted",.globalImplicit),(Str.ofString "last",.cell)] := by
  show (relabel aComp B.env).names=_
  unfold relabel aComp scOf
  simp only [List.map_cons,List.map_nil,hM.kind,hkl]
  rfl
 generalize hb1 : B.compC (relabel aComp B.env) [(Str.ofString "last",cl)] (Str.ofString "p") C = B1 at hB1 n1
 have c1 : B1.env.cells.lookup (Str.ofString "last") = some cl := by rw [← hb1]; rfl
 have v1 : B1.vs = [Str.ofString "p"] := by rw [← hb1]; rfl
 have k1 : ∀ {n : Str} {k : NameKind},[(Str.ofString ".0",NameKind.local),(Str.ofString "p",.local),(Str.ofString "sorted",.globalImplicit),(Str.ofString "last",.cell)].lookup n = some k → B1.env.kindOf n = some k := fun {n k} h => by
  show B1.env.scope.names.lookup n=some k; rw [n1]; exact h
 refine se_sorted hΓ hB1 (k1 rfl) rfl ?_
 refine se_compF (f := kF last) hB1 (clos_one ⟨[(Str.ofString ".0",.local),(Str.ofString "k",.local)],rfl,by decide⟩ c1) (by decide) rfl (by decide) rfl rfl (mapR_ne (kF_ne last)) (fun C' => ?_) (se_var hB1 (by rw [v1]; rfl) (k1 rfl) rfl)
 have hB2 := hB1.compC (sc := relabel kComp B1.env) rfl [(Str.ofString "last",cl)] (Str.ofString "k") C'
 have n2 : (B1.compC (relabel kComp B1.env) [(Str.ofString "last",cl)] (Str.ofString "k") C').env.scope.names = [(Str.ofString ".0",.local),(Str.ofString "k",.local),(Str.ofString "last",.cell)] := by
  show (relabel kComp B1.env).names=_
  unfold relabel kComp scOf
  simp only [List.map_cons,List.map_nil,hB1.kind,k1 (n := Str.ofString "last") rfl]
  rfl
 generalize hb2 : B1.compC (relabel kComp B1.env) [(Str.ofString "last",cl)] (Str.ofString "k") C' = B2 at hB2 n2
 have c2 : B2.env.cells.lookup (Str.ofString "last") = some cl := by rw [← hb2]; rfl
 have v2 : B2.vs = [Str.ofString "k"] := by rw [← hb2]; rfl
 have k2 : ∀ {n : Str} {k : NameKind},[(Str.ofString ".0",NameKind.local),(Str.ofString "k",.local),(Str.ofString "last",.cell)].lookup n = some k → B2.env.kindOf n = some k := fun {n k} h => by
  show B2.env.scope.names.lookup n=some k; rw [n2]; exact h
 exact se_ite (sb_cmp (se_var hB2 (by rw [v2]; rfl) (k2 rfl) rfl) (se_lit (v:=.int 0) rfl fun l e=>nomatch e) rfl (so_cmp hΓ hB2 rfl)) (se_cap hB2 (k2 rfl) c2 rfl hcell hr) (se_var hB2 (by rw [v2]; rfl) (k2 rfl) rfl)
end
end L1
end Mine
namespace Mine
open PySem PySem.W PyProof.Rows
namespace L1
theorem idxP_ne (x y:PV):idxP x y≠.exc:=by
 have ho:∀ o,ofI o≠.exc:=fun o q=>by cases o <;> cases q
 have hw:∀ (c:Prop) [Decidable c] o,(if c then ofI o else Res.stuck)≠.exc:=fun c _ o=>by split; (· exact ho o); (· intro q; cases q)
 cases x <;> cases y <;> first | exact hw _ _ | (intro q; cases q)
noncomputable def eF (n:Int) (ρ:List Slot):Res PV:=((match getS ρ 0 with | .val v=>Res.ok v | _=>.stuck).bind fun x=>(Res.ok (PV.int 0)).bind fun y=>idxP x y).bind fun x=>(Res.ok (PV.int n)).bind fun y=>(cmpP .le x y).bind fun t =>
 if t then ((match getS ρ 0 with | .val v=>Res.ok v | _=>.stuck).bind fun x=>(Res.ok (PV.int 1)).bind fun y=>idxP x y).bind fun z=>(cmpP .le y z).bind fun u=>Res.ok (PV.bool u) else .ok (.bool false)
theorem leP_ne (x y:PV):cmpP .le x y≠.exc:=by
 cases x <;> first | (intro q; cases q; done) | skip
 cases y <;> (intro q; cases q)
theorem eF_ne (n:Int) (v:PV):eF n [.val v]≠.exc:=by
 show (idxP v (.int 0)).bind (fun x=>(cmpP .le x (.int n)).bind fun t=>if t then (idxP v (.int 1)).bind fun z=>(cmpP .le (.int n) z).bind fun u=>Res.ok (PV.bool u) else .ok (.bool false))≠.exc
 cases h0:idxP v (.int 0) with
 | exc=>exact absurd h0 (idxP_ne _ _)
 | stuck=>intro q; cases q
 | ok x =>
  show (cmpP .le x (.int n)).bind _≠_
  cases h1:cmpP .le x (.int n) with
  | exc=>exact absurd h1 (leP_ne _ _)
  | stuck=>intro q; cases q
  | ok t =>
   cases t with
   | false=>intro q; cases q
   | true =>
    show (idxP v (.int 1)).bind _≠_
    cases h2:idxP v (.int 1) with
    | exc=>exact absurd h2 (idxP_ne _ _)
    | stuck=>intro q; cases q
    | ok z =>
     show (cmpP .le (.int n) z).bind _≠_
     cases h3:cmpP .le (.int n) z with
     | exc=>exact absurd h3 (leP_ne _ _)
     | stuck=>intro q; cases q
     | ok u=>intro q; cases q
theorem eF_span (last n:Int) (q:Int × Int):eF n [.val (spanP last q)]=.ok (.bool (inSpan last n q)):=by
 show (if decide (min (endOf last q.1) (endOf last q.2)≤n)=true then Res.ok (PV.bool (decide (n≤max (endOf last q.1) (endOf last q.2)))) else .ok (.bool false))=_
 unfold inSpan
 cases decide (min (endOf last q.1) (endOf last q.2)≤n) <;> rfl
theorem eF_all (last n:Int):∀ ps:List (Int × Int),mapR (fun v=>eF n [.val v]) (ps.map (spanP last))=.ok (ps.map fun q=>.bool (inSpan last n q))
 | []=>rfl
 | q::r=>by
  show (eF n [.val (spanP last q)]).bind (fun b=>(mapR (fun v=>eF n [.val v]) (r.map (spanP last))).bind fun bs=>.ok (b::bs))=_
  rw [eF_span,eF_all last n r]
  rfl
theorem bools_map {α:Type} (f:α→Bool):∀ l:List α,boolsOf (l.map fun q=>PV.bool (f q))=some (l.map f)
 | []=>rfl
 | a::r=>by show (boolsOf (r.map fun q=>PV.bool (f q))).map (f a::·)=_; rw [bools_map f r]; rfl
noncomputable def nNames : List (Str × NameKind) := [(Str.ofString ".0",.local),(Str.ofString "n",.cell),(Str.ofString "any",.globalImplicit),(Str.ofString "ends",.cell)]
section
variable {prog:Program} {w:World} {Γ:Ct} {B:Bl}
theorem sb_test {d : Nat} (hΓ : Γ.Ok) (hB : B.Ok d) {cn ce : Addr} (hnm : B.env.scope.names = nNames) (hn : B.env.cells.lookup (Str.ofString "n") = some cn) (he : B.env.cells.lookup (Str.ofString "ends") = some ce) (p : Nat → Pos)
  {n last:Int} {t:Tok} {ve:Value} {ps:List (Int × Int)} (hcn:Γ.Base.IsCell cn (some (.int n t))) (hce:Γ.Base.IsCell ce (some ve)) (hre:Rep Γ.Base (.list (ps.map (spanP last))) ve) :
  SB prog w Γ B (nTest p) (fun _=>.ok (ps.any (inSpan last n))):=by
 have hr:Rep Γ.Base (.int n) (.int n t):=by rw [Rep]; exact ⟨t,rfl⟩
 have k1:∀ {x:Str} {k:NameKind},nNames.lookup x=some k→B.env.kindOf x=some k:=fun {x k} h=>by show B.env.scope.names.lookup x=some k; rw [hnm]; exact h
 have main:SE prog w Γ B (nTest p) (fun ρ=>((Res.ok (PV.list (ps.map (spanP last)))).bind fun y=>(itemsP y).bind fun l=>(mapR (fun v=>eF n [.val v]) l).bind fun vs=>Res.ok (PV.list vs)).bind anyP):=by
  refine se_any hΓ hB (k1 rfl) rfl ?_
  refine se_compF (f := eF n) hB (clos_one ⟨[(Str.ofString ".0",.local),(Str.ofString "e",.local)],rfl,by decide⟩ hn) (by decide) rfl (by decide) rfl rfl (mapR_ne (eF_ne n)) (fun C => ?_) (se_cap hB (k1 rfl) he rfl hce hre)
  have hB2 := hB.compC (sc := relabel eComp B.env) rfl [(Str.ofString "n",cn)] (Str.ofString "e") C
  have n2 : (B.compC (relabel eComp B.env) [(Str.ofString "n",cn)] (Str.ofString "e") C).env.scope.names = [(Str.ofString ".0",.local),(Str.ofString "e",.local),(Str.ofString "n",.cell)] := by
   show (relabel eComp B.env).names=_
   unfold relabel eComp scOf
   simp only [List.map_cons,List.map_nil,hB.kind,k1 (x := Str.ofString "n") rfl]
   rfl
  generalize hb2 : B.compC (relabel eComp B.env) [(Str.ofString "n",cn)] (Str.ofString "e") C = B2 at hB2 n2
  have c2 : B2.env.cells.lookup (Str.ofString "n") = some cn := by rw [← hb2]; rfl
  have v2 : B2.vs = [Str.ofString "e"] := by rw [← hb2]; rfl
  have k2 : ∀ {x : Str} {k : NameKind},[(Str.ofString ".0",NameKind.local),(Str.ofString "e",.local),(Str.ofString "n",.cell)].lookup x = some k → B2.env.kindOf x = some k := fun {x k} h => by
   show B2.env.scope.names.lookup x=some k; rw [n2]; exact h
  have hv : ∀ {q : Pos},SE prog w Γ B2 (.Name (Str.ofString "e") q) (fun ρ => match getS ρ 0 with | .val v => .ok v | _ => .stuck) := fun {q} => se_var hB2 (by rw [v2]; rfl) (k2 rfl) rfl
  exact se_cmp2 (se_idx hv (se_lit (v:=.int 0) rfl fun l e=>nomatch e) rfl) (se_cap hB2 (k2 rfl) c2 rfl hcn hr) (se_idx hv (se_lit (v:=.int 1) rfl fun l e=>nomatch e) rfl) rfl (so_cmp hΓ hB2 rfl) (so_cmp hΓ hB2 rfl)
 have hval:((Res.ok (PV.list (ps.map (spanP last)))).bind fun y=>(itemsP y).bind fun l=>(mapR (fun v=>eF n [.val v]) l).bind fun vs=>Res.ok (PV.list vs)).bind anyP=.ok (.bool (ps.any (inSpan last n))):=by
  show ((mapR (fun v=>eF n [.val v]) (ps.map (spanP last))).bind fun vs=>Res.ok (PV.list vs)).bind anyP=_
  rw [eF_all]
  show (match boolsOf (ps.map fun q=>PV.bool (inSpan last n q)) with | some bs=>Res.ok (PV.bool (bs.any id)) | none=>.stuck)=_
  rw [bools_map]
  show Res.ok (PV.bool ((ps.map (inSpan last n)).any id))=_
  rw [List.any_map]; rfl
 have hb:=(EOk.both main fun _=>rfl).2
 intro H ρ s Q E hs hp
 refine hb H ρ s Q E hs ?_
 show Post _ _ _ _ ((((Res.ok (PV.list (ps.map (spanP last)))).bind fun y=>(itemsP y).bind fun l=>(mapR (fun v=>eF n [.val v]) l).bind fun vs=>Res.ok (PV.list vs)).bind anyP).bind truP) _ _
 rw [hval]
 exact hp
end
end L1
end Mine
namespace Mine
open PySem PySem.W PyProof.Rows
namespace L1
noncomputable def nPick (ps:List (Int × Int)) (last:Int) (i:Nat):List Int:=((List.range i).map fun (n:Nat)=>(n:Int)+1).filter fun n=>ps.any (inSpan last n)
theorem nPick_succ (ps:List (Int × Int)) (last:Int) (i:Nat):nPick ps last (i+1)=nPick ps last i++(if ps.any (inSpan last ((i:Int)+1)) then [(i:Int)+1] else []):=by
 unfold nPick
 rw [List.range_succ,List.map_append,List.filter_append]
 congr 1
 show List.filter _ [(i:Int)+1]=_
 simp only [List.filter_cons,List.filter_nil]
section
variable {prog:Program} {w:World} {Γ:Ct} {B:Bl}
noncomputable def nCells (cn ce : Addr) : List (Str × Addr) := [(Str.ofString "n",cn),(Str.ofString "ends",ce)]
noncomputable def nBl (B : Bl) (cn ce C : Addr) : Bl := B.compC (relabel nComp B.env) (nCells cn ce) (Str.ofString ".0") C
theorem nBl_names {cl ce cn C:Addr} (hM:MB B cl ce):(nBl B cn ce C).env.scope.names=nNames:=by
 show (relabel nComp B.env).names=_
 unfold relabel nComp scOf
 simp only [List.map_cons,List.map_nil,hM.kind,hM.of (n := Str.ofString "ends") rfl]
 rfl
theorem lay2 {H h:Heap} (hs:H.StaysIn h) {I c:Addr} {oI oc:Obj} (hI:h.get? I=some oI) (hc:h.get? c=some oc):∃ H',H.StaysIn H'∧H'.StaysIn h∧H'.get? I=some oI∧H'.get? c=some oc∧∀ b,b≠I→b≠c→H'.get? b=H.get? b:=by
 obtain ⟨H1,a1,a2,a3,a4⟩:=add_exists hs hI
 obtain ⟨H2,b1,b2,b3,b4⟩:=add_exists a2 hc
 exact ⟨H2,stays_trans a1 b1,b2,b1 _ _ a3,b3,fun b x y=>(b4 b y).trans (a4 b x)⟩
theorem n_loop {d:Nat} (hΓ:Γ.Ok) (hB:B.Ok d) {cl ce:Addr} (hM:MB B cl ce) (p:Nat→Pos) {last:Int} {ps:List (Int × Int)} {ve:Value} (hce:Γ.Base.IsCell ce (some ve)) (hre:Rep Γ.Base (.list (ps.map (spanP last))) ve) {N:Nat} (hN:N≤9)
  {H:Heap} {ρ:List Slot} {s₀ s:Shared} (hs₀:St Γ B H ρ s₀) {I D C cn:Addr} (hI₀:s₀.heap.get? I=none) (hD₀:s₀.heap.get? D=none) (hC₀:s₀.heap.get? C=none) (hn₀:s₀.heap.get? cn=none)
  (hID:I≠D) (hIC:I≠C) (hIn:I≠cn) (hDC:D≠C) (hDn:D≠cn) (hCn:C≠cn) (hNC:B.N₀≤C)
  (hex:Ext H s₀ H s) (hit:IsRangeIter s.heap I (1+((0:Nat):Int) * 1) ((N:Int) - ((0:Nat):Int)) 1) (hown:OwnAt s.heap D []) {m₀:Str→Option Value} (hns:s.heap.Ns C m₀) (hcell:s.heap.IsCell cn none)
  {R:Result→Shared→Prop} (hR:∀ s' ws m,Ext H s₀ H s'→s'.heap.Ns C m→OwnAt s'.heap D ws→RepL H ((nPick ps last N).map PV.int) ws→R (.ok .next) s') :
  codeAny (model prog w) B.A (.compLoop (nList p) 0 (.ref I) (.ref D) (nBl B cn ce C).env) R s:=by
 have hHI:H.get? I=none:=none_of_stays hs₀.stays hI₀
 have hHD:H.get? D=none:=none_of_stays hs₀.stays hD₀
 have hHC:H.get? C=none:=none_of_stays hs₀.stays hC₀
 have hHn:H.get? cn=none:=none_of_stays hs₀.stays hn₀
 have W:=Walks.range (prog:=prog) (w:=w) hB.hand I 1 1 N
 have hBn:(nBl B cn ce C).Ok d:=hB.compC rfl _ _ _
 have hnm:=nBl_names (cn:=cn) (C:=C) hM
 have k1:∀ {x:Str} {k:NameKind},nNames.lookup x=some k→(nBl B cn ce C).env.kindOf x=some k:=fun {x k} h=>by show (nBl B cn ce C).env.scope.names.lookup x=some k; rw [hnm]; exact h
 unfold nList
 refine codeAny_compLoop_tests (fun k s'=>∃ i ws m co,k=N+1 - i∧i≤N∧Ext H s₀ H s'∧IsRangeIter s'.heap I (1+(i:Int) * 1) ((N:Int) - (i:Int)) 1∧OwnAt s'.heap D ws∧s'.heap.Ns C m∧s'.heap.IsCell cn co∧RepL H ((nPick ps last i).map PV.int) ws) ?_ (N+1)
  ⟨0,[],m₀,none,rfl,Nat.zero_le _,hex,hit,hown,hns,hcell,by show RepL H [] []; rw [RepL]⟩
 intro k s' hI
 refine nc fun hG=>?_
 obtain ⟨i,ws,m,co,rfl,hi,ex,hit',hown',hns',hcell',hrl⟩:=hI
 have turn1:∀ (a:Addr) (h':Heap) (tk:Nat),s₀.heap.get? a=none→(∀ b o,b≠a→s'.heap.get? b=some o→h'.get? b=some o)→Ext H s₀ H { s' with heap:=h',toks:=tk }:=fun a h' tk ha hk =>
  ⟨stays_refl _,fun _ _ _ _ e=>e,fun b o e=>hk b o (fun q=>by rw [q] at e; exact absurd (hs₀.stays _ _ e) (by rw [ha]; exact nofun)) (ex.stays b o e),fun b o e nf=>by
   obtain ⟨sl,e'⟩:=ex.ups b o e nf
   exact ⟨sl,hk b _ (fun q=>by rw [q,ha] at e; cases e) e'⟩,ex.same⟩
 by_cases hlt:i<N
 ·refine hG (W.item i s' _ _ hlt hit' fun v h₁ tk hv hit₁ hk₁=>?_)
  clear hG
  refine nc fun hG=>?_
  obtain ⟨t,rfl⟩:=hv
  have ne1:∀ b,b≠I→b ∉ [I]:=fun b hb hm=>hb (List.mem_singleton.1 hm)
  obtain ⟨oD,nD,d1,d2,d3,d4⟩:=id hown'
  have hcell₁:h₁.IsCell cn co:=by obtain ⟨o,ho,hd⟩:=hcell'; exact ⟨o,hk₁ _ _ (ne1 _ (Ne.symm hIn)) ho,hd⟩
  have hns₁:h₁.Ns C m:=hns'.at' fun o e=>hk₁ _ o (ne1 _ (Ne.symm hIC)) e
  refine hG ?_
  clear hG
  rw [show (1+(i:Int) * 1)=(i:Int)+1 by omega]
  refine wpAny_assign_Name (wpAny_storeName_cell (c:=cn) hBn.kind (k1 rfl) rfl hcell₁ fun h₂ hc₂ hsb₂=>?_)
  have keep2:∀ b o,b≠I→b≠cn→s'.heap.get? b=some o→h₂.get? b=some o:=fun b o hb1 hb2 e=>(hsb₂.2 b hb2).trans (hk₁ b o (ne1 b hb1) e)
  have hit₂:h₂.get? I=h₁.get? I:=hsb₂.2 I hIn
  have ex₂:Ext H s₀ H { s' with heap:=h₂,toks:=tk } :=
   ⟨stays_refl _,fun _ _ _ _ e=>e,fun b o e=>keep2 b o (fun q=>by rw [q,hHI] at e; cases e) (fun q=>by rw [q,hHn] at e; cases e) (ex.stays b o e),fun b o e nf=>by
    obtain ⟨sl,e'⟩:=ex.ups b o e nf
    exact ⟨sl,keep2 b _ (fun q=>by rw [q,hI₀] at e; cases e) (fun q=>by rw [q,hn₀] at e; cases e) e'⟩,ex.same⟩
  obtain ⟨oc,hoc,hdc⟩:=id hc₂
  have hoI:h₂.get? I=some _:=hit₂.trans hit₁
  obtain ⟨Hq,q1,q2,q3,q4,q5⟩:=lay2 ex₂.stays hoI hoc
  have hΓ4:Ct.Ok { Γ with Base:=Hq }:=hΓ.up (stays_trans hs₀.base q1)
  have hst:St { Γ with Base:=Hq } (nBl B cn ce C) Hq [.unset] { s' with heap:=h₂,toks:=tk }:=by
   refine ⟨stays_refl _,q2,?_,m,fun _=>0,hns₁.sameBut hsb₂ hCn,(q5 C (Ne.symm hIC) hCn).trans hHC,hNC,fun j x hx=>?_,fun a b l l' _ ha=>?_⟩
   ·have y:s₀.heap.FunFrames Hq (B.fenv::B.outer):=funFrames_base' hs₀.frames fun b o ho hd hn=>by
     rw [q5 b (fun q=>by rw [q,hI₀] at ho; cases ho) (fun q=>by rw [q,hn₀] at ho; cases ho)]; exact hn
    refine y.of_keeps fun b o ho hn=>?_
    obtain ⟨sl,q⟩:=ex₂.ups b o ho hn
    exact ⟨_,q,rfl⟩
   ·cases j with
    | zero=>trivial
    | succ j=>simp [nBl,Bl.compC] at hx
   ·cases a with
    | zero=>cases ha
    | succ a=>cases ha
  have hbase:Γ.Base.StaysIn Hq:=stays_trans hs₀.base q1
  have hsb:=sb_test (prog:=prog) (w:=w) (B:=nBl B cn ce C) hΓ4 hBn hnm (cn:=cn) (ce:=ce) rfl rfl p (n:=(i:Int)+1) (last:=last) (t:=t) (ve:=ve) (ps:=ps) ⟨oc,q4,hdc⟩ (hce.keeps hbase) (hre.mono hbase)
  rw [List.forIn_cons,if_pos rfl]
  refine wpAny_bind (wpAny_bind (hsb Hq [.unset] _ _ _ hst ?_))
  intro y s₃ H₃ e₃ hy
  refine wpAny_pure ?_
  dsimp only
  rw [List.forIn_nil]
  refine wpAny_pure ?_
  have stq:Hq.StaysIn s₃.heap:=stays_trans e₃.grow e₃.stays
  have hit₃:IsRangeIter s₃.heap I (1+((i+1:Nat):Int) * 1) ((N:Int) - ((i+1:Nat):Int)) 1:=stq _ _ q3
  have own₂:OwnAt h₂ D ws:=⟨oD,nD,keep2 D _ (Ne.symm hID) hDn d1,d2,d3,d4⟩
  have own₃:OwnAt s₃.heap D ws:=own₂.ups e₃.ups
  have ns₃:s₃.heap.Ns C m:=e₃.ups.ns (hns₁.sameBut hsb₂ hCn)
  have cell₃:s₃.heap.IsCell cn (some (.int ((i:Int)+1) t)):=⟨oc,stq _ _ q4,hdc⟩
  have ex₃:Ext H s₀ H s₃:=⟨stays_refl _,fun _ _ _ _ e=>e,stays_trans q1 stq,ex₂.ups.trans e₃.ups,e₃.same.1.trans ex₂.same.1,e₃.same.2.trans ex₂.same.2⟩
  have hy':ps.any (inSpan last ((i:Int)+1))=y:=hy
  cases y with
  | false =>
   rw [if_neg Bool.false_ne_true]
   refine ⟨N+1 - (i+1),by omega,i+1,ws,m,_,rfl,hlt,ex₃,hit₃,own₃,ns₃,cell₃,?_⟩
   rw [nPick_succ,hy',if_neg Bool.false_ne_true,List.append_nil]; exact hrl
  | true =>
   rw [if_pos rfl]
   refine wpAny_Name (wpAny_loadName_cell (c:=cn) hBn.kind (k1 rfl) rfl cell₃ ?_) rfl
   obtain ⟨o5,n5,a1,a2,a3,a4⟩:=id own₃
   have hwl:ws.length≤i:=by
    have h1:=hrl.length
    rw [h1,List.length_map]
    refine Nat.le_trans (List.length_filter_le _ _) ?_
    rw [List.length_map,List.length_range]; exact Nat.le_refl _
   refine list_append_plainL (its:=ws.toArray) ⟨o5,n5,a1,a2,a3,a4⟩ (fun h₅ hpl5 hsb₅=>?_) (by rw [List.size_toArray]; exact Nat.le_trans (Nat.le_trans hwl (Nat.le_of_lt hlt)) (Nat.le_trans hN (by decide)))
   have kp5:∀ b o,b≠D→s₃.heap.get? b=some o→h₅.get? b=some o:=fun b o hb e=>(hsb₅.2 b hb).trans e
   refine ⟨N+1 - (i+1),by omega,i+1,ws++[.int ((i:Int)+1) t],m,_,rfl,hlt,?_,?_,?_,ns₃.sameBut hsb₅ (Ne.symm hDC),cell₃.sameBut hsb₅ (Ne.symm hDn),?_⟩
   ·exact ⟨stays_refl _,fun _ _ _ _ e=>e,fun b o e=>kp5 b o (fun q=>by rw [q,hHD] at e; cases e) (ex₃.stays b o e),fun b o e nf=>by
     obtain ⟨sl,e'⟩:=ex₃.ups b o e nf
     exact ⟨sl,kp5 b _ (fun q=>by rw [q,hD₀] at e; cases e) e'⟩,ex₃.same⟩
   ·exact kp5 _ _ hID hit₃
   ·obtain ⟨o',n',c1,c2,c3,c4⟩:=hpl5
    exact ⟨o',n',c1,c2,c3,by rw [c4]; simp⟩
   ·rw [nPick_succ,hy',if_pos rfl,List.map_append]
    exact hrl.append (RepL.one (by rw [Rep]; exact ⟨t,rfl⟩))
 ·have hie:i=N:=Nat.le_antisymm hi (Nat.le_of_not_lt hlt)
  subst hie
  refine hG (W.done s' _ _ hit' fun h₁ tk hk₁=>?_)
  have ne1:∀ b,b≠I→b ∉ [I]:=fun b hb hm=>hb (List.mem_singleton.1 hm)
  obtain ⟨oD,nD,d1,d2,d3,d4⟩:=id hown'
  exact hR { s' with heap:=h₁,toks:=tk } ws m (turn1 I h₁ tk hI₀ fun b o hb e=>hk₁ b o (ne1 b hb) e) (hns'.at' fun o e=>hk₁ _ o (ne1 _ (Ne.symm hIC)) e) ⟨oD,nD,hk₁ _ _ (ne1 _ (Ne.symm hID)) d1,d2,d3,d4⟩ hrl
end
end L1
end Mine
namespace Mine
open PySem PySem.W PyProof.Rows
namespace L1
section
variable {prog:Program} {w:World} {Γ:Ct} {B:Bl}
noncomputable def dictO : Obj := { cls := .type "dict",data := .dict #[] }
noncomputable def cellO : Obj := { cls := .type "cell",data := .cell none }
theorem env_n {M:Model} {A:Around} {E:Value→Shared→Prop} {s:Shared} {env:Env} {g ce:Addr} {q:Str} {Q:Env→Shared→Prop}
  (h:Q { newEnv nComp s.heap.objs.size g (nCells (s.heap.objs.size+1) ce) q none .none (some env) 0 with scope:=nComp } { s with heap:=(s.heap.push dictO).push cellO }) :
  wpAny M A (newFunctionEnv nComp g [(Str.ofString "ends",ce)] [] q none .none (some env)) Q E s := by
 unfold newFunctionEnv
 simp only [Option.isSome_some,if_true]
 refine wpAny_bind (wpAny_alloc ?_)
 refine wpAny_bind (wpAny_layCells _ (fun name kind cells=>by cases hkc:kind == NameKind.cell <;> simp [hkc]) _ _ _ _ ?_)
 refine wpAny_bind ?_
 rw [List.forIn_nil]
 refine wpAny_pure (wpAny_pure ?_)
 have e1:(s.heap.push dictO).objs.size=s.heap.objs.size+1:=Heap.size_push _ _
 show Q { scope := nComp,locals := s.heap.objs.size,globals := g,cells := [(Str.ofString "n",(s.heap.push dictO).objs.size),(Str.ofString "ends",ce)],qual := q,func := none,code := env.code,frame := env.frame,builtins := env.builtins } { s with heap := (s.heap.push dictO).push cellO }
 rw [e1]
 exact h
theorem n_list {d:Nat} (hΓ:Γ.Ok) (hB:B.Ok d) {cl ce:Addr} (hM:MB B cl ce) (p:Nat→Pos) {last:Int} {tl:Tok} {ps:List (Int × Int)} {ve:Value} (h1:1≤last) (h9:last≤9)
  (hcl:Γ.Base.IsCell cl (some (.int last tl))) (hce:Γ.Base.IsCell ce (some ve)) (hre:Rep Γ.Base (.list (ps.map (spanP last))) ve) {H:Heap} {ρ:List Slot} {s:Shared} (hs:St Γ B H ρ s)
  {Q E:Value→Shared→Prop} (hQ:∀ s' H' v,Ext H s H' s'→Rep H' (.list ((memb ps last).map PV.int)) v→Q v s'):wpAny (model prog w) B.A (eval (nList p) B.env) Q E s:=by
 have hrl:Rep Γ.Base (.int last) (.int last tl):=by rw [Rep]; exact ⟨tl,rfl⟩
 have hN:∃ N:Nat,last=(N:Int)∧N≤9:=⟨last.toNat,by omega,by omega⟩
 obtain ⟨N,rfl,hN9⟩:=hN
 unfold nList
 rw [eval_ListComp]
 refine wpAny_comprehension_free (use := none) (cl := [(Str.ofString "ends",ce)]) rfl (fun _ => rfl) (clos_one ⟨[(Str.ofString ".0",.local),(Str.ofString "n",.cell),(Str.ofString "any",.globalImplicit)],rfl,by decide⟩ hM.ends) rfl (by decide) ?_
 unfold nIter
 refine Call_Name rfl (word_name hΓ hB (hM.of rfl) rfl (by decide) Boot.«range» hs ?_)
 have htr : backTo (p 33) (starEach [.Constant (.int 1) 0 (p 29),.BinOp (.Name (Str.ofString "last") (p 30)) .Add (.Constant (.int 1) 0 (p 31)) (p 32)] B.env) = [(false,eval (.Constant (.int 1) 0 (p 29)) B.env),(false,eval (.BinOp (.Name (Str.ofString "last") (p 30)) .Add (.Constant (.int 1) 0 (p 31)) (p 32)) B.env)] := by
  rw [starEach_cons rfl,starEach_cons rfl]; rfl
 rw [htr]
 refine PySem.callWith_type rfl (Calls.evalArgs_plain (Calls.spliced_cons ?_))
 refine (se_lit (prog:=prog) (w:=w) (Γ:=Γ) (B:=B) (v:=.int 1) rfl fun l e=>nomatch e) H ρ s _ _ hs ?_
 intro v1 s1 H1 e1 r1
 refine Calls.spliced_cons ?_
 refine (se_bin (k:=binP .add) (se_cap (prog:=prog) (w:=w) hB (hM.of rfl) hM.last rfl hcl hrl) (se_lit (v:=.int 1) rfl fun l e=>nomatch e) (so_bin (o:=.add) rfl)) H1 ρ s1 _ _ (hs.ext e1) ?_
 intro v2 s2 H2 e2 r2
 refine Calls.spliced_nil ?_
 obtain ⟨t1,rfl⟩:=rep_int r1
 obtain ⟨t2,rfl⟩:=rep_int r2
 have hs2:=(hs.ext e1).ext e2
 refine call_range_2 ?_
 refine wpAny_pyIter_range (IsRange.new ..) (small_one (by decide) (by decide) (by omega) (by omega)) ?_
 have hsz:Builtin.Range.rangeSize 1 ((N:Int)+1) 1=(N:Int):=by rw [rangeSize_one]; split <;> omega
 rw [hsz]
 generalize ho1 : ({ cls := .type "range",data := .fields #[.int 1 t1,.int ((N : Int) + 1) t2,.int 1 s2.toks] } : Obj) = o1
 generalize ho2 : ({ cls := .type "range_iterator",data := .fields #[rawInt 1,rawInt (N : Int),rawInt 1] } : Obj) = o2
 refine wpAny_newObj_type ?_ (by show ([]:List Value).toArray.size≤sizeLine; exact Nat.zero_le _)
 generalize ho3 : ({ cls := .type "list",data := .seq ([] : List Value).toArray } : Obj) = o3
 refine env_n ?_
 have z1:(s2.heap.push o1).objs.size=s2.heap.objs.size+1:=Heap.size_push _ _
 have z2:((s2.heap.push o1).push o2).objs.size=s2.heap.objs.size+2:=by rw [Heap.size_push,z1]
 have z3:(((s2.heap.push o1).push o2).push o3).objs.size=s2.heap.objs.size+3:=by rw [Heap.size_push,z2]
 have z4:((((s2.heap.push o1).push o2).push o3).push dictO).objs.size=s2.heap.objs.size+4:=by rw [Heap.size_push,z3]
 generalize ha:s2.heap.objs.size=a at *
 have kp:s2.heap.StaysIn (((((s2.heap.push o1).push o2).push o3).push dictO).push cellO):=stays_trans (stays_trans (stays_trans (stays_trans (stays_push _ _) (stays_push _ _)) (stays_push _ _)) (stays_push _ _)) (stays_push _ _)
 have none:∀ b,a≤b→s2.heap.get? b=none:=fun b hb=>none_of_size (by rw [ha]; exact hb)
 have gI:(((((s2.heap.push o1).push o2).push o3).push dictO).push cellO).get? (a+1)=some o2:=by
  have:=Heap.get?_push_size (s2.heap.push o1) (o:=o2) (by rw [← ho2]; rfl)
  rw [z1] at this
  exact Heap.get?_push_of_some _ (Heap.get?_push_of_some _ (Heap.get?_push_of_some _ this))
 have gD:(((((s2.heap.push o1).push o2).push o3).push dictO).push cellO).get? (a+2)=some o3:=by
  have:=Heap.get?_push_size ((s2.heap.push o1).push o2) (o:=o3) (by rw [← ho3]; rfl)
  rw [z2] at this
  exact Heap.get?_push_of_some _ (Heap.get?_push_of_some _ this)
 have gc:(((((s2.heap.push o1).push o2).push o3).push dictO).push cellO).get? (a+4)=some cellO:=by
  have:=Heap.get?_push_size ((((s2.heap.push o1).push o2).push o3).push dictO) (o:=cellO) rfl
  rw [z4] at this
  exact this
 have gC:(((((s2.heap.push o1).push o2).push o3).push dictO).push cellO).Ns (a+3) (fun _=>Option.none):=by
  have := Heap.Ns.new (((s2.heap.push o1).push o2).push o3) (.type "dict")
  rw [z3] at this
  exact this.keeps fun b o e=>Heap.get?_push_of_some _ e
 have hNa:B.N₀≤a+3:=by
  obtain ⟨m,_,hn,_,hN,_⟩:=hs2.loc
  have:=hn.lt
  rw [ha] at this
  exact Nat.le_trans hN (Nat.le_trans (Nat.le_of_lt this) (Nat.le_add_right _ _))
 have hC2:H2.get? (a+3)=Option.none:=none_of_stays hs2.stays (none _ (Nat.le_add_right _ _))
 have hit:IsRangeIter (((((s2.heap.push o1).push o2).push o3).push dictO).push cellO) (a+1) (1+((0:Nat):Int) * 1) ((N:Int) - ((0:Nat):Int)) 1:=by
  show _=some _
  rw [gI,← ho2,show (1+((0:Nat):Int) * 1)=1 by rfl,show ((N:Int) - ((0:Nat):Int))=(N:Int) by omega]
 have main:∀ tk,codeAny (model prog w) B.A (.compLoop (nList p) 0 (.ref (a+1)) (.ref (a+2)) (nBl B (a+4) ce (a+3)).env) (compPost (model prog w) B.A E Option.none Q (.ref (a+2)) (a+3)) { s2 with heap:=((((s2.heap.push o1).push o2).push o3).push dictO).push cellO,toks:=tk }:=fun tk=>by
  refine n_loop hΓ hB hM p hce hre hN9 hs2 (none _ (Nat.le_add_right _ _)) (none _ (Nat.le_add_right _ _)) (none _ (Nat.le_add_right _ _)) (none _ (Nat.le_add_right _ _)) (neA (by omega)) (neA (by omega)) (neA (by omega)) (neA (by omega)) (neA (by omega)) (neA (by omega)) hNa (.keeps hs2.stays kp) hit ⟨o3,0,gD,by rw [← ho3],by rw [← ho3],by rw [← ho3]⟩ gC ⟨cellO,gc,rfl⟩ ?_
  intro s' ws m ex hn hO hr
  refine ⟨m,hn,fun h' hsb=>?_⟩
  obtain ⟨H'',e',r',_,_⟩:=comp_data ex hC2 (none _ (Nat.le_add_right _ _)) (none _ (Nat.le_add_right _ _)) (neA (by omega)) hsb.2 hO hr (by
   rw [List.length_map]
   refine Nat.le_trans (List.length_filter_le _ _) ?_
   rw [List.length_map,List.length_range]; omega)
  exact hQ _ H'' _ ((e1.trans e2).trans e') r'
 dsimp only
 rw [z3,z2,z1]
 have W:=Walks.range (prog:=prog) (w:=w) hB.hand (a+1) 1 1 N
 exact codeAny_compStart_list (main _) (W.self 0 _ _ _ hit (main _))
end
end L1
end Mine
namespace Mine
open PySem PySem.W PyProof.Rows
namespace L1
structure MemOk (Γ:Ct):Prop where
 there : ∃ a o params scope pm code doc p,Γ.mg (Str.ofString "_law_members") = some (.ref a) ∧ Γ.Base.get? a = some o ∧ o.data = .func (Calls.docDef (Str.ofString "_law_members") params (memBody p) scope pm code doc) ∧ Γ.Base.CodeRec code (Str.ofString "_law_members") ∧
  (∀ v v' : Value,bindArgs (Calls.docDef (Str.ofString "_law_members") params (memBody p) scope pm code doc) ⟨[v,v'],[]⟩ = pure [(Str.ofString "pairs",v),(Str.ofString "last",v')]) ∧ scope.isCoroutine = false ∧ scope.isGenerator = false ∧ scope.kind = .function ∧ scope.names = memNames
section
variable {prog:Program} {w:World} {Γ:Ct} {B:Bl}
theorem St.lay {d:Nat} (hB:B.Ok d) (hfn:B.fenv.frame=some B.env.locals) {H H':Heap} {ρ:List Slot} {s:Shared} (hno:∀ i l,getS ρ i≠.own l) (hs:St Γ B H ρ s) {a:Addr} (hlt:B.env.locals<a)
  (k1:H.StaysIn H') (k2:H'.StaysIn s.heap) (k4:∀ b,b≠a→H'.get? b=H.get? b):St { Γ with Base:=H' } B H' ρ s:=by
 obtain ⟨m,oa,hn,hl,hN,hsl,hdd⟩:=hs.loc
 have hne:B.env.locals≠a:=Nat.ne_of_lt hlt
 refine ⟨stays_refl _,k2,?_,m,oa,hn,(k4 _ hne).trans hl,hN,fun i x hx=>?_,hdd⟩
 ·have:=hs.frames
  have low:∀ v∈B.fenv::B.outer,∀ L,v.frame=some L→L≠a:=fun v hv L hL=>by
   rcases List.mem_cons.mp hv with rfl | hv
   ·rw [hfn] at hL; obtain rfl:=Option.some.inj hL; exact hne
   ·exact Nat.ne_of_lt (Nat.lt_trans (Nat.lt_of_lt_of_le (hB.low v hv L hL) hN) hlt)
  revert this low
  generalize B.fenv::B.outer=l
  intro this low
  induction l with
  | nil=>trivial
  | cons v r ih =>
   obtain ⟨hk',⟨L',o₁,hf,hnn,ho₁,hd₁⟩,hr⟩:=this
   exact ⟨hk',⟨L',o₁,hf,(k4 L' (low v (.head _) L' hf)).trans hnn,ho₁,hd₁⟩,ih hr fun u hu=>low u (.tail _ hu)⟩
 ·have:=hsl i x hx
  revert this
  cases hg:getS ρ i with
  | unset=>exact fun h=>h
  | val p=>exact fun ⟨v,h1,h2⟩=>⟨v,h1,h2.mono k1⟩
  | own l=>exact absurd hg (hno i l)
theorem con_members (hΓ : Γ.Ok) (hd : MemOk Γ) (d : Nat) (args : List PV) : Con prog w Γ (d + 1) (Str.ofString "_law_members") args (nf_law_members args) := by
 intro a A H l s ws Q E hm hpre hr hp
 unfold nf_law_members at hp
 split at hp
 ·rename_i x y
  refine onL_k (Z:=fun r=>Post Rep l H s r Q E) (P:=fun x=>RepL H [x,y] ws→wpAny (model prog w) A (call (.ref a) ws) Q E s) id hp (fun l' hp hr=>?_) hr
  refine onI_k (Z:=fun r=>Post Rep l H s r Q E) (P:=fun y=>RepL H [.list l',y] ws→wpAny (model prog w) A (call (.ref a) ws) Q E s) id hp (fun last hp hr=>?_) hr
  split at hp
  ·rename_i ps hps
   split at hp
   ·rename_i hcond
    obtain ⟨hl3,h1,h9⟩:=hcond
    obtain ⟨a',o,params,scope,pm,code,doc,p,hm',ho,hdat,hcr,hbind,hco,hgen,hkd,hnm⟩:=hd.there
    rw [hm] at hm'; obtain rfl:a=a':=by simpa using hm'
    have hbs:Γ.Base.StaysIn s.heap:=stays_trans hpre.base hpre.stays
    rw [RepL] at hr
    obtain ⟨v,r,rfl,hv,hr⟩:=hr
    rw [RepL] at hr
    obtain ⟨v',r',rfl,hv',hr⟩:=hr
    rw [RepL] at hr
    subst hr
    obtain ⟨tl,rfl⟩:=rep_int hv'
    refine wpAny_call (codeAny_call_cells (o := o) (fd := Calls.docDef (Str.ofString "_law_members") params (memBody p) scope pm code doc) (body := memBody p) (vals := [v,.int last tl]) (binds := [(Str.ofString "pairs",v),(Str.ofString "last",.int last tl)]) (by have := hpre.depth; lia) (hbs _ _ ho) hdat (hΓ.nolimit.keeps hbs) (hcr.keeps hbs) rfl (hbind v _) rfl
     (fun x hx=>by
      show scope.names.lookup _=_∨(scope.names.lookup _=_∧((cellsFrom _ scope.names []).lookup _).isSome=true)
      rw [hnm]
      simp only [List.mem_cons,List.not_mem_nil,or_false] at hx
      rcases hx with rfl | rfl
      ·left; rfl
      ·right; exact ⟨rfl,rfl⟩) (fun s₁ X=>?_) hco hgen hkd)
    have e4 : (callEnvC (Calls.docDef (Str.ofString "_law_members") params (memBody p) scope pm code doc) s.heap.objs.size a).cells = [(Str.ofString "ends",s.heap.objs.size + 2),(Str.ofString "last",s.heap.objs.size + 1)] := by
     show cellsFrom (s.heap.objs.size+1) scope.names []=_
     rw [hnm]; rfl
    have e1 : (callEnvC (Calls.docDef (Str.ofString "_law_members") params (memBody p) scope pm code doc) s.heap.objs.size a).scope = scope := rfl
    have e2 : (callEnvC (Calls.docDef (Str.ofString "_law_members") params (memBody p) scope pm code doc) s.heap.objs.size a).locals = s.heap.objs.size := rfl
    have e3 : (callEnvC (Calls.docDef (Str.ofString "_law_members") params (memBody p) scope pm code doc) s.heap.objs.size a).frame = some s.heap.objs.size := rfl
    have e5 : (callEnvC (Calls.docDef (Str.ofString "_law_members") params (memBody p) scope pm code doc) s.heap.objs.size a).globals = mainGlobals := rfl
    have e6 : (callEnvC (Calls.docDef (Str.ofString "_law_members") params (memBody p) scope pm code doc) s.heap.objs.size a).builtins = builtinsNs := rfl
    generalize callEnvC (Calls.docDef (Str.ofString "_law_members") params (memBody p) scope pm code doc) s.heap.objs.size a = env at *
    have hnone:∀ k,s.heap.get? (s.heap.objs.size+k)=none:=fun k=>none_of_size (Nat.le_add_right _ _)
    have hHn:∀ k,H.get? (s.heap.objs.size+k)=none:=fun k=>none_of_stays hpre.stays (hnone k)
    let B : Bl := { env := env,fenv := env,outer := l,A := A.deeper env,N₀ := s.heap.objs.size,vs := [Str.ofString "pairs"] }
    have hB:B.Ok d:=by
     refine ⟨by show env.scope.kind = _; rw [e1]; exact hkd,e5,e6,rfl,?_,hpre.hand,?_,?_,by show [Str.ofString "pairs"].Nodup; decide,?_⟩
     ·show A.frames.map (env::·)=some (env::l); rw [hpre.stack]; rfl
     ·show A.depth+1+d≤_; have:=hpre.depth; lia
     ·show A.units+3+8 * d+100≤_; have:=hpre.units; lia
     ·intro v hv L hL
      exact frames_low hpre.frames hv hL
    have hkn : env.kindOf (Str.ofString "pairs") = some .local := by show env.scope.names.lookup _ = _; rw [e1,hnm]; rfl
    have hkl : env.kindOf (Str.ofString "last") = some .cell := by show env.scope.names.lookup _ = _; rw [e1,hnm]; rfl
    have hM:MB B (s.heap.objs.size+1) (s.heap.objs.size+2):=⟨by show env.scope.kind=_; rw [e1]; exact hkd,by show env.scope.names=_; rw [e1,hnm],rfl,by show env.cells.lookup _=_; rw [e4]; rfl,by show env.cells.lookup _=_; rw [e4]; rfl⟩
    have hkeep:s.heap.StaysIn s₁.heap:=X.toInCall.keep
    have hsame:s₁.os=s.os∧s₁.gens=s.gens:=by
     obtain ⟨h₁,tk,e⟩:=X.toInCall.same
     rw [e]; exact ⟨rfl,rfl⟩
    have toExt:∀ {H':Heap} {s':Shared},ExtS s.heap.objs.size H s₁ H' s'→Ext H s H' s':=fun {H' s'} ex =>
     ⟨ex.grow,fun b o hb nf hn=>ex.old b o (Heap.lt_size hb) (hkeep b o hb) nf hn,ex.stays,fun b o hb nf=>ex.ups b o (Heap.lt_size hb) (hkeep b o hb) nf,ex.same.1.trans hsame.1,ex.same.2.trans hsame.2⟩
    have hcl:s₁.heap.IsCell (s.heap.objs.size+1) (some (.int last tl)):=by
     have := X.cell (Str.ofString "last") _ (by rw [e4]; rfl)
     have q : bindC env.kindOf [(Str.ofString "pairs",v),(Str.ofString "last",.int last tl)] (fun _ => none) (Str.ofString "last") = some (.int last tl) := by
      unfold bindC; rw [if_pos hkn]; unfold bindC; rw [if_neg (by rw [hkl]; decide)]; unfold bindC; simp
     rw [q] at this; exact this
    have hce:s₁.heap.IsCell (s.heap.objs.size+2) none:=by
     have := X.cell (Str.ofString "ends") _ (by rw [e4]; rfl)
     have q : bindC env.kindOf [(Str.ofString "pairs",v),(Str.ofString "last",.int last tl)] (fun _ => none) (Str.ofString "ends") = none := by
      unfold bindC; rw [if_pos hkn]; unfold bindC; rw [if_neg (by rw [hkl]; decide)]; unfold bindC
      exact if_neg (by decide)
     rw [q] at this; exact this
    have hst:St Γ B H [.val (.list l')] s₁:=by
     have hff1:s₁.heap.FunFrames H l:=hpre.frames.of_keeps fun b o ho _=>⟨o,hkeep b o ho,rfl⟩
     have hns:=X.toInCall.ns
     rw [e2] at hns
     obtain ⟨ol,es,ep,hol,hdl,_⟩:=id hns
     refine ⟨hpre.base,stays_trans hpre.stays hkeep,⟨?_,⟨s.heap.objs.size,ol,e3,hHn 0,hol,fun vs q=>by rw [hdl] at q; cases q⟩,hff1⟩,_,fun _=>0,by show s₁.heap.Ns env.locals _; rw [e2]; exact hns,by show H.get? env.locals=none; rw [e2]; exact hHn 0,by show s.heap.objs.size≤env.locals; rw [e2]; exact Nat.le_refl _,?_,?_⟩
     ·show env.scope.kind≠.module; rw [e1,hkd]; decide
     ·intro i y hy
      cases i with
      | zero =>
       refine ⟨v,?_,hv⟩
       have : Str.ofString "pairs" = y := Option.some.inj hy
       subst this
       show bindL env.kindOf [(Str.ofString "pairs",v),(Str.ofString "last",.int last tl)] (fun _ => none) (Str.ofString "pairs") = some v
       unfold bindL; rw [if_pos hkn]; unfold bindL; rw [if_neg (by rw [hkl]; decide)]; unfold bindL; simp
      | succ i=>simp [B] at hy
     ·intro i j l1 l2 _ h1
      exact absurd h1 (no_own _ i l1)
    have hfn:B.fenv.frame=some B.env.locals:=by show env.frame=some env.locals; rw [e3,e2]
    have hlt1:B.env.locals<s.heap.objs.size+1:=by show env.locals<_; rw [e2]; exact Nat.lt_succ_self _
    have hlt2:B.env.locals<s.heap.objs.size+2:=Nat.lt_succ_of_lt hlt1
    obtain ⟨ol,hol,hdl⟩:=id hcl
    obtain ⟨H1,k1,k2,k3,k4⟩:=add_exists hst.stays hol
    have hΓ1:Ct.Ok { Γ with Base:=H1 }:=hΓ.up (stays_trans hpre.base k1)
    have hst1:St { Γ with Base:=H1 } B H1 [.val (.list l')] s₁:=St.lay hB hfn (no_own _) hst hlt1 k1 k2 k4
    have x1:ExtS s.heap.objs.size H s₁ H1 s₁:=⟨k1,fun b o hb e nf hn=>(k4 b (fun q=>by rw [q] at hb; exact absurd hb (Nat.not_lt.mpr (Nat.le_succ _)))).trans hn,k2,fun b o hb e nf=>⟨o.slots,e⟩,rfl,rfl⟩
    show wpAny _ B.A (execs (memBody p) B.env) _ _ _
    unfold memBody
    refine wpAny_execs_cons ?_
    have hkE : B.env.kindOf (Str.ofString "ends") = some .cell := hM.of rfl
    refine wpAny_Assign_Name ((se_ends (prog:=prog) (w:=w) hΓ1 hB hM p (last:=last) (t:=tl) ⟨ol,k3,hdl⟩) H1 _ s₁ _ _ hst1 ?_) (by
     show (pure (B.env.blockKind == .function && B.env.kindOf (Str.ofString "ends") == some .local && _ && _) : Sem Bool) = pure false
     rw [hkE,show (some NameKind.cell == some NameKind.local)=false from rfl,Bool.and_false,Bool.false_and,Bool.false_and])
    show Post _ _ _ _ ((mapR (fun v=>aF last [.val v]) l').bind fun vs=>Res.ok (PV.list vs)) _ _
    rw [aF_all last l' ps hps]
    intro ve s₂ H2 e₂ r₂
    have hs₂:=hst1.ext e₂
    have hce₂:s₂.heap.IsCell (s.heap.objs.size+2) none:=cell_ups hce e₂.ups
    have hn2:H2.get? (s.heap.objs.size+2)=none:=by
     obtain ⟨o,ho,hdt⟩:=id hce
     exact e₂.old _ o ho (fun vs q=>by rw [hdt] at q; cases q) ((k4 _ (neA (by omega))).trans (hHn 2))
    refine wpAny_storeName_cell hB.kind hkE hM.ends hce₂ fun h' hc' hsb=>?_
    have hs₃:St { Γ with Base:=H1 } B H2 [.val (.list l')] { s₂ with heap:=h' }:=st_turn hB hfn (no_own _) hs₂ hn2 hlt2 hsb
    obtain ⟨oe,hoe,hde⟩:=id hc'
    obtain ⟨H3,j1,j2,j3,j4⟩:=add_exists hs₃.stays hoe
    have hΓ3:Ct.Ok { Γ with Base:=H3 }:=hΓ.up (stays_trans (stays_trans (stays_trans hpre.base k1) e₂.grow) j1)
    have hs₄:St { Γ with Base:=H3 } B H3 [.val (.list l')] { s₂ with heap:=h' }:=St.lay (Γ:={ Γ with Base:=H1 }) hB hfn (no_own _) hs₃ hlt2 j1 j2 j4
    have x2:ExtS s.heap.objs.size H2 s₂ H3 { s₂ with heap:=h' }:=⟨j1,fun b o hb e nf hn=>(j4 b (fun q=>by rw [q] at hb; exact absurd hb (Nat.not_lt.mpr (Nat.le_add_right _ _)))).trans hn,j2,fun b o hb e nf=>⟨o.slots,(hsb.2 b (fun q=>by rw [q] at hb; exact absurd hb (Nat.not_lt.mpr (Nat.le_add_right _ _)))).trans e⟩,rfl,rfl⟩
    show wpAny _ B.A (execs [.Return (some (nList p)) (p 39)] B.env) _ _ _
    refine wpAny_execs_cons (wpAny_Return_some ?_)
    refine n_list hΓ3 hB hM p h1 h9 (tl:=tl) (ps:=ps) (ve:=ve) ⟨ol,j1 _ _ (e₂.grow _ _ k3),hdl⟩ ⟨oe,j3,hde⟩ (r₂.mono j1) hs₄ fun s' H' v ex r=>?_
    exact hp.ok (toExt (((x1.trans e₂.toS).trans x2).trans ex.toS)) r
   ·exact hp.elim
  ·exact hp.elim
 ·exact hp.elim
end
end L1
end Mine
namespace Mine
open PySem PySem.W PyProof.Rows
namespace L1
noncomputable def memPosL:List Pos:=[⟨0,0,0,0⟩,⟨573,28,573,29⟩,⟨573,33,573,34⟩,⟨573,28,573,34⟩,⟨573,20,573,24⟩,⟨573,40,573,41⟩,⟨573,20,573,41⟩,⟨573,46,573,47⟩,⟨573,51,573,52⟩,⟨573,19,573,53⟩,⟨573,12,573,18⟩,⟨573,12,573,54⟩,⟨573,59,573,60⟩,⟨573,64,573,69⟩,⟨573,11,573,70⟩,⟨574,50,574,51⟩,⟨574,52,574,53⟩,⟨574,50,574,54⟩,⟨574,58,574,59⟩,⟨574,63,574,64⟩,⟨574,65,574,66⟩,⟨574,63,574,67⟩,⟨574,50,574,67⟩,⟨574,72,574,73⟩,⟨574,77,574,81⟩,⟨574,49,574,82⟩,⟨574,45,574,48⟩,⟨574,45,574,83⟩,⟨574,23,574,28⟩,⟨574,29,574,30⟩,⟨574,32,574,36⟩,⟨574,39,574,40⟩,⟨574,32,574,40⟩,⟨574,23,574,41⟩,⟨574,12,574,13⟩,⟨574,18,574,19⟩,⟨574,11,574,84⟩,⟨573,4,573,8⟩,⟨573,4,573,70⟩,⟨574,4,574,84⟩]
noncomputable def memPos (i:Nat):Pos:=(memPosL[i]?).getD ⟨0,0,0,0⟩
noncomputable def memParams : Arguments := { posonlyargs := [],args := [{ arg := "pairs",annotation := none,pos := ⟨572,17,572,22⟩ },{ arg := "last",annotation := none,pos := ⟨572,24,572,28⟩ }],vararg := none,kwonlyargs := [],kw_defaults := [],kwarg := none,defaults := [] }
noncomputable def memScope : Scope := { kind := .function,names := memNames,isGenerator := false,isCoroutine := false,more := [(Str.ofString "fast",.str "pairs"),(Str.ofString "fast",.str "last"),(Str.ofString "fast",.str "p"),(Str.ofString "fast",.str "k"),(Str.ofString "fast",.str "ends"),(Str.ofString "fast",.str "n"),(Str.ofString "fast",.str "e")] }
noncomputable def memIs (p : Program) : Prop := ((recsOf p).find? fun d => d.name == Str.ofString "_law_members").map (fun d => (d.params,d.body,d.scope)) = some (memParams,memBody memPos,memScope)
section
variable {p:Program} {loose:List Str} {mean:ExcName→Option Value} {mg mb:Str→Option Value} {fs gs:List Str} {GV:Nat→Res PV}
theorem mem_of {h:Heap} (T:Top p loose mean mg mb h) (hd:memIs p):MemOk (ctx h mg mb fs gs GV):=by
 unfold memIs at hd
 cases hf : (recsOf p).find? fun d => d.name == Str.ofString "_law_members" with
 | none=>rw [hf] at hd; cases hd
 | some d =>
  rw [hf] at hd
  obtain ⟨nm,pa,bo,sc,ps⟩:=d
  have hn : nm = Str.ofString "_law_members" := by simpa using List.find?_some hf
  simp only [Option.map_some,Option.some.injEq,Prod.mk.injEq] at hd
  obtain ⟨rfl,rfl,rfl⟩:=hd
  subst hn
  obtain ⟨a,o,pm,code,doc,h1,h2,h3,h4⟩:=T.fn _ (List.mem_of_find?_eq_some hf)
  refine ⟨a,o,memParams,memScope,pm,code,doc,memPos,h1,h2,h3,h4,fun v v'=>?_,rfl,rfl,rfl,rfl⟩
  exact bind_plain (names := [Str.ofString "pairs",Str.ofString "last"]) rfl rfl rfl rfl rfl (by decide) rfl
end
theorem flat_rep {H:Heap} {v:Value} {q:PV} (h:flatIs v q=true):Rep H q v:=by
 unfold flatIs at h
 split at h
 ·split at h
  ·rename_i n t
   rw [Rep]; rw [eq_of_beq h]; exact ⟨t,rfl⟩
  ·cases h
 ·rename_i l
  rw [Bool.and_eq_true] at h
  have h1:=h.1
  unfold bytesIs at h1
  split at h1
  ·rename_i b tk
   rw [Rep]
   exact ⟨b,tk,rfl,by simpa using h1,of_decide_eq_true h.2⟩
  ·cases h1
 ·cases h
theorem flats_rep {H:Heap}:∀ {ws:List Value} {ps:List PV},ws.length=ps.length→((ws.zip ps).all fun x=>flatIs x.1 x.2)=true→RepL H ps ws
 | [],[],_,_=>by rw [RepL]
 | [],l::r,h,_=>by cases h
 | w::t,[],h,_=>by cases h
 | w::t,l::r,h,hb=>by
  rw [List.zip_cons_cons,List.all_cons,Bool.and_eq_true] at hb
  rw [RepL]
  exact ⟨w,t,rfl,flat_rep hb.1,flats_rep (Nat.succ.inj h) hb.2⟩
theorem glob_rep {K:Frag} {H:Heap} (hK:K.In H) {v:Value} {q:PV} (h:globIs K v q=true):Rep H q v:=by
 unfold globIs at h
 split at h
 ·split at h
  ·rename_i ps a
   split at h
   ·rename_i o ho
    split at h
    ·rename_i t items n hc hd
     simp only [Bool.and_eq_true,beq_iff_eq,decide_eq_true_eq] at h
     rw [Rep]
     exact ⟨a,items.toList,rfl,⟨o,hK _ _ ho,by rw [hc,h.1.1.1],n,by rw [hd]⟩,h.1.2,flats_rep h.1.1.2 h.2⟩
    ·cases h
   ·cases h
  ·cases h
 ·exact flat_rep h
end L1
end Mine
namespace Mine
open PySem PySem.W PyProof.Rows
namespace L1
section
variable {p:Program} {loose:List Str} {mean:ExcName→Option Value} {mg mb:Str→Option Value} {h:Heap} {fs:List Str}
theorem ctx_ok1 (T:Top p loose mean mg mb h) {K:Frag} (KX:K.In h) (hk:fragOk1 gnames gvals K=true):(ctx h mg mb fs gnames G).Ok:=by
 unfold fragOk1 at hk
 rw [Bool.and_eq_true] at hk
 obtain ⟨hs,hk⟩:=hk
 cases he:fragEs K with
 | none=>rw [he] at hk; cases hk
 | some es =>
  rw [he] at hk
  simp only [Bool.and_eq_true,List.all_eq_true,Option.isNone_iff_eq_none] at hk
  obtain ⟨⟨k1,k2⟩,k3⟩:=hk
  have hmg:∀ x,nsFind es x=mg x:=by
   unfold fragEs at he
   cases ho:K.lookup mainGlobals with
   | none=>rw [ho] at he; cases he
   | some o =>
    rw [ho] at he
    have hg:=KX _ _ ho
    obtain ⟨o',es',ep',ho',hd',_,hf⟩:=T.g
    rw [hg] at ho'; cases ho'
    simp only [hd'] at he
    cases he
    exact hf
  refine ⟨T.g,T.b,T.nolimit,?_,fun x hx=>⟨?_,?_⟩,fun i x q hi hq=>?_,fun i=>?_⟩
  ·unfold statOk at hs
   cases ho:K.lookup cStatics with
   | none=>rw [ho] at hs; cases hs
   | some o =>
    rw [ho] at hs
    simp only at hs
    split at hs
    ·rename_i es' ep' hd
     refine ⟨fun _=>none,⟨o,es',ep',KX _ _ ho,hd,?_,?_⟩,rfl⟩
     ·have:es'=#[]:=by simpa using hs
      subst this; intro e hx; simp at hx
     ·have:es'=#[]:=by simpa using hs
      subst this; intro name; rfl
    ·cases hs
  ·show mg x=none
   rw [← hmg]; exact k1 x hx
  ·refine T.builtins x fun e=>?_
   subst e
   exact absurd hx (by decide)
  ·have hq:G i=.ok q:=hq
   unfold G at hq
   cases hv:gvals[i]? with
   | none=>rw [hv] at hq; cases hq
   | some v =>
    rw [hv] at hq; cases hq
    have hi:gnames[i]?=some x:=hi
    have hz:(x,q)∈gnames.zip gvals:=by
     refine List.mem_of_getElem? (i:=i) ?_
     rw [List.getElem?_zip_eq_some]; exact ⟨hi,hv⟩
    have:=k3 (x,q) hz
    dsimp only at this
    rw [hmg] at this
    cases hm:mg x with
    | none=>rw [hm] at this; cases this
    | some u =>
     rw [hm] at this
     exact ⟨u,hm,glob_rep KX this⟩
  ·show G i≠.exc
   unfold G
   cases gvals[i]? <;> (intro q; cases q)
end
noncomputable def isNat:Option CF→Bool
 | some (.native _)=>true
 | some (.code ..)=>false
 | none=>false
theorem T_nat:((List.range 59).all fun f=>f == 7 || f == 40 || !isNat (T f))=true:=rfl
theorem T_native (f:Nat) (g:List PV→Res PV) (h:T f=some (.native g)):(f=7∧g=nf_decimal)∨(f=40∧g=nf_law_members):=by
 have hf:f<59:=(List.getElem?_eq_some_iff.1 h).1
 have h7:=List.all_eq_true.1 T_nat f (List.mem_range.2 hf)
 rw [h] at h7
 have h8:=(Bool.or_false _).symm.trans h7
 rw [Bool.or_eq_true] at h8
 rcases h8 with e | e
 ·have e:=eq_of_beq e
  subst e; cases h; exact .inl ⟨rfl,rfl⟩
 ·have e:=eq_of_beq e
  subst e; cases h; exact .inr ⟨rfl,rfl⟩
noncomputable def LawTrue:Prop:=∀ xs:List Int,xs.length≤63→den T G 3000 20 58 [.list (xs.map PV.int)]=.ok (.bool true)
end L1
end Mine
namespace Mine
open PySem PySem.W PyProof.Rows
namespace L1
theorem run_law (hlaw:LawTrue) {p:Program} {loose:List Str} {mean:ExcName→Option Value} {mg mb:Str→Option Value} {prog:Program} {w:World} {s:Shared} (Tp:Top p loose mean mg mb s.heap) {K:Frag} (KX:K.In s.heap) (hk:fragOk1 gnames gvals K=true) (hd:defsOk p fnames gnames T=true) (hdec:decIs p) (hmem:memIs p)
  {fa : Addr} (hmg : mg (Str.ofString "law") = some (.ref fa)) {a : Addr} {vs : List Value} {xs : List Int} (hl : s.heap.IsList a vs.toArray) (hi : IntsAre vs xs) (hlen : xs.length ≤ 63)
  {Q E:Value→Shared→Prop} (hQ:∀ s',s.heap.StaysIn s'.heap→s'.os=s.os→s'.gens=s.gens→Q (.bool true) s'):wpAny (model prog w) callerA (call (.ref fa) [.ref a]) Q E s:=by
 have hΓ:(ctx s.heap mg mb fnames gnames G).Ok:=ctx_ok1 Tp KX hk
 have hdf:=defs_of (GV:=G) Tp hd
 have hT:∀ (f:Nat) (x:Str),fnames[f]?=some x→match T f with
   | some (.code vars k cs)=>DefOk (ctx s.heap mg mb fnames gnames G) x vars k cs
   | some (.native g)=>∀ d args,Con prog w (ctx s.heap mg mb fnames gnames G) (d+1) x args (g args)
   | none=>True:=by
  intro f x hx
  cases ht:T f with
  | none=>trivial
  | some c =>
   cases c with
   | code vars k cs=>exact hdf.2 f x hx vars k cs ht
   | native g =>
    rcases T_native f g ht with ⟨rfl,rfl⟩ | ⟨rfl,rfl⟩
    ·have : Str.ofString "_decimal" = x := Option.some.inj hx
     subst this
     intro d args
     exact con_decimal hΓ hdf.1 (dec_of Tp hdec) d args
    ·have : Str.ofString "_law_members" = x := Option.some.inj hx
     subst this
     intro d args
     exact con_members hΓ (mem_of Tp hmem) d args
 refine con_all (prog := prog) (w := w) hΓ T 3000 hdf.1 hT 20 58 (Str.ofString "law") rfl [.list (xs.map PV.int)] fa callerA s.heap [] s [.ref a] Q E hmg
  ⟨stays_refl _,stays_refl _,trivial,rfl,rfl,by decide,by decide⟩ (RepL.one ?_) ?_
 ·rw [Rep]
  exact ⟨a,vs,rfl,hl,by rw [List.length_map]; lia,repl_ints hi⟩
 ·show Post Rep [] s.heap s (den T G 3000 20 58 [.list (xs.map PV.int)]) Q E
  rw [hlaw xs hlen]
  intro v s' H' ex r
  rw [Rep] at r
  subst r
  exact hQ s' (stays_trans ex.grow ex.stays) ex.same.1 ex.same.2
end L1
end Mine
namespace Mine
namespace L1
structure Lf where
 v:PV
 w:List Int
 o:List Int
noncomputable def Lf.pv (l:Lf):PV:=.tuple [l.v,.bytes l.w,.bytes l.o]
noncomputable def at_ {α:Type} (z:α) (l:List α) (n:Int):α:=(l[(n % l.length).toNat]?).getD z
theorem at_mem {α:Type} {z:α} {l:List α} (h:l≠[]) (n:Int):at_ z l n∈l:=by
 have h0:(0:Int)<l.length:=by have:=List.length_pos_iff.2 h; omega
 have h1:=Int.emod_nonneg n (show (l.length:Int)≠0 by omega)
 have h2:=Int.emod_lt_of_pos n h0
 unfold at_
 rw [List.getElem?_eq_getElem (by omega)]
 exact List.getElem_mem _
theorem at_idx {α:Type} (f:α→PV) (z:α) (l:List α) (n:Int) (hl:l≠[]) {m:Int} (hm:m=(l.length:Int)):idxP (.tuple (l.map f)) (.int (n % m))=.ok (f (at_ z l n)):=by
 subst hm
 have h0:(0:Int)<l.length:=by have:=List.length_pos_iff.2 hl; omega
 have h1:=Int.emod_nonneg n (show (l.length:Int)≠0 by omega)
 have h2:=Int.emod_lt_of_pos n h0
 have h3:(n % (l.length:Int)).toNat<l.length:=by omega
 show (if 0≤n % (l.length:Int) then ofI (l.map f)[(n % (l.length:Int)).toNat]? else _)=_
 unfold at_
 rw [if_pos h1,List.getElem?_map,List.getElem?_eq_getElem h3]
 rfl
section
variable {F:Nat→List PV→Res PV} {G:Nat→Res PV} {ρ:List Slot} {a b:CE}
theorem ev_at {α:Type} (f:α→PV) (z:α) (l:List α) {n m:Int} (hl:l≠[]) (h1:evE F G a ρ=.ok (.tuple (l.map f))) (h2:evE F G b ρ=.ok (.int (n % m))) (hm:m=(l.length:Int)):evE F G (.idx a b) ρ=.ok (f (at_ z l n)):=by
 rw [xidx,h1,b_ok,h2,b_ok,at_idx f z l n hl hm]
theorem ev_addb {x y:List Int} (h1:evE F G a ρ=.ok (.bytes x)) (h2:evE F G b ρ=.ok (.bytes y)) (hl:x.length+y.length≤lim):evE F G (.bin .add a b) ρ=.ok (.bytes (x++y)):=ev_bin h1 h2 (if_pos hl)
theorem ev_mk1 {c:Int} (h1:evE F G a ρ=.ok (.int c)) (hc:0≤c∧c<256):evE F G (.mkBytes (.lst [a])) ρ=.ok (.bytes [c]):=by
 rw [xmkB,xlst,xE1,h1]
 show bytesP (.list [.int c])=_
 exact if_pos (fun n hn=>by rw [List.mem_singleton.1 hn]; exact hc)
end
noncomputable def nils:List (List Int):=[[110,105,108],[78,105,108],[110,73,76]]
noncomputable def nums:List (Int × List Int):=[(0,[48]),(1,[49]),(9,[57]),(10,[49,48]),(4294967295,[52,50,57,52,57,54,55,50,57,53]),(20,[50,48])]
noncomputable def zeros:List (List Int):=[[],[48],[48,48]]
noncomputable def pres:List (List Int):=[[],[92],[55]]
noncomputable def goods:List Int:=[33,35,36,38,39,43,44,47,58,78,91,94,122,124,125,126]
noncomputable def posts:List (List Int):=[[],[57],[107,57]]
noncomputable def chars:List Int:=[34,92,1,9,11,12,14,127,10,13,128,255]
noncomputable def bodyT (m:List Int):List (List Int):=[[],m,[113]++m++[122],m++List.replicate 39 109,m++List.replicate 40 109]
noncomputable def tails:List (List Int):=[[48],[49],[51],[52,48],[52,49]]
noncomputable def nilL (o:List Int):Lf:=⟨nilV,[78,73,76],o⟩
noncomputable def numL (n:Int × List Int) (z:List Int):Lf:=⟨numV n.1,n.2,z++n.2⟩
noncomputable def atomL (p:List Int) (c:Int) (q:List Int):Lf:=⟨atomV (p++[c]++q),p++[c]++q,p++[c]++q⟩
noncomputable def shownOf (i:Nat) (m:List Int):List Int:=if i<2 then [92]++m else m
noncomputable def strL (i j:Nat):Lf :=
 let m:=[(chars[i]?).getD 0]
 let body:=((bodyT m)[j]?).getD []
 let tail:=(tails[j]?).getD []++[125,13,10]++body
 if j=4∨(7<i∧0<j) then ⟨strV body,[123]++tail,[123,48]++tail⟩ else ⟨strV body,[34]++((bodyT (shownOf i m))[j]?).getD []++[34],[123,48]++tail⟩
noncomputable def leafL (k a b:Int):Lf:=if k % 4=0 then nilL (at_ [] nils a) else if k % 4=1 then numL (at_ (0,[]) nums a) (at_ [] zeros b) else if k % 4=2 then atomL (at_ [] pres b) (at_ 0 goods a) (at_ [] posts (k / 4))
 else strL (a % 12).toNat (b % 5).toNat
noncomputable def leafAll:List Lf:=nils.map nilL++nums.flatMap (fun n=>zeros.map (numL n))++pres.flatMap (fun p=>goods.flatMap fun c=>posts.map (atomL p c))++(List.range 12).flatMap fun i=>(List.range 5).map (strL i)
theorem leaf_mem (k a b:Int):leafL k a b∈leafAll:=by
 unfold leafL leafAll
 have ha:=Int.emod_nonneg a (show (12:Int)≠0 by decide)
 have ha2:=Int.emod_lt_of_pos a (show (0:Int)<12 by decide)
 have hb:=Int.emod_nonneg b (show (5:Int)≠0 by decide)
 have hb2:=Int.emod_lt_of_pos b (show (0:Int)<5 by decide)
 split
 ·exact List.mem_append_left _ (List.mem_append_left _ (List.mem_append_left _ (List.mem_map_of_mem (at_mem (by decide) a))))
 ·split
  ·exact List.mem_append_left _ (List.mem_append_left _ (List.mem_append_right _ (List.mem_flatMap.2 ⟨_,at_mem (by decide) a,List.mem_map_of_mem (at_mem (by decide) b)⟩)))
  ·split
   ·exact List.mem_append_left _ (List.mem_append_right _ (List.mem_flatMap.2 ⟨_,at_mem (by decide) b,List.mem_flatMap.2 ⟨_,at_mem (by decide) a,List.mem_map_of_mem (at_mem (by decide) (k / 4))⟩⟩))
   ·exact List.mem_append_right _ (List.mem_flatMap.2 ⟨_,List.mem_range.2 (by omega),List.mem_map_of_mem (List.mem_range.2 (by omega))⟩)
end L1
end Mine
namespace Mine
namespace L1
theorem lenI {l:List (List Int)} {n:Nat} (h:(l.all fun x=>decide (x.length≤n))=true) {x:List Int} (hx:x∈l):x.length≤n:=of_decide_eq_true (List.all_eq_true.1 h x hx)
section
variable {W d:Nat}
theorem d_body1 (c b:Int):den T G W (d+1) 36 [.bytes [c],.int b]=.ok (.bytes (at_ [] (bodyT [c]) b)):=by
 rw [den_code (T:=T) (f:=36) (vs:=vf_law_body) (k:=2) (body:=cf_law_body) rfl rfl]
 exact go (rr (ev_at PV.bytes [] (bodyT [c]) (by intro h; cases h) rfl rfl rfl))
theorem d_body2 (x c b:Int):den T G W (d+1) 36 [.bytes [x,c],.int b]=.ok (.bytes (at_ [] (bodyT [x,c]) b)):=by
 rw [den_code (T:=T) (f:=36) (vs:=vf_law_body) (k:=2) (body:=cf_law_body) rfl rfl]
 exact go (rr (ev_at PV.bytes [] (bodyT [x,c]) (by intro h; cases h) rfl rfl rfl))
theorem mul0 (b:Int):binP .mul (.bytes [48]) (.int (b % 3))=.ok (.bytes (at_ [] zeros b)):=by
 have h1:=Int.emod_nonneg b (show (3:Int)≠0 by decide)
 have h2:=Int.emod_lt_of_pos b (show (0:Int)<3 by decide)
 show _=Res.ok (PV.bytes ((zeros[(b % 3).toNat]?).getD []))
 generalize b % 3=n at h1 h2
 obtain ⟨n,rfl⟩:=Int.eq_ofNat_of_zero_le h1
 match n,h2 with
 | 0,_=>rfl
 | 1,_=>rfl
 | 2,_=>rfl
theorem small {x y m n:Nat} (hx:x≤m) (hy:y≤n) (h:m+n≤100000):x+y≤lim:=Nat.le_trans (Nat.add_le_add hx hy) (Nat.le_trans h (by decide))
theorem body_len {m x:List Int} (hx:x∈bodyT m):x.length≤m.length+40:=by
 unfold bodyT at hx
 simp only [List.mem_cons,List.not_mem_nil,or_false] at hx
 rcases hx with rfl | rfl | rfl | rfl | rfl
 ·exact Nat.zero_le _
 ·exact Nat.le_add_right _ _
 ·rw [List.length_append,List.length_append]; show 1+m.length+1≤_; omega
 ·rw [List.length_append,List.length_replicate]; omega
 ·rw [List.length_append,List.length_replicate]; exact Nat.le_refl _
theorem body_ne (m:List Int):bodyT m≠[]:=by intro h; cases h
theorem d_bodyS (P:Prop) [Decidable P] (c b:Int):den T G W (d+1) 36 [.bytes (if P then [92,c] else [c]),.int b]=.ok (.bytes (at_ [] (bodyT (if P then [92,c] else [c])) b)):=by
 split
 ·exact d_body2 92 c b
 ·exact d_body1 c b
theorem d_leaf1 (k a b:Int):den T G W (d+2) 37 [.int k,.int a,.int b]=.ok (leafL k a b).pv:=by
 rw [den_code (T:=T) (f:=37) (vs:=vf_law_leaf) (k:=3) (body:=cf_law_leaf) rfl rfl]
 refine go ?_
 unfold leafL
 by_cases h0:k % 4=0
 ·rw [if_pos h0]
  exact ry (bT (decide_eq_true h0)) (rr (nm rfl rfl (ev_at PV.bytes [] nils (by decide) rfl rfl rfl)))
 refine rf0 (bF (decide_eq_false h0)) ?_
 rw [if_neg h0]
 by_cases h1:k % 4=1
 ·rw [if_pos h1]
  exact ry (bT (decide_eq_true h1)) (rs (ev_at (fun p:Int × List Int=>PV.int p.1) (0,[]) nums (by decide) rfl rfl rfl) (rs (ev_at (fun p:Int × List Int=>PV.bytes p.2) (0,[]) nums (by decide) rfl rfl rfl)
   (rr (nm rfl rfl (ev_addb (ev_bin rfl rfl (mul0 b)) rfl (small (lenI (n:=2) (by decide) (at_mem (by decide) b)) (of_decide_eq_true (List.all_eq_true.1 (show (nums.all fun x=>decide (x.2.length≤10))=true by decide) _ (at_mem (by decide) a))) (by decide)))))))
 refine rf0 (bF (decide_eq_false h1)) ?_
 rw [if_neg h1]
 by_cases h2:k % 4=2
 ·rw [if_pos h2]
  have hc:0≤at_ 0 goods a∧at_ 0 goods a<256:=of_decide_eq_true (List.all_eq_true.1 (show (goods.all fun x=>decide (0≤x∧x<256))=true by decide) _ (at_mem (by decide) a))
  have hp:=lenI (n:=1) (show (pres.all fun x=>decide (x.length≤1))=true by decide) (at_mem (z:=[]) (by decide) b)
  have hq:=lenI (n:=2) (show (posts.all fun x=>decide (x.length≤2))=true by decide) (at_mem (z:=[]) (by decide) (k / 4))
  exact ry (bT (decide_eq_true h2)) (rs (ev_addb (ev_addb (ev_at PV.bytes [] pres (by decide) rfl rfl rfl) (ev_mk1 (ev_at PV.int 0 goods (by decide) rfl rfl rfl) hc) (small hp (Nat.le_refl 1) (by decide))) (ev_at PV.bytes [] posts (by decide) rfl rfl rfl) (by
   rw [List.length_append]; exact small (Nat.add_le_add hp (Nat.le_refl 1)) hq (by decide))) (rr rfl))
 refine rf0 (bF (decide_eq_false h2)) ?_
 rw [if_neg h2]
 have hc:0≤at_ 0 chars a∧at_ 0 chars a<256:=of_decide_eq_true (List.all_eq_true.1 (show (chars.all fun x=>decide (0≤x∧x<256))=true by decide) _ (at_mem (by decide) a))
 have ha:=Int.emod_nonneg a (show (12:Int)≠0 by decide)
 have hb:=Int.emod_nonneg b (show (5:Int)≠0 by decide)
 have ht:=lenI (n:=2) (show (tails.all fun x=>decide (x.length≤2))=true by decide) (at_mem (z:=[]) (by decide) b)
 have hB:(at_ [] (bodyT [at_ 0 chars a]) b).length≤41:=body_len (at_mem (body_ne _) b)
 have hS:(at_ [] (bodyT (if a % 12<2 then [92,at_ 0 chars a] else [at_ 0 chars a])) b).length≤42:=Nat.le_trans (body_len (at_mem (body_ne _) b)) (by split; (· exact Nat.le_refl 42); (· exact Nat.le_succ 41))
 have hsh:shownOf (a % 12).toNat [at_ 0 chars a]=if a % 12<2 then [92,at_ 0 chars a] else [at_ 0 chars a]:=ite_congr (propext ⟨fun e=>Int.not_le.1 fun hh=>Nat.not_le.2 e (Int.ofNat_le.1 (by rw [Int.toNat_of_nonneg ha]; exact hh)),fun e=>Int.ofNat_lt.1 (by rw [Int.toNat_of_nonneg ha]; exact e)⟩) (fun _=>rfl) fun _=>rfl
 have hT:(at_ [] tails b++[125,13,10]++at_ [] (bodyT [at_ 0 chars a]) b).length≤46:=by
  rw [List.length_append,List.length_append]; exact Nat.add_le_add (Nat.add_le_add ht (Nat.le_refl 3)) hB
 refine rs (ev_mk1 (ev_at PV.int 0 chars (by decide) rfl rfl rfl) hc) (rs rfl (rn (if_put PV.bytes (P:=a % 12<2) (x:=[92,at_ 0 chars a]) (y:=[at_ 0 chars a]) rfl (fun _=>rfl) rfl) (rs (d_body1 (at_ 0 chars a) b) (rs (ev_addb (ev_addb (ev_at PV.bytes [] tails (by decide) rfl rfl rfl) rfl (small ht (Nat.le_refl 3) (by decide))) rfl (by
  rw [List.length_append]; exact small (Nat.add_le_add ht (Nat.le_refl 3)) hB (by decide))) ?_))))
 have hcond:((decide (b % 5=4) || (decide (7<a % 12) && decide (0<b % 5)))=true)↔((b % 5).toNat=4∨(7<(a % 12).toNat∧0<(b % 5).toNat)):=by
  rw [Bool.or_eq_true,Bool.and_eq_true,decide_eq_true_iff,decide_eq_true_iff,decide_eq_true_iff]
  exact or_congr ⟨fun e=>congrArg Int.toNat e,fun e=>by rw [← Int.toNat_of_nonneg hb,e]; rfl⟩ (and_congr Int.lt_toNat.symm Int.lt_toNat.symm)
 by_cases hP:(b % 5).toNat=4∨(7<(a % 12).toNat∧0<(b % 5).toNat)
 ·refine Eq.trans (ry (Eq.trans (bd (ev_or2 rfl (ev_and2 rfl rfl)) hcond) (bT (decide_eq_true hP))) (rr (nm rfl (ev_addb rfl rfl (small (Nat.le_refl 1) hT (by decide))) (ev_addb rfl rfl (small (Nat.le_refl 2) hT (by decide)))))) ?_
  unfold strL; rw [if_pos hP]; rfl
 ·refine Eq.trans (rf0 (Eq.trans (bd (ev_or2 rfl (ev_and2 rfl rfl)) hcond) (bF (decide_eq_false hP))) (rr (nm rfl (ev_addb (ev_addb rfl (d_bodyS (a % 12<2) (at_ 0 chars a) b) (small (Nat.le_refl 1) hS (by decide))) rfl (by
   rw [List.length_append]; exact small (Nat.add_le_add (Nat.le_refl 1) hS) (Nat.le_refl 1) (by decide))) (ev_addb rfl rfl (small (Nat.le_refl 2) hT (by decide)))))) ?_
  unfold strL; rw [if_neg hP]
  show Res.ok (PV.tuple [_,.bytes ([34]++at_ [] (bodyT (if a % 12<2 then [92,at_ 0 chars a] else [at_ 0 chars a])) b++[34]),_])=Res.ok (PV.tuple [_,.bytes ([34]++at_ [] (bodyT (shownOf (a % 12).toNat [at_ 0 chars a])) b++[34]),_])
  rw [hsh]; rfl
end
end L1
end Mine
namespace Mine
namespace L1
structure Vl where
 v:PV
 w:List Int
 o:List Int
 n:Nat
noncomputable def Vl.pv (l:Vl):PV:=.tuple [l.v,.bytes l.w,.bytes l.o,.int l.n]
noncomputable def pack2 (a b:List Int):List Int:=[40]++a++[32]++b++[41]
noncomputable def pack3 (a b:List Int):List Int:=[40]++a++[32,40]++b++[41,32]++b++[41]
noncomputable def valL (k:Int) (x y:Lf):Vl:=if k % 4=0 then ⟨x.v,x.w,x.o,0⟩ else if k % 4=1 then ⟨listV [],[40,41],[40,41],1⟩ else if k % 4=2 then ⟨listV [x.v,y.v],pack2 x.w y.w,pack2 x.o y.o,1⟩
 else ⟨listV [x.v,listV [y.v],y.v],pack3 x.w y.w,pack3 x.o y.o,2⟩
structure Lf.Sm (l:Lf):Prop where
 w:l.w.length≤60
 o:l.o.length≤60
theorem leaf_sm:(leafAll.all fun l=>decide (l.w.length≤60) && decide (l.o.length≤60))=true:=by decide +kernel
theorem sm_of {l:Lf} (h:l∈leafAll):l.Sm:=by
 have:=List.all_eq_true.1 leaf_sm l h
 rw [Bool.and_eq_true] at this
 exact ⟨of_decide_eq_true this.1,of_decide_eq_true this.2⟩
section
variable {W d:Nat}
section
variable {F:Nat→List PV→Res PV} {G:Nat→Res PV} {ρ:List Slot} {a b c e f:CE}
noncomputable def EB (F:Nat→List PV→Res PV) (G:Nat→Res PV) (ρ:List Slot) (e:CE) (x:List Int) (n:Nat):Prop:=evE F G e ρ=.ok (.bytes x)∧x.length≤n
theorem EB.add {x y:List Int} {p q:Nat} (h1:EB F G ρ a x p) (h2:EB F G ρ b y q) (h:p+q≤100000):EB F G ρ (.bin .add a b) (x++y) (p+q) :=
 ⟨ev_addb h1.1 h2.1 (small h1.2 h2.2 h),by rw [List.length_append]; exact Nat.add_le_add h1.2 h2.2⟩
theorem EB.lit {x:List Int}:EB F G ρ (.lit (.bytes x)) x x.length:=⟨rfl,Nat.le_refl _⟩
theorem tup4 {w x y z:PV} (h1:evE F G a ρ=.ok w) (h2:evE F G b ρ=.ok x) (h3:evE F G c ρ=.ok y) (h4:evE F G e ρ=.ok z):evE F G (.tup [a,b,c,e]) ρ=.ok (.tuple [w,x,y,z]):=by
 rw [xtup,xE1,h1,b_ok,xE1,h2,b_ok,xE1,h3,b_ok,xE1,h4]; rfl
end
theorem d_value1 (k:Int) {x y:Lf} (hx:x.Sm) (hy:y.Sm):den T G W (d+1) 38 [.int k,x.pv,y.pv]=.ok (valL k x y).pv:=by
 rw [den_code (T:=T) (f:=38) (vs:=vf_law_value) (k:=3) (body:=cf_law_value) rfl rfl]
 refine go ?_
 unfold valL
 by_cases h0:k % 4=0
 ·rw [if_pos h0]; exact ry (bT (decide_eq_true h0)) (rr rfl)
 refine rf0 (bF (decide_eq_false h0)) ?_
 rw [if_neg h0]
 by_cases h1:k % 4=1
 ·rw [if_pos h1]; exact ry (bT (decide_eq_true h1)) (rr rfl)
 refine rf0 (bF (decide_eq_false h1)) ?_
 rw [if_neg h1]
 by_cases h2:k % 4=2
 ·rw [if_pos h2]
  exact ry (bT (decide_eq_true h2)) (rr (tup4 rfl (((((EB.lit.add ⟨rfl,hx.w⟩ (by decide)).add .lit (by decide)).add ⟨rfl,hy.w⟩ (by decide)).add .lit (by decide))).1 (((((EB.lit.add ⟨rfl,hx.o⟩ (by decide)).add .lit (by decide)).add ⟨rfl,hy.o⟩ (by decide)).add .lit (by decide))).1 rfl))
 refine rf0 (bF (decide_eq_false h2)) ?_
 rw [if_neg h2]
 exact rs rfl (rr (tup4 rfl ((((((EB.lit.add ⟨rfl,hx.w⟩ (by decide)).add .lit (by decide)).add ⟨rfl,hy.w⟩ (by decide)).add .lit (by decide)).add ⟨rfl,hy.w⟩ (by decide)).add .lit (by decide)).1 ((((((EB.lit.add ⟨rfl,hx.o⟩ (by decide)).add .lit (by decide)).add ⟨rfl,hy.o⟩ (by decide)).add .lit (by decide)).add ⟨rfl,hy.o⟩ (by decide)).add .lit (by decide)).1 rfl))
noncomputable def endsT:List (Int × List Int):=[(0,[42]),(1,[49]),(2,[50]),(4,[52]),(5,[53]),(7,[55]),(9,[57]),(4294967295,[52,50,57,52,57,54,55,50,57,53])]
structure Pr where
 a:Int
 b:Int
 t:List Int
noncomputable def Pr.pv (q:Pr):PV:=.tuple [.int q.a,.int q.b]
noncomputable def Pr.pvt (q:Pr):PV:=.tuple [q.pv,.bytes q.t]
noncomputable def mkPr (l h:Int × List Int):Pr:=⟨l.1,h.1,l.2++[58]++h.2⟩
noncomputable def mkPr1 (l:Int × List Int):Pr:=⟨l.1,l.1,l.2⟩
noncomputable def pairL (c e:Int):Pr:=if c % 8=e % 8 then mkPr1 (at_ (0,[]) endsT c) else mkPr (at_ (0,[]) endsT c) (at_ (0,[]) endsT e)
noncomputable def endPv (p:Int × List Int):PV:=.tuple [.int p.1,.bytes p.2]
theorem end_len {p:Int × List Int} (h:p∈endsT):p.2.length≤10:=of_decide_eq_true (List.all_eq_true.1 (show (endsT.all fun x=>decide (x.2.length≤10))=true by decide) p h)
theorem d_pair1 (c e:Int):den T G W (d+1) 39 [.int c,.int e]=.ok (pairL c e).pvt:=by
 rw [den_code (T:=T) (f:=39) (vs:=vf_law_pair) (k:=2) (body:=cf_law_pair) rfl rfl]
 refine go (rs (v:=.tuple (endsT.map endPv)) rfl (rs (ev_at endPv (0,[]) endsT (by decide) rfl rfl rfl) (rs (ev_at endPv (0,[]) endsT (by decide) rfl rfl rfl) ?_)))
 unfold pairL
 by_cases h:c % 8=e % 8
 ·rw [if_pos h]; exact ry (bT (decide_eq_true h)) (rr rfl)
 ·rw [if_neg h]
  exact rf0 (bF (decide_eq_false h)) (rr (tup2 rfl (((EB.add (x:=(at_ (0,[]) endsT c).2) (p:=10) ⟨rfl,end_len (at_mem (by decide) c)⟩ .lit (by decide)).add (y:=(at_ (0,[]) endsT e).2) (q:=10) ⟨rfl,end_len (at_mem (by decide) e)⟩ (by decide))).1))
end
end L1
end Mine
namespace Mine
namespace L1
structure It1 where
 l:Lf
 r:List PV
noncomputable def It1.pv (i:It1):PV:=.tuple (i.l.v::.bytes i.l.w::.bytes i.l.o::i.r)
noncomputable def firsts:List Lf:=[⟨atomV [83,69,65,82,67,72],[83,69,65,82,67,72],[83,69,65,82,67,72]⟩,⟨atomV [79,75,65,89],[79,75,65,89],[79,75,65,89]⟩,⟨atomV [66,65],[66,65],[66,65]⟩,⟨strV [78,79],[34,78,79,34],[123,50,125,13,10,78,79]⟩,⟨numV 23,[50,51],[48,50,51]⟩,⟨nilV,[78,73,76],[110,105,108]⟩]
noncomputable def bye:Lf:=⟨atomV [66,121,101],[66,121,101],[66,121,101]⟩
noncomputable def numI (n:Int):Lf:=⟨numV n,[48+n],[48,48+n]⟩
noncomputable def zL:Lf:=⟨.none,[],[]⟩
noncomputable def Vl.it (v:Vl):It1:=⟨⟨v.v,v.w,v.o⟩,[.int v.n]⟩
noncomputable def itemsL (f:Int) (want:List Int) (v:Vl):List It1:=[⟨at_ zL firsts f,[]⟩]++want.map (fun n=>⟨numI n,[]⟩)++[⟨bye,[]⟩,v.it]
section
variable {W d:Nat}
theorem nums_map {F:Nat→List PV→Res PV} {G:Nat→Res PV}:∀ (want:List Int),(∀ n∈want,1≤n∧n≤9)→mapR (fun v=>evE F G (.tup [(.tup [(.lit (.str [110,117,109,98,101,114])),(.var 0)]),(.mkBytes (.lst [(.bin .add (.lit (.int 48)) (.var 0))])),(.mkBytes (.lst [(.lit (.int 48)),(.bin .add (.lit (.int 48)) (.var 0))]))]) [.val v]) (want.map PV.int)=.ok ((want.map fun n=>(⟨numI n,[]⟩:It1)).map It1.pv)
 | [],_=>rfl
 | n::r,h=>by
  have hn:=h n List.mem_cons_self
  have hb:bytesP (.list [.int 48,.int (48+n)])=.ok (.bytes [48,48+n]):=if_pos (fun m hm=>by
   simp only [List.mem_cons,List.not_mem_nil,or_false] at hm
   rcases hm with rfl | rfl
   ·decide
   ·omega)
  have e:evE F G (.tup [(.tup [(.lit (.str [110,117,109,98,101,114])),(.var 0)]),(.mkBytes (.lst [(.bin .add (.lit (.int 48)) (.var 0))])),(.mkBytes (.lst [(.lit (.int 48)),(.bin .add (.lit (.int 48)) (.var 0))]))]) [.val (.int n)]=.ok (It1.pv ⟨numI n,[]⟩) :=
   nm rfl (ev_mk1 rfl (by omega)) hb
  rw [List.map_cons,show ∀ (f:PV→Res PV) (a:PV) (l:List PV),mapR f (a::l)=(f a).bind fun b=>(mapR f l).bind fun bs=>.ok (b::bs) from fun _ _ _=>rfl,e,b_ok,nums_map r fun m hm=>h m (List.mem_cons_of_mem _ hm)]
  rfl
theorem d_items1 (f:Int) (want:List Int) (hw:∀ n∈want,1≤n∧n≤9) (hl:want.length≤9) (v:Vl):den T G W (d+1) 41 [.int f,.list (want.map PV.int),v.pv]=.ok (.list ((itemsL f want v).map It1.pv)):=by
 rw [den_code (T:=T) (f:=41) (vs:=vf_law_items) (k:=3) (body:=cf_law_items) rfl rfl]
 have hm:=nums_map (F:=den T G W d) (G:=G) want hw
 have hc:evE (den T G W d) G (.comp (.tup [(.tup [(.lit (.str [110,117,109,98,101,114])),(.var 0)]),(.mkBytes (.lst [(.bin .add (.lit (.int 48)) (.var 0))])),(.mkBytes (.lst [(.lit (.int 48)),(.bin .add (.lit (.int 48)) (.var 0))]))]) (.var 1) none) (putS (startS vf_law_items.length 3 [.int f,.list (want.map PV.int),v.pv]) 3 (.val (.tuple (firsts.map Lf.pv))))=.ok (.list ((want.map fun n=>(⟨numI n,[]⟩:It1)).map It1.pv)):=by
  rw [xcomp]
  show (mapR _ (want.map PV.int)).bind _=_
  rw [hm]; rfl
 have hlen:((want.map fun n=>(⟨numI n,[]⟩:It1)).map It1.pv).length≤9:=by rw [List.length_map,List.length_map]; exact hl
 refine go (rs rfl (rs hc (rr ?_)))
 refine Eq.trans (ev_bin (R:=.ok (.list ((([⟨at_ zL firsts f,[]⟩]:List It1).map It1.pv++(want.map fun n=>(⟨numI n,[]⟩:It1)).map It1.pv)++([⟨bye,[]⟩,v.it]:List It1).map It1.pv))) (ev_bin (R:=.ok (.list (([⟨at_ zL firsts f,[]⟩]:List It1).map It1.pv++(want.map fun n=>(⟨numI n,[]⟩:It1)).map It1.pv))) (x:=.list [(at_ zL firsts f).pv]) ?_ rfl (if_pos (small (Nat.le_refl 1) hlen (by decide)))) rfl (if_pos (by
  rw [List.length_append]; exact small (Nat.add_le_add (Nat.le_refl 1) hlen) (Nat.le_refl 2) (by decide)))) ?_
 ·rw [xlst,xE1,ev_at Lf.pv zL firsts (by decide) rfl rfl rfl]; rfl
 ·unfold itemsL; rw [List.map_append,List.map_append]
theorem glue_len (s:List Int) (n:Nat):∀ cs:List (List Int),(∀ c∈cs,c.length≤n)→(glue s cs).length≤(n+s.length) * cs.length
 | [],_=>Nat.zero_le _
 | [a],h=>by
  show a.length≤(n+s.length) * 1
  have:=h a List.mem_cons_self; omega
 | a::b::r,h=>by
  have ih:=glue_len s n (b::r) fun c hc=>h c (List.mem_cons_of_mem _ hc)
  have ha:=h a List.mem_cons_self
  show (a++s++glue s (b::r)).length≤(n+s.length) * ((b::r).length+1)
  rw [List.length_append,List.length_append,Nat.mul_succ]; omega
theorem chunks_map1:∀ bs:List (List Int),chunksOf (bs.map PV.bytes)=some bs
 | []=>rfl
 | a::r=>by show (chunksOf (r.map PV.bytes)).map (a::·)=_; rw [chunks_map1 r]; rfl
theorem join_ok (s:List Int) (bs:List (List Int)) {n:Nat} (h:∀ c∈bs,c.length≤n) (hl:bs.length≤20) (hs:(n+s.length) * 20≤100000):joinP (.bytes s) (.list (bs.map PV.bytes))=.ok (.bytes (glue s bs)):=by
 show (match chunksOf (bs.map PV.bytes) with | some cs=>if (bs.map PV.bytes).length≤lim∧(glue s cs).length≤lim then Res.ok (PV.bytes (glue s cs)) else .stuck | none=>.stuck)=_
 rw [chunks_map1]
 refine if_pos ⟨?_,?_⟩
 ·rw [List.length_map]; exact Nat.le_trans hl (by decide)
 ·exact Nat.le_trans (glue_len s n bs h) (Nat.le_trans (Nat.mul_le_mul_left _ hl) (Nat.le_trans hs (by decide)))
theorem map_at {F:Nat→List PV→Res PV} {G:Nat→Res PV} (k:Int) (g:It1→PV) (h:∀ i:It1,idxP i.pv (.int k)=.ok (g i)):∀ its:List It1,mapR (fun v=>evE F G (.idx (.var 0) (.lit (.int k))) [.val v]) (its.map It1.pv)=.ok (its.map g)
 | []=>rfl
 | a::r=>by
  show (idxP a.pv (.int k)).bind (fun b=>(mapR (fun v=>evE F G (.idx (.var 0) (.lit (.int k))) [.val v]) (r.map It1.pv)).bind fun bs=>Res.ok (b::bs))=_
  rw [h a,map_at k g h r]; rfl
theorem ev_col {F:Nat→List PV→Res PV} {G:Nat→Res PV} {ρ:List Slot} {e:CE} (k:Int) (g:It1→PV) (h:∀ i:It1,idxP i.pv (.int k)=.ok (g i)) {its:List It1} (he:evE F G e ρ=.ok (.list (its.map It1.pv))):evE F G (.comp (.idx (.var 0) (.lit (.int k))) e none) ρ=.ok (.list (its.map g)):=by
 rw [xcomp,he]
 show (mapR (fun v=>evE F G (.idx (.var 0) (.lit (.int k))) [.val v]) (its.map It1.pv)).bind _=_
 rw [map_at k g h its]; rfl
theorem ev_join {F:Nat→List PV→Res PV} {G:Nat→Res PV} {ρ:List Slot} {a b:CE} {x y:PV} {R:Res PV} (h1:evE F G a ρ=.ok x) (h2:evE F G b ρ=.ok y) (h3:joinP x y=R):evE F G (.join a b) ρ=R:=by
 rw [xjoin,h1,b_ok,h2,b_ok,h3]
end
end L1
end Mine
namespace Mine
namespace L1
structure Ln where
 v:PV
 w:List Int
 o:List Int
noncomputable def Ln.pv (l:Ln):PV:=.tuple [l.v,.bytes l.w,.bytes l.o]
noncomputable def sCont:PV:=.str [99,111,110,116,105,110,117,101]
noncomputable def sData:PV:=.str [100,97,116,97]
noncomputable def sStat:PV:=.str [115,116,97,116,117,115]
noncomputable def words4:List (List Int):=[[79,75],[78,79],[66,65,68],[66,89,69]]
noncomputable def loose4:List (List Int):=[[111,75],[110,111],[66,97,100],[98,89,69]]
noncomputable def wiresOf (its:List It1):List Int:=glue [32] (its.map fun i=>i.l.w)
noncomputable def looseOf (its:List It1):List Int:=glue [32] (its.map fun i=>i.l.o)
noncomputable def valsOf (its:List It1):List PV:=its.map fun i=>i.l.v
noncomputable def lineL (k w:Int) (said tag:List Int) (its:List It1):Ln :=
 if k % 6=0 then ⟨.tuple [sCont,.bytes said],[43,32]++said++[13,10],[43,32]++said++[13,10]⟩
 else if k % 6=1 then ⟨.tuple [sData,.list (valsOf its)],[42,32]++wiresOf its++[13,10],[42,32]++looseOf its++[13,10]⟩
 else if k % 6<4 then ⟨.tuple [sStat,.bytes (at_ [] [tag,[]] k),.bytes (at_ [] words4 w),.none,.bytes said],at_ [] [tag,[42]] k++[32]++at_ [] words4 w++[32]++said++[13,10],at_ [] [tag,[42]] k++[32]++at_ [] loose4 w++[32]++said++[13,10]⟩
 else ⟨.tuple [sStat,.bytes (at_ [] [tag,[]] k),.bytes (at_ [] words4 w),.list (valsOf its),.bytes said],at_ [] [tag,[42]] k++[32]++at_ [] words4 w++[32]++[91]++wiresOf its++[93,32]++said++[13,10],at_ [] [tag,[42]] k++[32]++at_ [] loose4 w++[32]++[91]++looseOf its++[93,32]++said++[13,10]⟩
theorem at2_len {l:List (List Int)} {n:Nat} (hl:l≠[]) (h:∀ x∈l,x.length≤n) (k:Int):(at_ [] l k).length≤n:=h _ (at_mem hl k)
section
variable {W d:Nat}
theorem d_line1 (k w:Int) {said tag:List Int} (hs:said.length≤3) (ht:tag.length≤2) {its:List It1} (hl:its.length≤20) (hw:∀ i∈its,i.l.w.length≤250∧i.l.o.length≤250) :
  den T G W (d+1) 42 [.int k,.int w,.bytes said,.bytes tag,.list (its.map It1.pv)]=.ok (lineL k w said tag its).pv:=by
 rw [den_code (T:=T) (f:=42) (vs:=vf_law_line) (k:=5) (body:=cf_law_line) rfl rfl]
 have jw:=join_ok [32] (its.map fun i=>i.l.w) (n:=250) (fun c hc=>by obtain ⟨i,hi,rfl⟩:=List.mem_map.1 hc; exact (hw i hi).1) (by rw [List.length_map]; exact hl) (by decide)
 have jo:=join_ok [32] (its.map fun i=>i.l.o) (n:=250) (fun c hc=>by obtain ⟨i,hi,rfl⟩:=List.mem_map.1 hc; exact (hw i hi).2) (by rw [List.length_map]; exact hl) (by decide)
 rw [List.map_map] at jw jo
 have lw:(wiresOf its).length≤5020:=Nat.le_trans (glue_len [32] 250 _ fun c hc=>by obtain ⟨i,hi,rfl⟩:=List.mem_map.1 hc; exact (hw i hi).1) (by rw [List.length_map]; exact Nat.mul_le_mul_left 251 hl)
 have lo:(looseOf its).length≤5020:=Nat.le_trans (glue_len [32] 250 _ fun c hc=>by obtain ⟨i,hi,rfl⟩:=List.mem_map.1 hc; exact (hw i hi).2) (by rw [List.length_map]; exact Nat.mul_le_mul_left 251 hl)
 refine go (rs (ev_col 0 (fun i=>i.l.v) (fun _=>rfl) rfl) (rs (ev_join (R:=.ok (.bytes (wiresOf its))) rfl (ev_col 1 (fun i=>.bytes i.l.w) (fun _=>rfl) rfl) jw) (rs (ev_join (R:=.ok (.bytes (looseOf its))) rfl (ev_col 2 (fun i=>.bytes i.l.o) (fun _=>rfl) rfl) jo) ?_)))
 unfold lineL
 by_cases h0:k % 6=0
 ·rw [if_pos h0]
  exact ry (bT (decide_eq_true h0)) (rr (nm rfl ((EB.lit.add ⟨rfl,hs⟩ (by decide)).add .lit (by decide)).1 ((EB.lit.add ⟨rfl,hs⟩ (by decide)).add .lit (by decide)).1))
 refine rf0 (bF (decide_eq_false h0)) ?_
 rw [if_neg h0]
 by_cases h1:k % 6=1
 ·rw [if_pos h1]
  exact ry (bT (decide_eq_true h1)) (rr (nm rfl ((EB.lit.add ⟨rfl,lw⟩ (by decide)).add .lit (by decide)).1 ((EB.lit.add ⟨rfl,lo⟩ (by decide)).add .lit (by decide)).1))
 refine rf0 (bF (decide_eq_false h1)) ?_
 rw [if_neg h1]
 have l4:(at_ [] words4 w).length≤3:=at2_len (by decide) (by decide) w
 have o4:(at_ [] loose4 w).length≤3:=at2_len (by decide) (by decide) w
 have hd2:(at_ [] [tag,[42]] k).length≤2:=at2_len (by intro h; cases h) (by intro x hx; simp only [List.mem_cons,List.not_mem_nil,or_false] at hx; rcases hx with rfl | rfl; (· exact ht); (· exact Nat.le_succ 1)) k
 have hH:EB (den T G W d) G (putS (putS (putS (putS (startS vf_law_line.length 5 [.int k,.int w,.bytes said,.bytes tag,.list (its.map It1.pv)]) 5 (.val (.list (valsOf its)))) 6 (.val (.bytes (wiresOf its)))) 7 (.val (.bytes (looseOf its)))) 8 (.val (.bytes (at_ [] words4 w)))) (.bin .add (.idx (.tup [(.var 3),(.lit (.bytes [42]))]) (.bin .mod (.var 0) (.lit (.int 2)))) (.lit (.bytes [32]))) (at_ [] [tag,[42]] k++[32]) 3 :=
  EB.add (p:=2) (q:=1) ⟨ev_at PV.bytes [] [tag,[42]] (by intro h; cases h) rfl rfl rfl,hd2⟩ .lit (by decide)
 have l3:=hH.2
 refine rs (ev_at PV.bytes [] words4 (by decide) rfl rfl rfl) (rs hH.1 (rs ((EB.add (x:=at_ [] [tag,[42]] k++[32]) (p:=3) ⟨rfl,l3⟩ ⟨ev_at PV.bytes [] loose4 (by decide) rfl rfl rfl,o4⟩ (by decide)).add .lit (by decide)).1 (rs ((EB.add (x:=at_ [] [tag,[42]] k++[32]) (p:=3) ⟨rfl,l3⟩ (y:=at_ [] words4 w) (q:=3) ⟨rfl,l4⟩ (by decide)).add .lit (by decide)).1 (rs (ev_at PV.bytes [] [tag,[]] (by intro h; cases h) rfl rfl rfl) ?_))))
 have l7:(at_ [] [tag,[42]] k++[32]++at_ [] words4 w++[32]).length≤7:=by rw [List.length_append,List.length_append]; exact Nat.add_le_add (Nat.add_le_add l3 l4) (Nat.le_refl 1)
 have o7:(at_ [] [tag,[42]] k++[32]++at_ [] loose4 w++[32]).length≤7:=by rw [List.length_append,List.length_append]; exact Nat.add_le_add (Nat.add_le_add l3 o4) (Nat.le_refl 1)
 by_cases h4:k % 6<4
 ·rw [if_pos h4]
  exact ry (bT (decide_eq_true h4)) (rr (nm rfl ((EB.add (x:=at_ [] [tag,[42]] k++[32]++at_ [] words4 w++[32]) (p:=7) ⟨rfl,l7⟩ (y:=said) (q:=3) ⟨rfl,hs⟩ (by decide)).add .lit (by decide)).1 ((EB.add (x:=at_ [] [tag,[42]] k++[32]++at_ [] loose4 w++[32]) (p:=7) ⟨rfl,o7⟩ (y:=said) (q:=3) ⟨rfl,hs⟩ (by decide)).add .lit (by decide)).1))
 ·rw [if_neg h4]
  exact rf0 (bF (decide_eq_false h4)) (rr (nm rfl (((((EB.add (x:=at_ [] [tag,[42]] k++[32]++at_ [] words4 w++[32]) (p:=7) ⟨rfl,l7⟩ .lit (by decide)).add (y:=wiresOf its) (q:=5020) ⟨rfl,lw⟩ (by decide)).add .lit (by decide)).add (y:=said) (q:=3) ⟨rfl,hs⟩ (by decide)).add .lit (by decide)).1 (((((EB.add (x:=at_ [] [tag,[42]] k++[32]++at_ [] loose4 w++[32]) (p:=7) ⟨rfl,o7⟩ .lit (by decide)).add (y:=looseOf its) (q:=5020) ⟨rfl,lo⟩ (by decide)).add .lit (by decide)).add (y:=said) (q:=3) ⟨rfl,hs⟩ (by decide)).add .lit (by decide)).1))
end
end L1
end Mine
namespace Mine
namespace L1
noncomputable def sPv (p:Int × Int):PV:=.tuple [.int p.1,.int p.2]
noncomputable def spanOf (last:Int) (q:Int × Int):Int × Int:=(min (endOf last q.1) (endOf last q.2),min (max (endOf last q.1) (endOf last q.2)) last)
noncomputable def spansOf (last:Int):List (Int × Int)→List (Int × Int)
 | []=>[]
 | q::r=>if (spanOf last q).1≤(spanOf last q).2 then spanOf last q::spansOf last r else spansOf last r
theorem spans_len (last:Int):∀ ps,(spansOf last ps).length≤ps.length
 | []=>Nat.le_refl _
 | q::r=>by
  unfold spansOf; split
  ·exact Nat.succ_le_succ (spans_len last r)
  ·exact Nat.le_succ_of_le (spans_len last r)
noncomputable def merge1 (a:Int × Int):List (Int × Int)→List (Int × Int)
 | []=>[a]
 | b::r=>if b.1<a.1 then b::merge1 a r else a::b::r
noncomputable def sort3:List (Int × Int)→List (Int × Int)
 | []=>[]
 | a::r=>merge1 a (sort3 r)
noncomputable def memB1:List CS:=[.assignT false [13,14] (.var 3),.if_ (.not_ (.var 13)) [.assign 13 (.var 1)] [],.if_ (.not_ (.var 14)) [.assign 14 (.var 1)] [],.assign 8 (.var 13),.assign 9 (.var 14),.if_ (.cmp .lt (.var 14) (.var 13)) [.assign 8 (.var 14),.assign 9 (.var 13)] [],.assign 10 (.var 9),.if_ (.cmp .lt (.var 1) (.var 9)) [.assign 10 (.var 1)] [],.if_ (.cmp .le (.var 8) (.var 10)) [.app 2 (.tup [(.var 8),(.var 10)])] []]
noncomputable def stM (l:PV) (last:Int) (sp:List PV) (s3 s8 s9 s10 s13 s14:Slot):List Slot:=[.val l,.val (.int last),.own sp,s3,.unset,.unset,.unset,.unset,s8,s9,s10,.unset,.unset,s13,s14]
section
variable {F:Nat→List PV→Res PV} {G:Nat→Res PV} {W:Nat}
theorem to_assignT1 {e:CE} {vs:List PV} {ρ:List Slot} {is:List Nat} (h:evE F G e ρ=.ok (.tuple vs)) (hl:vs.length=is.length):evS F G W (.assignT false is e) ρ=.ok (.next,putsS ρ is vs):=by
 rw [xsetT,h,b_ok]
 show (if vs.length=is.length then Res.ok vs else .stuck).bind _=_
 rw [if_pos hl]; rfl
theorem not_int {ρ:List Slot} {e:CE} {n:Int} (h:evE F G e ρ=.ok (.int n)):evE F G (.not_ e) ρ=.ok (.bool (decide (n=0))):=by
 rw [xnot,h]
 show Res.ok (PV.bool (!(n != 0)))=_
 rw [show (n != 0)=!(decide (n=0)) from rfl,Bool.not_not]
theorem ite_min (a b:Int):(if b<a then b else a)=min a b:=by
 rw [Int.min_def]
 by_cases h:b<a
 ·rw [if_pos h,if_neg (Int.not_le.2 h)]
 ·rw [if_neg h,if_pos (Int.not_lt.1 h)]
theorem ite_max (a b:Int):(if b<a then a else b)=max a b:=by
 rw [Int.max_def]
 by_cases h:b<a
 ·rw [if_pos h,if_neg (Int.not_le.2 h)]
 ·rw [if_neg h,if_pos (Int.not_lt.1 h)]
theorem mem_loop1 (l:PV) (last:Int) (kb kn:List Slot→Res PV) (R:Res PV) (all:List (Int × Int)) (hk:∀ s3 s8 s9 s10 s13 s14,kn (stM l last (all.map sPv) s3 s8 s9 s10 s13 s14)=R):∀ (ps acc:List (Int × Int)) (s3 s8 s9 s10 s13 s14:Slot),acc++spansOf last ps=all→acc.length+ps.length≤10 →
  fr F G W 3 memB1 (ps.map sPv) (stM l last (acc.map sPv) s3 s8 s9 s10 s13 s14) kb kn=R
 | [],acc,s3,s8,s9,s10,s13,s14,h,_=>by
  rw [show acc=all from (List.append_nil acc).symm.trans h]; exact hk ..
 | (a,b)::r,acc,s3,s8,s9,s10,s13,s14,h,hl=>by
  have hl':acc.length+r.length+1≤10:=hl
  have hI:∀ x:Int × Int,x.1=min (endOf last a) (endOf last b)→x.2=min (max (endOf last a) (endOf last b)) last→x=spanOf last (a,b):=fun x h1 h2=>Prod.ext h1 h2
  have hmin:=ite_min (endOf last a) (endOf last b)
  have hmax:=ite_max (endOf last a) (endOf last b)
  refine fr_cons (rn (to_assignT1 (vs:=[.int a,.int b]) rfl rfl) (rn (if_put PV.int (x:=last) (y:=a) (not_int rfl) (fun _=>rfl) rfl) (rn (if_put PV.int (x:=last) (y:=b) (not_int rfl) (fun _=>rfl) rfl) (rs (v:=.int (endOf last a)) rfl (rs (v:=.int (endOf last b)) rfl ?_)))))
  refine rn (if_fun (α:=Int) (β:=Int) (P:=endOf last b<endOf last a) (fun x y=>[.val l,.val (.int last),.own (acc.map sPv),.val (sPv (a,b)),.unset,.unset,.unset,.unset,.val (.int x),.val (.int y),s10,.unset,.unset,.val (.int (endOf last a)),.val (.int (endOf last b))]) (x:=endOf last b) (y:=endOf last a) (x':=endOf last a) (y':=endOf last b) rfl (fun _=>rfl) rfl) ?_
  rw [hmin,hmax]
  refine rs (v:=.int (max (endOf last a) (endOf last b))) rfl (rn (if_put PV.int (P:=last<max (endOf last a) (endOf last b)) (x:=last) (y:=max (endOf last a) (endOf last b)) rfl (fun _=>rfl) rfl) ?_)
  rw [ite_min (max (endOf last a) (endOf last b)) last]
  unfold spansOf at h
  by_cases hle:(spanOf last (a,b)).1≤(spanOf last (a,b)).2
  ·rw [if_pos hle] at h
   refine ry (bT (decide_eq_true hle)) (rap rfl (v:=sPv (spanOf last (a,b))) rfl ?_ (r0 (r0 ?_)))
   ·rw [List.length_map]; exact Nat.lt_of_lt_of_le (show acc.length<10 by omega) (by decide)
   ·have e:acc.map sPv++[sPv (spanOf last (a,b))]=(acc++[spanOf last (a,b)]).map sPv:=by rw [List.map_append]; rfl
    refine Eq.trans (congrArg (fun m=>fr F G W 3 memB1 (r.map sPv) (stM l last m _ _ _ _ _ _) kb kn) e) ?_
    exact mem_loop1 l last kb kn R all hk r (acc++[spanOf last (a,b)]) _ _ _ _ _ _ (by rw [← h,List.append_assoc]; rfl) (by rw [List.length_append]; exact Nat.le_trans (Nat.le_of_eq (Nat.succ_add_eq_add_succ _ _)) hl)
  ·rw [if_neg hle] at h
   exact rf0 (bF (decide_eq_false hle)) (r0 (mem_loop1 l last kb kn R all hk r acc _ _ _ _ _ _ h (Nat.le_of_succ_le hl)))
end
end L1
end Mine
namespace Mine
namespace L1
noncomputable def mrgB:List CS:=[.while_ (.and_ [(.cmp .lt (.var 5) (.len (.var 2))),(.cmp .lt (.var 6) (.len (.var 3)))]) [.if_ (.cmp .lt (.idx (.idx (.var 3) (.var 6)) (.lit (.int 0))) (.idx (.idx (.var 2) (.var 5)) (.lit (.int 0)))) [.app 4 (.idx (.var 3) (.var 6)),.aug 6 .add (.lit (.int 1))] [.app 4 (.idx (.var 2) (.var 5)),.aug 5 .add (.lit (.int 1))]],.while_ (.cmp .lt (.var 5) (.len (.var 2))) [.app 4 (.idx (.var 2) (.var 5)),.aug 5 .add (.lit (.int 1))],.while_ (.cmp .lt (.var 6) (.len (.var 3))) [.app 4 (.idx (.var 3) (.var 6)),.aug 6 .add (.lit (.int 1))],.frz 4,.ret (.var 4)]
theorem sm0:0<lim:=by decide
theorem sm1:1<lim:=by decide
theorem sm2:2<lim:=by decide
section
variable {F:Nat→List PV→Res PV} {G:Nat→Res PV} {kb kn:List Slot→Res PV}
theorem mrg1 (s:Slot) (a x:Int × Int):run F G 3000 mrgB [s,.val (.int 1),.val (.list [sPv a]),.val (.list [sPv x]),.own [],.val (.int 0),.val (.int 0)] kb kn=.ok (.list ((merge1 a [x]).map sPv)):=by
 unfold merge1
 by_cases h:x.1<a.1
 ·rw [if_pos h]
  exact rw0 (wh_y (n:=2999) rfl (ry (bT (decide_eq_true h)) (rap rfl rfl sm0 (rag rfl (r0 (r0 (wh_n (n:=2998) rfl (rw0 (wh_y (n:=2999) rfl (rap rfl rfl sm1 (rag rfl (r0 (wh_n (n:=2998) rfl (rw0 (wh_n (n:=2999) rfl (rfz rfl (rr rfl)))))))))))))))))
 ·rw [if_neg h]
  exact rw0 (wh_y (n:=2999) rfl (rf (bF (decide_eq_false h)) (rap rfl rfl sm0 (rag rfl (r0 (r0 (wh_n (n:=2998) rfl (rw0 (wh_n (n:=2999) rfl (rw0 (wh_y (n:=2999) rfl (rap rfl rfl sm1 (rag rfl (r0 (wh_n (n:=2998) rfl (rfz rfl (rr rfl)))))))))))))))))
theorem mrg2 (s:Slot) (a x y:Int × Int):run F G 3000 mrgB [s,.val (.int 1),.val (.list [sPv a]),.val (.list [sPv x,sPv y]),.own [],.val (.int 0),.val (.int 0)] kb kn=.ok (.list ((merge1 a [x,y]).map sPv)):=by
 unfold merge1
 by_cases h:x.1<a.1
 ·rw [if_pos h]
  refine rw0 (wh_y (n:=2999) rfl (ry (bT (decide_eq_true h)) (rap rfl rfl sm0 (rag rfl (r0 (r0 ?_))))))
  unfold merge1
  by_cases h2:y.1<a.1
  ·rw [if_pos h2]
   exact wh_y (n:=2998) rfl (ry (bT (decide_eq_true h2)) (rap rfl rfl sm1 (rag rfl (r0 (r0 (wh_n (n:=2997) rfl (rw0 (wh_y (n:=2999) rfl (rap rfl rfl sm2 (rag rfl (r0 (wh_n (n:=2998) rfl (rw0 (wh_n (n:=2999) rfl (rfz rfl (rr rfl))))))))))))))))
  ·rw [if_neg h2]
   exact wh_y (n:=2998) rfl (rf (bF (decide_eq_false h2)) (rap rfl rfl sm1 (rag rfl (r0 (r0 (wh_n (n:=2997) rfl (rw0 (wh_n (n:=2999) rfl (rw0 (wh_y (n:=2999) rfl (rap rfl rfl sm2 (rag rfl (r0 (wh_n (n:=2998) rfl (rfz rfl (rr rfl))))))))))))))))
 ·rw [if_neg h]
  exact rw0 (wh_y (n:=2999) rfl (rf (bF (decide_eq_false h)) (rap rfl rfl sm0 (rag rfl (r0 (r0 (wh_n (n:=2998) rfl (rw0 (wh_n (n:=2999) rfl (rw0 (wh_y (n:=2999) rfl (rap rfl rfl sm1 (rag rfl (r0 (wh_y (n:=2998) rfl (rap rfl rfl sm2 (rag rfl (r0 (wh_n (n:=2997) rfl (rfz rfl (rr rfl)))))))))))))))))))))
end
theorem d_sort:∀ (l:List (Int × Int)) (d:Nat),l.length≤3→den T G 3000 (d+l.length+1) 34 [.list (l.map sPv)]=.ok (.list ((sort3 l).map sPv))
 | [],d,_=>by
  rw [den_code (T:=T) (f:=34) (vs:=vf_sort_spans) (k:=1) (body:=cf_sort_spans) rfl rfl]
  exact go (ry rfl (rr rfl))
 | [a],d,_=>by
  rw [den_code (T:=T) (f:=34) (vs:=vf_sort_spans) (k:=1) (body:=cf_sort_spans) rfl rfl]
  exact go (ry rfl (rr rfl))
 | [a,b],d,_=>by
  rw [den_code (T:=T) (f:=34) (vs:=vf_sort_spans) (k:=1) (body:=cf_sort_spans) rfl rfl]
  exact go (rf0 rfl (rs (ev_bin (x:=.int 2) (y:=.int 2) (R:=.ok (.int 1)) rfl rfl rfl) (rs (v:=.list [sPv a]) (d_sort [a] d (by simp)) (rs (v:=.list [sPv b]) (d_sort [b] d (by simp)) (row0 (rs rfl (rs rfl (mrg1 _ a b))))))))
 | [a,b,c],d,_=>by
  rw [den_code (T:=T) (f:=34) (vs:=vf_sort_spans) (k:=1) (body:=cf_sort_spans) rfl rfl]
  refine go (rf0 rfl (rs (ev_bin (x:=.int 3) (y:=.int 2) (R:=.ok (.int 1)) rfl rfl rfl) (rs (v:=.list [sPv a]) (d_sort [a] (d+1) (by simp)) (rs (d_sort [b,c] d (by simp)) (row0 (rs rfl (rs rfl ?_)))))))
  show run _ _ _ mrgB _ _ _=.ok (.list ((merge1 a (sort3 [b,c])).map sPv))
  have:∃ x y,sort3 [b,c]=[x,y]:=by
   show ∃ x y,merge1 b [c]=[x,y]
   unfold merge1; split
   ·exact ⟨_,_,rfl⟩
   ·exact ⟨_,_,rfl⟩
  obtain ⟨x,y,e⟩:=this
  rw [e]
  exact mrg2 _ a x y
 | _::_::_::_::_,_,h=>absurd h (by simp)
end L1
end Mine
namespace Mine
namespace L1
noncomputable def iv (a b:Int):List Int:=(List.range (b+1 - a).toNat).map fun (i:Nat)=>a+(i:Int)
theorem mem_iv {a b x:Int}:x∈iv a b↔a≤x∧x≤b:=by
 unfold iv
 rw [List.mem_map]
 constructor
 ·rintro ⟨i,hi,rfl⟩; have:=List.mem_range.1 hi; omega
 ·intro h; exact ⟨(x - a).toNat,List.mem_range.2 (by omega),by omega⟩
theorem iv_nil {a b:Int} (h:b<a):iv a b=[]:=by
 unfold iv; rw [show (b+1 - a).toNat=0 by omega]; rfl
theorem iv_cons {a b:Int} (h:a≤b):iv a b=a::iv (a+1) b:=by
 unfold iv
 rw [show (b+1 - a).toNat=(b+1 - (a+1)).toNat+1 by omega,List.range_succ_eq_map,List.map_cons,List.map_map]
 refine congr (congrArg _ (by show a+((0:Nat):Int)=a; omega)) (List.map_congr_left fun i _=>?_)
 show a+((i+1:Nat):Int)=a+1+(i:Int); omega
theorem iv_len (a b:Int):(iv a b).length=(b+1 - a).toNat:=by unfold iv; rw [List.length_map,List.length_range]
theorem iv_up (a b:Int):(iv a b).Pairwise (·<·):=by
 unfold iv
 rw [List.pairwise_map]
 exact List.pairwise_lt_range.imp (fun h=>by omega)
theorem up_eq:∀ {l m:List Int},l.Pairwise (·<·)→m.Pairwise (·<·)→(∀ x,x∈l↔x∈m)→l=m
 | [],[],_,_,_=>rfl
 | [],b::m,_,_,h=>by cases (h b).2 List.mem_cons_self
 | a::l,[],_,_,h=>by cases (h a).1 List.mem_cons_self
 | a::l,b::m,hl,hm,h=>by
  have hl':=List.pairwise_cons.1 hl
  have hm':=List.pairwise_cons.1 hm
  have e:a=b:=by
   rcases List.mem_cons.1 ((h a).1 List.mem_cons_self) with e | e
   ·exact e
   ·rcases List.mem_cons.1 ((h b).2 List.mem_cons_self) with e' | e'
    ·exact e'.symm
    ·have:=hm'.1 a e; have:=hl'.1 b e'; omega
  subst e
  refine congrArg _ (up_eq hl'.2 hm'.2 fun x=>⟨fun hx=>?_,fun hx=>?_⟩)
  ·rcases List.mem_cons.1 ((h x).1 (List.mem_cons_of_mem _ hx)) with e | e
   ·have:=hl'.1 x hx; omega
   ·exact e
  ·rcases List.mem_cons.1 ((h x).2 (List.mem_cons_of_mem _ hx)) with e | e
   ·have:=hm'.1 x hx; omega
   ·exact e
noncomputable def stt (h:Bool) (done:Int) (s:Int × Int):Int:=if (h && decide (s.1≤done))=true then done+1 else s.1
noncomputable def nxt (h:Bool) (done:Int) (s:Int × Int):Int:=if h=true then (if done<s.2 then s.2 else done) else s.2
noncomputable def sweep:List (Int × Int)→List Int→Bool→Int→List Int
 | [],out,_,_=>out
 | s::r,out,h,done=>sweep r (out++iv (stt h done s) s.2) true (nxt h done s)
theorem sweep_ok:∀ (r p:List (Int × Int)) (out:List Int) (h:Bool) (done:Int),(∀ s∈r,s.1≤s.2)→r.Pairwise (fun a b=>a.1≤b.1)→(∀ s∈p,∀ t∈r,s.1≤t.1)→out.Pairwise (·<·)→(∀ x∈out,x≤done)→(∀ s∈p,s.2≤done)→(h=true→∃ s∈p,s.2=done)→(h=false→p=[])→(∀ x,x∈out↔∃ s∈p,s.1≤x∧x≤s.2) →
  (sweep r out h done).Pairwise (·<·)∧∀ x,x∈sweep r out h done↔∃ s,(s∈p∨s∈r)∧s.1≤x∧x≤s.2
 | [],p,out,h,done,_,_,_,ho,_,_,_,_,hm=>⟨ho,fun x=>(hm x).trans ⟨fun ⟨s,hs,h⟩=>⟨s,Or.inl hs,h⟩,fun ⟨s,hs,h⟩=>⟨s,hs.resolve_right (by simp),h⟩⟩⟩
 | s::r,p,out,h,done,hle,hr,hp,ho,hd,hpd,hh,hf,hm=>by
  have hr':=List.pairwise_cons.1 hr
  have hs:=hle s List.mem_cons_self
  have key:∀ x,(x∈out∨(stt h done s≤x∧x≤s.2))↔∃ t,(t∈p∨t=s)∧t.1≤x∧x≤t.2:=by
   intro x
   rw [hm x]
   constructor
   ·rintro (⟨t,ht,h1⟩ | h1)
    ·exact ⟨t,Or.inl ht,h1⟩
    ·refine ⟨s,Or.inr rfl,?_,h1.2⟩
     unfold stt at h1
     split at h1
     ·rename_i hc; rw [Bool.and_eq_true,decide_eq_true_iff] at hc; omega
     ·exact h1.1
   ·rintro ⟨t,ht | ht,h1⟩
    ·exact Or.inl ⟨t,ht,h1⟩
    ·subst ht
     unfold stt
     split
     ·rename_i hc
      rw [Bool.and_eq_true,decide_eq_true_iff] at hc
      by_cases hx:x≤done
      ·obtain ⟨u,hu,e⟩:=hh hc.1
       exact Or.inl ⟨u,hu,Int.le_trans (hp u hu t List.mem_cons_self) h1.1,by omega⟩
      ·exact Or.inr ⟨by omega,h1.2⟩
     ·exact Or.inr h1
  have hst:h=true→done<stt h done s:=by
   intro e; unfold stt; rw [e]
   split
   ·omega
   ·rename_i hc; simp at hc; exact hc
  have hn:done≤nxt h done s∨h=false:=by unfold nxt; cases h; (· exact Or.inr rfl); (· left; rw [if_pos rfl]; split <;> omega)
  have hn2:s.2≤nxt h done s:=by unfold nxt; cases h; (· exact Int.le_refl _); (· rw [if_pos rfl]; split <;> omega)
  have ho0:h=false→out=[]:=by
   intro e
   cases out with
   | nil=>rfl
   | cons a l=>obtain ⟨t,ht,_⟩:=(hm a).1 List.mem_cons_self; rw [hf e] at ht; cases ht
  have ih:=sweep_ok r (s::p) (out++iv (stt h done s) s.2) true (nxt h done s) (fun t ht=>hle t (List.mem_cons_of_mem _ ht)) hr'.2
   (fun t ht u hu=>by
    rcases List.mem_cons.1 ht with e | e
    ·rw [e]; exact hr'.1 u hu
    ·exact hp t e u (List.mem_cons_of_mem _ hu))
   (by
    refine List.pairwise_append.2 ⟨ho,iv_up _ _,fun x hx y hy=>?_⟩
    cases hb:h with
    | false=>rw [ho0 hb] at hx; cases hx
    | true=>have:=hst hb; have:=hd x hx; have:=(mem_iv.1 hy).1; omega)
   (fun x hx=>by
    rcases List.mem_append.1 hx with h1 | h1
    ·rcases hn with h2 | h2
     ·exact Int.le_trans (hd x h1) h2
     ·rw [ho0 h2] at h1; cases h1
    ·exact Int.le_trans (mem_iv.1 h1).2 hn2)
   (fun t ht=>by
    rcases List.mem_cons.1 ht with e | e
    ·rw [e]; exact hn2
    ·rcases hn with h2 | h2
     ·exact Int.le_trans (hpd t e) h2
     ·rw [hf h2] at e; cases e)
   (fun _=>by
    unfold nxt
    cases hb:h with
    | false=>exact ⟨s,List.mem_cons_self,rfl⟩
    | true =>
     rw [if_pos rfl]
     split
     ·exact ⟨s,List.mem_cons_self,rfl⟩
     ·obtain ⟨u,hu,e⟩:=hh hb; exact ⟨u,List.mem_cons_of_mem _ hu,e⟩)
   (fun e=>by cases e)
   (fun x=>by
    rw [List.mem_append,mem_iv,key x]
    exact ⟨fun ⟨t,ht,h1⟩=>⟨t,List.mem_cons.2 ht.symm,h1⟩,fun ⟨t,ht,h1⟩=>⟨t,(List.mem_cons.1 ht).symm,h1⟩⟩)
  refine ⟨ih.1,fun x=>(ih.2 x).trans ⟨fun ⟨t,ht,h1⟩=>⟨t,?_,h1⟩,fun ⟨t,ht,h1⟩=>⟨t,?_,h1⟩⟩⟩
  ·rcases ht with ht | ht
   ·rcases List.mem_cons.1 ht with e | e
    ·exact Or.inr (List.mem_cons.2 (Or.inl e))
    ·exact Or.inl e
   ·exact Or.inr (List.mem_cons_of_mem _ ht)
  ·rcases ht with ht | ht
   ·exact Or.inl (List.mem_cons_of_mem _ ht)
   ·rcases List.mem_cons.1 ht with e | e
    ·exact Or.inl (List.mem_cons.2 (Or.inl e))
    ·exact Or.inr e
theorem mem_merge1 {a x:Int × Int}:∀ l,x∈merge1 a l↔x=a∨x∈l
 | []=>by unfold merge1; simp
 | b::r=>by
  unfold merge1; split
  ·rw [List.mem_cons,mem_merge1 r,List.mem_cons]; exact ⟨fun h=>by rcases h with h | h | h <;> simp [h],fun h=>by rcases h with h | h | h <;> simp [h]⟩
  ·rw [List.mem_cons]
theorem mem_sort3 {x:Int × Int}:∀ l,x∈sort3 l↔x∈l
 | []=>Iff.rfl
 | a::r=>by show x∈merge1 a (sort3 r)↔_; rw [mem_merge1,mem_sort3 r,List.mem_cons]
theorem up_merge1 {a:Int × Int}:∀ l:List (Int × Int),l.Pairwise (fun a b=>a.1≤b.1)→(merge1 a l).Pairwise (fun a b=>a.1≤b.1)
 | [],_=>by unfold merge1; exact List.pairwise_singleton _ _
 | b::r,h=>by
  have h':=List.pairwise_cons.1 h
  unfold merge1; split
  ·refine List.pairwise_cons.2 ⟨fun x hx=>?_,up_merge1 r h'.2⟩
   rcases (mem_merge1 r).1 hx with e | e
   ·rw [e]; omega
   ·exact h'.1 x e
  ·refine List.pairwise_cons.2 ⟨fun x hx=>?_,h⟩
   rcases List.mem_cons.1 hx with e | e
   ·rw [e]; omega
   ·have:=h'.1 x e; omega
theorem up_sort3:∀ l:List (Int × Int),(sort3 l).Pairwise (fun a b=>a.1≤b.1)
 | []=>List.Pairwise.nil
 | a::r=>up_merge1 _ (up_sort3 r)
theorem len_sort3:∀ l:List (Int × Int),(sort3 l).length=l.length
 | []=>rfl
 | a::r=>by
  have:∀ m:List (Int × Int),(merge1 a m).length=m.length+1:=by
   intro m
   induction m with
   | nil=>rfl
   | cons b m ih=>unfold merge1; split; (· rw [List.length_cons,ih]; rfl); (· rfl)
  show (merge1 a (sort3 r)).length=_
  rw [this,len_sort3 r]; rfl
theorem mem_spans {last:Int} {x:Int × Int}:∀ ps,x∈spansOf last ps↔∃ q∈ps,x=spanOf last q∧(spanOf last q).1≤(spanOf last q).2
 | []=>by unfold spansOf; simp
 | q::r=>by
  unfold spansOf
  split
  ·rw [List.mem_cons,mem_spans r]
   constructor
   ·rintro (h | ⟨p,hp,h⟩)
    ·exact ⟨q,List.mem_cons_self,h,by assumption⟩
    ·exact ⟨p,List.mem_cons_of_mem _ hp,h⟩
   ·rintro ⟨p,hp,h⟩
    rcases List.mem_cons.1 hp with e | e
    ·subst e; exact Or.inl h.1
    ·exact Or.inr ⟨p,e,h⟩
  ·rw [mem_spans r]
   constructor
   ·rintro ⟨p,hp,h⟩; exact ⟨p,List.mem_cons_of_mem _ hp,h⟩
   ·rintro ⟨p,hp,h⟩
    rcases List.mem_cons.1 hp with e | e
    ·subst e; exact absurd h.2 (by assumption)
    ·exact ⟨p,e,h⟩
theorem memb_sweep (ps:List (Int × Int)) (last:Int) (hl:1≤last) (hp:∀ q∈ps,0≤q.1∧0≤q.2):sweep (sort3 (spansOf last ps)) [] false 0=memb ps last:=by
 have h:=sweep_ok (sort3 (spansOf last ps)) [] [] false 0 (fun s hs=>by
  obtain ⟨q,_,e,h⟩:=(mem_spans ps).1 ((mem_sort3 _).1 hs); rw [e]; exact h) (up_sort3 _) (fun s hs=>by cases hs) List.Pairwise.nil (fun x hx=>by cases hx) (fun s hs=>by cases hs) (fun e=>by cases e) (fun _=>rfl) (fun x=>by simp)
 refine up_eq h.1 ?_ fun x=>(h.2 x).trans ?_
 ·unfold memb
  refine List.Pairwise.filter _ (List.pairwise_map.2 (List.pairwise_lt_range.imp fun h=>by omega))
 ·unfold memb
  rw [List.mem_filter,List.mem_map,List.any_eq_true]
  constructor
  ·rintro ⟨s,hs,h1⟩
   obtain ⟨q,hq,e,h2⟩:=(mem_spans ps).1 ((mem_sort3 _).1 (hs.resolve_left (by simp)))
   subst e
   unfold spanOf at h1
   have hq0:=hp q hq
   have ha:1≤endOf last q.1:=by unfold endOf; split <;> omega
   have hb:1≤endOf last q.2:=by unfold endOf; split <;> omega
   refine ⟨⟨(x - 1).toNat,List.mem_range.2 (by omega),by omega⟩,q,hq,?_⟩
   unfold inSpan
   rw [Bool.and_eq_true,decide_eq_true_iff,decide_eq_true_iff]; omega
  ·rintro ⟨⟨i,hi,hx⟩,q,hq,h1⟩
   have:=List.mem_range.1 hi
   unfold inSpan at h1
   rw [Bool.and_eq_true,decide_eq_true_iff,decide_eq_true_iff] at h1
   refine ⟨spanOf last q,Or.inr ((mem_sort3 _).2 ((mem_spans ps).2 ⟨q,hq,rfl,?_⟩)),?_⟩
   ·unfold spanOf; omega
   ·unfold spanOf; omega
end L1
end Mine
namespace Mine
namespace L1
noncomputable def stN (l last sp s3:Slot) (out:List Int) (h:Bool) (done:Int) (s7 s8 s9 s10 s11 s12 s13 s14:Slot):List Slot:=[l,last,sp,s3,.own (out.map PV.int),.val (.bool h),.val (.int done),s7,s8,s9,s10,s11,s12,s13,s14]
noncomputable def memW:CE:=.cmp .le (.var 12) (.var 10)
noncomputable def memWB:List CS:=[.app 4 (.var 12),.aug 12 .add (.lit (.int 1))]
noncomputable def memB2:List CS:=[.assign 8 (.idx (.var 7) (.lit (.int 0))),.assign 10 (.idx (.var 7) (.lit (.int 1))),.assign 11 (.var 8),.if_ (.and_ [(.var 5),(.cmp .le (.var 11) (.var 6))]) [.assign 11 (.bin .add (.var 6) (.lit (.int 1)))] [],.assign 12 (.var 11),.while_ memW memWB,.if_ (.not_ (.var 5)) [.assign 6 (.var 10),.assign 5 (.lit (.bool true))] [.if_ (.cmp .gt (.var 10) (.var 6)) [.assign 6 (.var 10)] []]]
section
variable {F:Nat→List PV→Res PV} {G:Nat→Res PV} {W:Nat}
theorem up_loop (l last sp s3 s7 s8 s9 s11 s13 s14:Slot) (h:Bool) (done top:Int) (kb kn:List Slot→Res PV) (R:Res PV):∀ (k m:Nat) (n:Int) (out:List Int),(top+1 - n).toNat=k→k<m→out.length+k≤1000→(∀ z,kn (stN l last sp s3 (out++iv n top) h done s7 s8 s9 (.val (.int top)) s11 z s13 s14)=R) →
  wh F G W memW memWB m (stN l last sp s3 out h done s7 s8 s9 (.val (.int top)) s11 (.val (.int n)) s13 s14) kb kn=R
 | _,0,_,_,_,h,_,_=>absurd h (Nat.not_lt_zero _)
 | 0,m+1,n,out,hk,_,_,hR=>by
  have hn:¬ n≤top:=by omega
  refine wh_n (bF (decide_eq_false hn)) (Eq.trans ?_ (hR (.val (.int n))))
  rw [iv_nil (by omega),List.append_nil]
 | k+1,m+1,n,out,hk,hm,hl,hR=>by
  have hn:n≤top:=by omega
  refine wh_y (bT (decide_eq_true hn)) (rap (m:=out.map PV.int) rfl rfl ?_ (rag (x:=n) rfl (r0 ?_)))
  ·rw [List.length_map]; exact Nat.lt_of_lt_of_le (show out.length<1000 by omega) (by decide)
  ·have e:out.map PV.int++[.int n]=(out++[n]).map PV.int:=by rw [List.map_append]; rfl
   refine Eq.trans (congrArg (fun o=>wh F G W memW memWB m [l,last,sp,s3,.own o,.val (.bool h),.val (.int done),s7,s8,s9,.val (.int top),s11,.val (.int (n+1)),s13,s14] kb kn) e) ?_
   refine up_loop l last sp s3 s7 s8 s9 s11 s13 s14 h done top kb kn R k m (n+1) (out++[n]) (by omega) (by omega) (by rw [List.length_append]; show out.length+1+k≤1000; omega) fun z=>?_
   rw [← hR z,iv_cons hn,List.append_assoc]; rfl
theorem mem_loop2 (l last sp s3:Slot) (kb kn:List Slot→Res PV) (R:Res PV):∀ (r:List (Int × Int)) (out:List Int) (h:Bool) (done:Int) (s7 s8 s9 s10 s11 s12 s13 s14:Slot),0≤done→(∀ s∈r,1≤s.1∧s.1≤s.2∧s.2≤9)→out.length+10 * r.length≤900 →
  (∀ h' done' b7 b8 b9 b10 b11 b12 b13 b14,kn (stN l last sp s3 (sweep r out h done) h' done' b7 b8 b9 b10 b11 b12 b13 b14)=R)→fr F G 3000 7 memB2 (r.map sPv) (stN l last sp s3 out h done s7 s8 s9 s10 s11 s12 s13 s14) kb kn=R
 | [],out,h,done,s7,s8,s9,s10,s11,s12,s13,s14,_,_,_,hR=>hR h done ..
 | s::r,out,h,done,s7,s8,s9,s10,s11,s12,s13,s14,hd,hs,hl,hR=>by
  have h1:=hs s List.mem_cons_self
  have hst:1≤stt h done s:=by unfold stt; split; (· omega); (· exact h1.1)
  have hlen:(iv (stt h done s) s.2).length≤9:=by rw [iv_len]; omega
  have hl':out.length+10 * r.length+10≤900:=by rw [List.length_cons,Nat.mul_succ] at hl; omega
  refine fr_cons (rs (v:=.int s.1) rfl (rs (v:=.int s.2) rfl (rs (v:=.int s.1) rfl (rn (if_put PV.int (P:=(h && decide (s.1≤done))=true) (x:=done+1) (y:=s.1) (bd (ev_and2 rfl rfl) Iff.rfl) (fun _=>rfl) rfl) (rs (v:=.int (stt h done s)) rfl (rw0 ?_))))))
  refine up_loop l last sp s3 _ _ _ _ _ _ h done s.2 _ _ R _ 3000 (stt h done s) out rfl (by omega) (by omega) fun z=>?_
  have hn:0≤nxt h done s:=by unfold nxt; split; (· split <;> omega); (· omega)
  have step:∀ b7 b8 b9 b10 b11 b12 b13 b14:Slot,fr F G 3000 7 memB2 (r.map sPv) (stN l last sp s3 (out++iv (stt h done s) s.2) true (nxt h done s) b7 b8 b9 b10 b11 b12 b13 b14) kb kn=R:=fun b7 b8 b9 b10 b11 b12 b13 b14 =>
   mem_loop2 l last sp s3 kb kn R r _ true _ b7 b8 b9 b10 b11 b12 b13 b14 hn (fun t ht=>hs t (List.mem_cons_of_mem _ ht)) (by rw [List.length_append]; omega) hR
  cases h with
  | false=>exact ry rfl (rs rfl (rs rfl (r0 (r0 (step ..)))))
  | true=>exact rf rfl (rn (if_put PV.int (P:=done<s.2) (x:=s.2) (y:=done) rfl (fun _=>rfl) rfl) (r0 (r0 (step ..))))
theorem d_members (d:Nat) (ps:List (Int × Int)) (last:Int) (hl:ps.length≤3) (h1:1≤last) (h9:last≤9) (hp:∀ q∈ps,0≤q.1∧0≤q.2):den L1.T L1.G 3000 (d+5) 35 [.list (ps.map sPv),.int last]=.ok (.list ((memb ps last).map PV.int)):=by
 rw [den_code (T:=L1.T) (f:=35) (vs:=vf_members) (k:=2) (body:=cf_members) rfl rfl]
 have hsl:=Nat.le_trans (spans_len last ps) hl
 refine go (row0 (rfo rfl rfl (mem_loop1 _ last _ _ _ (spansOf last ps) (fun s3 s8 s9 s10 s13 s14=>?_) ps [] .unset .unset .unset .unset .unset .unset rfl (by show 0+ps.length≤10; omega))))
 refine rfz (m:=(spansOf last ps).map sPv) rfl (rs (v:=.list ((sort3 (spansOf last ps)).map sPv)) ?_ (row0 (rs rfl (rs rfl (rn rfl (rfo rfl rfl ?_))))))
 ·obtain ⟨k,hk⟩:∃ k,d+4=k+(spansOf last ps).length+1:=⟨d+3 - (spansOf last ps).length,by omega⟩
  rw [hk]; exact d_sort _ k hsl
 ·refine mem_loop2 _ _ _ _ _ _ _ (sort3 (spansOf last ps)) [] false 0 _ _ _ _ _ _ _ _ (Int.le_refl 0) (fun s hs=>?_) (by rw [len_sort3]; show 0+_≤_; omega) fun h' done' b7 b8 b9 b10 b11 b12 b13 b14=>?_
  ·obtain ⟨q,hq,e,h⟩:=(mem_spans ps).1 ((mem_sort3 _).1 hs)
   subst e
   have hq0:=hp q hq
   have ha:1≤endOf last q.1:=by unfold endOf; split <;> omega
   have hb:1≤endOf last q.2:=by unfold endOf; split <;> omega
   refine ⟨?_,h,?_⟩
   ·unfold spanOf; omega
   ·unfold spanOf; omega
  ·rw [memb_sweep ps last h1 hp]
   exact rfz rfl (rr rfl)
end
end L1
end Mine
namespace Mine
mutual
noncomputable def peq:PV→PV→Bool
 | .none,y=>@PV.casesOn (fun _=>Bool) y true (fun _=>false) (fun _=>false) (fun _=>false) (fun _=>false) (fun _=>false) (fun _=>false) (fun _=>false) false
 | .bool a,y=>@PV.casesOn (fun _=>Bool) y false (fun b=>a == b) (fun _=>false) (fun _=>false) (fun _=>false) (fun _=>false) (fun _=>false) (fun _=>false) false
 | .int a,y=>@PV.casesOn (fun _=>Bool) y false (fun _=>false) (fun b=>a == b) (fun _=>false) (fun _=>false) (fun _=>false) (fun _=>false) (fun _=>false) false
 | .flt a,y=>@PV.casesOn (fun _=>Bool) y false (fun _=>false) (fun _=>false) (fun b=>a == b) (fun _=>false) (fun _=>false) (fun _=>false) (fun _=>false) false
 | .str a,y=>@PV.casesOn (fun _=>Bool) y false (fun _=>false) (fun _=>false) (fun _=>false) (fun b=>a == b) (fun _=>false) (fun _=>false) (fun _=>false) false
 | .bytes a,y=>@PV.casesOn (fun _=>Bool) y false (fun _=>false) (fun _=>false) (fun _=>false) (fun _=>false) (fun b=>a == b) (fun _=>false) (fun _=>false) false
 | .tuple a,y=>@PV.casesOn (fun _=>Bool) y false (fun _=>false) (fun _=>false) (fun _=>false) (fun _=>false) (fun _=>false) (fun b=>peqs a b) (fun _=>false) false
 | .list a,y=>@PV.casesOn (fun _=>Bool) y false (fun _=>false) (fun _=>false) (fun _=>false) (fun _=>false) (fun _=>false) (fun _=>false) (fun b=>peqs a b) false
 | .dict0,y=>@PV.casesOn (fun _=>Bool) y false (fun _=>false) (fun _=>false) (fun _=>false) (fun _=>false) (fun _=>false) (fun _=>false) (fun _=>false) true
noncomputable def peqs:List PV→List PV→Bool
 | [],y=>match y with | []=>true | _::_=>false
 | a::r,y=>match y with | []=>false | b::t=>peq a b && peqs r t
end
mutual
theorem peq_sound:∀ (a b:PV),peq a b=true→a=b
 | .none,y,h=>@PV.casesOn (fun y=>peq .none y=true→.none=y) y (fun _=>rfl) (fun _=>ff) (fun _=>ff) (fun _=>ff) (fun _=>ff) (fun _=>ff) (fun _=>ff) (fun _=>ff) ff h
 | .bool a,y,h=>@PV.casesOn (fun y=>peq (.bool a) y=true→.bool a=y) y ff (fun b h=>congrArg PV.bool (eq_of_beq h)) (fun _=>ff) (fun _=>ff) (fun _=>ff) (fun _=>ff) (fun _=>ff) (fun _=>ff) ff h
 | .int a,y,h=>@PV.casesOn (fun y=>peq (.int a) y=true→.int a=y) y ff (fun _=>ff) (fun b h=>congrArg PV.int (eq_of_beq h)) (fun _=>ff) (fun _=>ff) (fun _=>ff) (fun _=>ff) (fun _=>ff) ff h
 | .flt a,y,h=>@PV.casesOn (fun y=>peq (.flt a) y=true→.flt a=y) y ff (fun _=>ff) (fun _=>ff) (fun b h=>congrArg PV.flt (eq_of_beq h)) (fun _=>ff) (fun _=>ff) (fun _=>ff) (fun _=>ff) ff h
 | .str a,y,h=>@PV.casesOn (fun y=>peq (.str a) y=true→.str a=y) y ff (fun _=>ff) (fun _=>ff) (fun _=>ff) (fun b h=>congrArg PV.str (eq_of_beq h)) (fun _=>ff) (fun _=>ff) (fun _=>ff) ff h
 | .bytes a,y,h=>@PV.casesOn (fun y=>peq (.bytes a) y=true→.bytes a=y) y ff (fun _=>ff) (fun _=>ff) (fun _=>ff) (fun _=>ff) (fun b h=>congrArg PV.bytes (eq_of_beq h)) (fun _=>ff) (fun _=>ff) ff h
 | .tuple a,y,h=>@PV.casesOn (fun y=>peq (.tuple a) y=true→.tuple a=y) y ff (fun _=>ff) (fun _=>ff) (fun _=>ff) (fun _=>ff) (fun _=>ff) (fun b h=>congrArg PV.tuple (peqs_sound a b h)) (fun _=>ff) ff h
 | .list a,y,h=>@PV.casesOn (fun y=>peq (.list a) y=true→.list a=y) y ff (fun _=>ff) (fun _=>ff) (fun _=>ff) (fun _=>ff) (fun _=>ff) (fun _=>ff) (fun b h=>congrArg PV.list (peqs_sound a b h)) ff h
 | .dict0,y,h=>@PV.casesOn (fun y=>peq .dict0 y=true→.dict0=y) y ff (fun _=>ff) (fun _=>ff) (fun _=>ff) (fun _=>ff) (fun _=>ff) (fun _=>ff) (fun _=>ff) (fun _=>rfl) h
theorem peqs_sound:∀ (a b:List PV),peqs a b=true→a=b
 | [],[],_=>rfl
 | [],_::_,h=>ff h
 | _::_,[],h=>ff h
 | x::r,y::t,h=>by rw [peq_sound x y (aL h),peqs_sound r t (aR h)]
end
namespace L1
noncomputable def EqA (k:Nat) (v:PV):Prop:=∀ n,eqD (n+k) v v=some true
theorem eqs_self {n:Nat}:∀ {l:List PV},(∀ v∈l,eqD n v v=some true)→eqDs n l l=some true
 | [],_=>rfl
 | a::r,h=>by
  show and2 (eqD n a a) (eqDs n r r)=_
  rw [h a List.mem_cons_self,eqs_self fun v hv=>h v (List.mem_cons_of_mem _ hv)]; rfl
theorem EqA.tuple {k:Nat} {l:List PV} (h:∀ v∈l,EqA k v):EqA (k+1) (.tuple l):=fun n=>eqs_self fun v hv=>h v hv n
theorem EqA.list {k:Nat} {l:List PV} (h:∀ v∈l,EqA k v):EqA (k+1) (.list l):=fun n =>
 (if_pos (beq_self_eq_true l.length)).trans (eqs_self fun v hv=>h v hv n)
theorem EqA.up {k:Nat} {v:PV} (h:EqA k v) (j:Nat):EqA (j+k) v:=fun n=>by rw [← Nat.add_assoc]; exact h (n+j)
theorem EqA.bytes (b:List Int) (k:Nat):EqA k (.bytes b):=fun n=>by
 have:eqD (n+k) (.bytes b) (.bytes b)=some (b == b):=by cases n+k <;> rfl
 rw [this,beq_self_eq_true]
theorem EqA.str (b:List Nat) (k:Nat):EqA k (.str b):=fun n=>by
 have:eqD (n+k) (.str b) (.str b)=some (b == b):=by cases n+k <;> rfl
 rw [this,beq_self_eq_true]
theorem EqA.int (b:Int) (k:Nat):EqA k (.int b):=fun n=>by
 have:eqD (n+k) (.int b) (.int b)=some (b == b):=by cases n+k <;> rfl
 rw [this,beq_self_eq_true]
theorem EqA.none (k:Nat):EqA k .none:=fun n=>by cases n+k <;> rfl
theorem ne_self {v:PV} {k:Nat} (h:EqA k v) (hk:k≤12) (hn:neOk v v=true):cmpP .ne v v=.ok false:=by
 show (if neOk v v=true then ofO ((eqD 12 v v).map (!·)) else .stuck)=_
 have:=h (12 - k)
 rw [Nat.sub_add_cancel hk] at this
 rw [if_pos hn,this]; rfl
noncomputable def itemAll:List Lf:=leafAll++firsts++[bye]++((List.range 10).map fun (n:Nat)=>(n:Int)).map numI
noncomputable def isW1 (r:Res PV) (b:List Int):Bool:=match r with
 | .ok (.bytes a)=>a == b
 | _=>false
theorem isW1_so {r:Res PV} {b:List Int} (h:isW1 r b=true):r=.ok (.bytes b):=by
 unfold isW1 at h; split at h
 ·rw [eq_of_beq h]
 ·cases h
noncomputable def isOk {α:Type} (eq:α→α→Bool) (r:PR α) (due:α) (rest:List Int):Bool:=match r with
 | .ok v r=>eq v due && r == rest
 | _=>false
theorem isOk_so {α:Type} {eq:α→α→Bool} (he:∀ a b,eq a b=true→a=b) {r:PR α} {due:α} {rest:List Int} (h:isOk eq r due rest=true):r=.ok due rest:=by
 cases r with
 | ok a s=>rw [he _ _ (aL h),eq_of_beq (aR h)]
 | none=>cases h
 | err=>cases h
 | stuck=>cases h
noncomputable def beqL (a b:List Int):Bool:=a == b
theorem beqL_so (a b:List Int) (h:beqL a b=true):a=b:=eq_of_beq h
noncomputable def bytesOk (l:List Int):Bool:=l.all fun x=>decide (0≤x) && decide (x<256)
theorem w_items (d:Nat):(itemAll.all fun l=>isW1 (den T G 3000 (d+5) 16 [l.v]) l.w)=true:=by kernel_rfl
theorem e_items (n:Nat):(itemAll.all fun l=>eqD (n+1) l.v l.v == some true)=true:=by kernel_rfl
noncomputable def ends4:List Int:=[32,13,93,41]
noncomputable def not40 (l:List Int):Bool:=match l with | []=>false | c::_=>!(c == 40) && !(c == 41)
noncomputable def rdI (v:PV) (o:List Int):Bool:=not40 o && bytesOk o && decide (o.length≤50) && ends4.all fun c=>isOk peq (valP 3000 0 (o++[c])) v [c]
theorem r_items:(itemAll.all fun l=>rdI l.v l.w && rdI l.v l.o)=true:=by decide +kernel
end L1
end Mine
set_option autoImplicit false
namespace Mine
namespace L1
structure WrOk (d:Nat) (p:PV × List Int):Prop where
 w:den T G 3000 d 16 [p.1]=.ok (.bytes p.2)
 l:p.2.length≤250
noncomputable def gw (l:List (PV × List Int)):List Int:=glue [32] (l.map Prod.snd)
section
variable {d:Nat} {l:List (PV × List Int)}
theorem wr_map:∀ l:List (PV × List Int),(∀ p∈l,WrOk d p)→mapR (fun v=>evE (den T G 3000 d) G (.call 16 [(.var 0)]) [.val v]) (l.map Prod.fst)=.ok ((l.map Prod.snd).map PV.bytes)
 | [],_=>rfl
 | a::r,h=>by
  show (den T G 3000 d 16 [a.1]).bind (fun b=>(mapR (fun v=>evE (den T G 3000 d) G (.call 16 [(.var 0)]) [.val v]) (r.map Prod.fst)).bind fun bs=>Res.ok (b::bs))=_
  rw [(h a List.mem_cons_self).w,b_ok,wr_map r fun p hp=>h p (List.mem_cons_of_mem _ hp)]; rfl
theorem ev_wr {ρ:List Slot} {e:CE} (h:∀ p∈l,WrOk d p) (he:evE (den T G 3000 d) G e ρ=.ok (.list (l.map Prod.fst))):evE (den T G 3000 d) G (.comp (.call 16 [(.var 0)]) e none) ρ=.ok (.list ((l.map Prod.snd).map PV.bytes)):=by
 rw [xcomp,he]
 show (mapR _ (l.map Prod.fst)).bind _=_
 rw [wr_map l h]; rfl
theorem snd_len (h:∀ p∈l,WrOk d p):∀ c∈l.map Prod.snd,c.length≤250:=fun c hc=>by
 obtain ⟨p,hp,rfl⟩:=List.mem_map.1 hc; exact (h p hp).l
theorem ev_gw {F:Nat→List PV→Res PV} {ρ:List Slot} {i:Nat} (h:∀ p∈l,WrOk d p) (hl:l.length≤20) (he:getS ρ i=.val (.list ((l.map Prod.snd).map PV.bytes))):EB F G ρ (.join (.lit (.bytes [32])) (.var i)) (gw l) 5020:=by
 have hl':(l.map Prod.snd).length≤20:=by rw [List.length_map]; exact hl
 exact ⟨ev_join rfl (by rw [xvar,he]) (join_ok [32] _ (snd_len h) hl' (by decide)),Nat.le_trans (glue_len [32] 250 _ (snd_len h)) (Nat.mul_le_mul_left 251 hl')⟩
theorem w_list (h:∀ p∈l,WrOk (d+1) p) (hl:l.length≤20):den T G 3000 (d+2) 16 [listV (l.map Prod.fst)]=.ok (.bytes ([40]++gw l++[41])):=by
 rw [den_code (T:=T) (f:=16) (vs:=vf_write_value) (k:=1) (body:=cf_write_value) rfl rfl]
 exact go (rn (need_y lib rfl) (rs rfl (rf0 rfl (rn (need_y lib rfl) (rs rfl (rf0 rfl (rf0 rfl (rf0 rfl (ry rfl (rn (need_y lib rfl) (rs (ev_wr h rfl) (rr ((EB.lit.add (ev_gw h hl rfl) (by decide)).add .lit (by decide)).1))))))))))))
structure Pl (x:Int):Prop where
 a:0<x
 b:x<128
 c:x≠10
 d:x≠13
 e:x≠34
 f:x≠92
theorem beqF {a b:Int} (h:a≠b):(a == b)=false:=beq_eq_false_iff_ne.2 h
theorem ev_orF {F:Nat→List PV→Res PV} {ρ:List Slot} {a b:CE} {l:List CE} (h1:evE F G a ρ=.ok (.bool false)) (h2:evE F G (.or_ (b::l)) ρ=.ok (.bool false)):evE F G (.or_ (a::b::l)) ρ=.ok (.bool false):=by
 rw [xor,xR2,h1]; exact h2
theorem q_loop {F:Nat→List PV→Res PV} (s0:Slot) (kb kn:List Slot→Res PV) (R:Res PV) (hk:∀ s,kn [s0,s]=R):∀ (t:List Int) (s:Slot),(∀ c∈t,Pl c)→fr F G 3000 1 [.if_ (.or_ [(.cmp .eq (.var 1) (.lit (.int 0))),(.cmp .eq (.var 1) (.lit (.int 10))),(.cmp .eq (.var 1) (.lit (.int 13))),(.cmp .gt (.var 1) (.lit (.int 127)))]) [.ret (.lit (.bool false))] []] (t.map PV.int) [s0,s] kb kn=R
 | [],s,_=>hk s
 | c::r,s,h=>by
  have hc:=h c List.mem_cons_self
  exact fr_cons (rf0 (ev_orF (bF (beqF (Int.ne_of_gt hc.a))) (ev_orF (bF (beqF hc.c)) (ev_orF (bF (beqF hc.d)) (bF (decide_eq_false (Int.not_lt.2 (Int.lt_add_one_iff.1 hc.b))))))) (r0 (q_loop s0 kb kn R hk r _ fun x hx=>h x (List.mem_cons_of_mem _ hx))))
theorem quotable_ok {t:List Int} (h:∀ c∈t,Pl c) (hl:t.length≤40):den T G 3000 (d+1) 14 [.bytes t]=.ok (.bool true):=by
 rw [den_code (T:=T) (f:=14) (vs:=vf_quotable) (k:=1) (body:=cf_quotable) rfl rfl]
 exact go (rf0 (bF (decide_eq_false (Int.not_lt.2 (Int.ofNat_le.2 hl)))) (rfo rfl rfl (q_loop _ _ _ _ (fun _=>rr rfl) t _ h)))
theorem u_loop {F:Nat→List PV→Res PV} (s0:Slot) (kb kn:List Slot→Res PV) (R:Res PV):∀ (t:List Int) (m:List Int) (s:Slot),(∀ c∈t,Pl c)→m.length+t.length≤1000→(∀ s,kn [s0,.own ((m++t).map PV.int),s]=R)→fr F G 3000 2 [.if_ (.or_ [(.cmp .eq (.var 2) (.lit (.int 34))),(.cmp .eq (.var 2) (.lit (.int 92)))]) [.app 1 (.lit (.int 92))] [],.app 1 (.var 2)] (t.map PV.int) [s0,.own (m.map PV.int),s] kb kn=R
 | [],m,s,_,_,hk=>by rw [← List.append_nil m]; exact hk s
 | c::r,m,s,h,hl,hk=>by
  have hc:=h c List.mem_cons_self
  have hl':m.length+r.length+1≤1000:=hl
  refine fr_cons (rf0 (ev_orF (bF (beqF hc.e)) (bF (beqF hc.f))) (rap rfl rfl (by rw [List.length_map]; exact Nat.lt_of_lt_of_le (show m.length<1000 by omega) (by decide)) (r0 ?_)))
  refine Eq.trans (congrArg (fun x=>fr F G 3000 2 _ _ [s0,.own x,.val (.int c)] kb kn) (show m.map PV.int++[.int c]=(m++[c]).map PV.int by rw [List.map_append]; rfl)) ?_
  refine u_loop s0 kb kn R r (m++[c]) _ (fun x hx=>h x (List.mem_cons_of_mem _ hx)) (by rw [List.length_append]; show m.length+1+r.length≤1000; omega) fun s=>?_
  rw [List.append_assoc]; exact hk s
theorem ints_of:∀ m:List Int,intsOf (m.map PV.int)=some m
 | []=>rfl
 | a::r=>by show (intsOf (r.map PV.int)).map (a::·)=_; rw [ints_of r]; rfl
theorem quote_ok {t:List Int} (h:∀ c∈t,Pl c) (hl:t.length≤40):den T G 3000 (d+1) 15 [.bytes t]=.ok (.bytes ([34]++t++[34])):=by
 rw [den_code (T:=T) (f:=15) (vs:=vf_quote) (k:=1) (body:=cf_quote) rfl rfl]
 refine go (rn rfl (rfo rfl rfl (u_loop _ _ _ _ t [34] _ h (Nat.le_trans (Nat.add_le_add_left hl 1) (by decide)) fun s=>rap rfl rfl (by rw [List.length_map]; exact Nat.lt_of_le_of_lt (Nat.succ_le_succ hl) (by decide)) (rfz rfl (rr ?_)))))
 refine bytes_ok (Eq.trans (congrArg intsOf (show ([34]++t).map PV.int++[34].map PV.int=([34]++t++[34]).map PV.int from List.map_append.symm)) (ints_of _)) (byte_app (fun x hx=>?_) (by decide))
 rcases List.mem_cons.1 hx with e | e
 ·rw [e]; decide
 ·have:=h x e; exact ⟨Int.le_of_lt this.a,Int.lt_trans this.b (by decide)⟩
theorem w_text {t:List Int} (h:∀ c∈t,Pl c) (hl:t.length≤40):WrOk (d+2) (strV t,[34]++t++[34]):=by
 refine ⟨?_,by rw [List.length_append]; exact Nat.le_trans (Nat.add_le_add_right (Nat.succ_le_succ hl) 1) (by decide)⟩
 rw [den_code (T:=T) (f:=16) (vs:=vf_write_value) (k:=1) (body:=cf_write_value) rfl rfl]
 have h0:evE (den T G 3000 (d+1)) G (.cmp .notIn (.lit (.int 0)) (.var 2)) [.val (strV t),.val (.str [115,116,114,105,110,103]),.val (.bytes t),.unset]=.ok (.bool true):=by
  refine ev_cmp (r:=!decide (0∈t)) rfl rfl rfl |>.trans (bT ?_)
  rw [decide_eq_false fun h'=>Int.lt_irrefl 0 (h 0 h').a]; rfl
 exact go (rn (need_y lib rfl) (rs rfl (rf0 rfl (rn (need_y lib rfl) (rs rfl (rf0 rfl (rf0 rfl (ry rfl (rn (need_y lib rfl) (rn (need_y lib h0) (ry (quotable_ok h hl) (rr (quote_ok h hl)))))))))))))
end
end L1
end Mine
set_option autoImplicit false
namespace Mine
namespace L1
theorem item_of {x:Lf} (h:x∈leafAll):x∈itemAll:=List.mem_append_left _ (List.mem_append_left _ (List.mem_append_left _ h))
theorem rd_of {l:Lf} (h:l∈itemAll):rdI l.v l.w=true∧rdI l.v l.o=true:=Bool.and_eq_true_iff.1 (List.all_eq_true.1 r_items l h)
theorem rdI_len {v:PV} {o:List Int} (h:rdI v o=true):o.length≤50:=of_decide_eq_true (aR (aL h))
theorem w_item {l:Lf} (h:l∈itemAll) (d:Nat):WrOk (d+5) (l.v,l.w) :=
 ⟨isW1_so (List.all_eq_true.1 (w_items d) l h),Nat.le_trans (rdI_len (rd_of h).1) (by decide)⟩
section
variable {d:Nat}
theorem two {α:Type} {P:α→Prop} {a b:α} (ha:P a) (hb:P b):∀ p∈[a,b],P p:=fun p hp=>by
 rcases List.mem_cons.1 hp with e | e
 ·rw [e]; exact ha
 ·rw [List.mem_singleton.1 e]; exact hb
theorem three {α:Type} {P:α→Prop} {a b c:α} (ha:P a) (hb:P b) (hc:P c):∀ p∈[a,b,c],P p:=fun p hp=>by
 rcases List.mem_cons.1 hp with e | e
 ·rw [e]; exact ha
 ·exact two hb hc p e
theorem pack2_eq (a b:List Int):[40]++(a++[32]++b)++[41]=pack2 a b:=by unfold pack2; simp only [List.append_assoc]
theorem pack3_eq (a b:List Int):[40]++(a++[32]++([40]++b++[41]++[32]++b))++[41]=pack3 a b:=by unfold pack3; simp only [List.append_assoc,List.cons_append,List.nil_append]
theorem pack2_len {a b:List Int} (ha:a.length≤50) (hb:b.length≤50):(pack2 a b).length≤160:=by unfold pack2; simp only [List.length_append,List.length_cons,List.length_nil]; omega
theorem pack3_len {a b:List Int} (ha:a.length≤50) (hb:b.length≤50):(pack3 a b).length≤160:=by unfold pack3; simp only [List.length_append,List.length_cons,List.length_nil]; omega
theorem w_value (k:Int) {x y:Lf} (hx:x∈leafAll) (hy:y∈leafAll):WrOk (d+8) ((valL k x y).v,(valL k x y).w):=by
 have hX:=rdI_len (rd_of (item_of hx)).1
 have hY:=rdI_len (rd_of (item_of hy)).1
 have hY0:WrOk (d+6) (y.v,y.w):=w_item (item_of hy) (d+1)
 unfold valL
 split
 ·exact w_item (item_of hx) (d+3)
 ·split
  ·exact ⟨w_list (d:=d+6) (l:=[]) (by intro p hp; cases hp) (by decide),by decide⟩
  ·split
   ·exact ⟨(w_list (d:=d+6) (l:=[(x.v,x.w),(y.v,y.w)]) (two (w_item (item_of hx) _) (w_item (item_of hy) (d+2))) (by show 2≤20; decide)).trans (congrArg (fun z=>Res.ok (PV.bytes z)) (pack2_eq x.w y.w)),Nat.le_trans (pack2_len hX hY) (by decide)⟩
   ·refine ⟨(w_list (d:=d+6) (l:=[(x.v,x.w),(listV [y.v],[40]++y.w++[41]),(y.v,y.w)]) (three (w_item (item_of hx) _) ⟨w_list (d:=d+5) (l:=[(y.v,y.w)]) (fun p hp=>by rw [List.mem_singleton.1 hp]; exact hY0) (by show 1≤20; decide),?_⟩ (w_item (item_of hy) (d+2))) (by show 3≤20; decide)).trans (congrArg (fun z=>Res.ok (PV.bytes z)) (pack3_eq x.w y.w)),Nat.le_trans (pack3_len hX hY) (by decide)⟩
    simp only [List.length_append,List.length_cons,List.length_nil]; omega
theorem fr_nil {F:Nat→List PV→Res PV} {i:Nat} {ts:List CS} {ρ:List Slot} {kb kn:List Slot→Res PV} {R:Res PV} (k:kn ρ=R):fr F G 3000 i ts [] ρ kb kn=R:=k
theorem rap_x {F:Nat→List PV→Res PV} {i:Nat} {e:CE} {r:List CS} {ρ:List Slot} {m:List PV} {kb kn:List Slot→Res PV} (h:getS ρ i=.own m) (he:evE F G e ρ=.exc):run F G 3000 (.app i e::r) ρ kb kn=.exc:=by
 unfold run; rw [run_exc]; rfl
 rw [xapp,h]; show (evE F G e ρ).bind _=_; rw [he]; rfl
theorem rrb {F:Nat→List PV→Res PV} {e:CE} {r:List CS} {ρ:List Slot} {kb kn:List Slot→Res PV} {x:List Int} {n:Nat} (h:EB F G ρ e x n):run F G 3000 (.ret e::r) ρ kb kn=.ok (.bytes x):=rr h.1
theorem sm3:3<lim:=by decide
theorem sm4:4<lim:=by decide
theorem w_cmd {t n:List Int} {p q r:PV × List Int} (ht:den T G 3000 (d+1) 9 [.bytes t]=.ok (.bool true)) (hn:den T G 3000 (d+1) 10 [.bytes n]=.ok (.bool true)) (hp:WrOk (d+1) p) (hq:WrOk (d+1) q) (hr:WrOk (d+1) r) (h2:t.length≤250) (h3:n.length≤250) :
  den T G 3000 (d+2) 27 [.tuple [.bytes t,.bytes n,.list [p.1,q.1,r.1]]]=.ok (.bytes (glue [32] [t,n,p.2,q.2,r.2]++[13,10])):=by
 rw [den_code (T:=T) (f:=27) (vs:=vf_write_command) (k:=1) (body:=cf_write_command) rfl rfl]
 have hb:∀ c∈[t,n,p.2,q.2,r.2],c.length≤250:=fun c hc=>by
  rcases List.mem_cons.1 hc with e | hc
  ·rw [e]; exact h2
  ·rcases List.mem_cons.1 hc with e | hc
   ·rw [e]; exact h3
   ·exact three (P:=fun c=>c.length≤250) hp.l hq.l hr.l c hc
 exact go (rn (need_y lib rfl) (rs rfl (rs rfl (rs rfl (rn (need_y lib (Eq.trans (ev_and2 (p:=true) (q:=true) ht hn) rfl)) (rn (need_y lib rfl) (rn rfl (rfo rfl rfl (fr_cons (rap rfl hp.w sm2 (r0 (fr_cons (rap rfl hq.w sm3 (r0 (fr_cons (rap rfl hr.w sm4 (r0 (fr_nil (rfz rfl (rr
  (EB.add (x:=glue [32] [t,n,p.2,q.2,r.2]) (p:=5020) ⟨ev_join rfl rfl (join_ok [32] [t,n,p.2,q.2,r.2] hb (by show 5≤20; decide) (by decide)),Nat.le_trans (glue_len [32] 250 _ hb) (by show 251 * 5≤5020; decide)⟩ .lit (by decide)).1))))))))))))))))))))
theorem w_cmd_bad {t n:List Int} {p:PV × List Int} {q r:PV} (ht:den T G 3000 (d+1) 9 [.bytes t]=.ok (.bool true)) (hn:den T G 3000 (d+1) 10 [.bytes n]=.ok (.bool true)) (hp:WrOk (d+1) p) (hq:den T G 3000 (d+1) 16 [q]=.exc) :
  den T G 3000 (d+2) 27 [.tuple [.bytes t,.bytes n,.list [p.1,q,r]]]=.exc:=by
 rw [den_code (T:=T) (f:=27) (vs:=vf_write_command) (k:=1) (body:=cf_write_command) rfl rfl]
 exact go (rn (need_y lib rfl) (rs rfl (rs rfl (rs rfl (rn (need_y lib (Eq.trans (ev_and2 (p:=true) (q:=true) ht hn) rfl)) (rn (need_y lib rfl) (rn rfl (rfo rfl rfl (fr_cons (rap rfl hp.w sm2 (r0 (fr_cons (rap_x rfl hq)))))))))))))
theorem w_cont {s:List Int} (hs:den T G 3000 (d+1) 22 [.bytes s]=.ok (.bytes s)) (hl:s.length≤3):den T G 3000 (d+2) 23 [.tuple [sCont,.bytes s]]=.ok (.bytes ([43,32]++s++[13,10])):=by
 rw [den_code (T:=T) (f:=23) (vs:=vf_write_line) (k:=1) (body:=cf_write_line) rfl rfl]
 exact go (rn (need_y lib rfl) (rs rfl (ry rfl (rn (need_y lib rfl) (rrb (.add (.add .lit ⟨hs,hl⟩ (by decide)) .lit (by decide)))))))
theorem first_w (d:Nat) {a b:Slot} {c:Slot}:∀ f∈firsts,evS (den T G 3000 (d+1)) G 3000 (.if_ (.and_ [(.isin (.var 9) [.tuple,.list]),(.cmp .ge (.len (.var 9)) (.lit (.int 2)))]) [.if_ (.and_ [(.cmp .eq (.idx (.var 9) (.lit (.int 0))) (.lit (.str [97,116,111,109]))),(.isin1 (.idx (.var 9) (.lit (.int 1))) .bytes)]) [.expr (.call 0 [(.cmp .notIn (.call 8 [(.idx (.var 9) (.lit (.int 1)))]) (.glob 1))])] []] []) [a,b,.unset,.unset,.unset,.unset,.unset,.unset,c,.val f.v,.unset]=.ok (.next,[a,b,.unset,.unset,.unset,.unset,.unset,.unset,c,.val f.v,.unset]):=by
 intro f hf
 simp only [firsts,List.mem_cons,List.not_mem_nil,or_false] at hf
 rcases hf with rfl | rfl | rfl | rfl | rfl | rfl
 all_goals kernel_rfl
theorem w_data {f:Lf} (hf:f∈firsts) {l:List (PV × List Int)} (h:∀ p∈(f.v,f.w)::l,WrOk (d+1) p) (hl:l.length≤19):den T G 3000 (d+2) 23 [.tuple [sData,.list (f.v::l.map Prod.fst)]]=.ok (.bytes ([42,32]++gw ((f.v,f.w)::l)++[13,10])):=by
 rw [den_code (T:=T) (f:=23) (vs:=vf_write_line) (k:=1) (body:=cf_write_line) rfl rfl]
 have h0:∀ n:Nat,decide ((0:Int)<((n+1:Nat):Int))=true:=fun n=>decide_eq_true (by omega)
 exact go (rn (need_y lib rfl) (rs rfl (rf0 rfl (ry rfl (rn (need_y lib rfl) (rs rfl (rn (need_y lib (Eq.trans (ev_and2 (p:=true) rfl rfl) (bT (h0 _)))) (rs rfl (rn (first_w d f hf) (rs (ev_wr (l:=(f.v,f.w)::l) h rfl) (rr ((EB.lit.add (ev_gw h (Nat.succ_le_succ hl) rfl) (by decide)).add .lit (by decide)).1)))))))))))
theorem w_word:∀ w∈words4,cmpP .in_ (.bytes w) (.tuple [.bytes [79,75],.bytes [78,79],.bytes [66,65,68],.bytes [66,89,69]])=.ok true∧w.length≤3:=by
 intro w hw
 simp only [words4,List.mem_cons,List.not_mem_nil,or_false] at hw
 rcases hw with rfl | rfl | rfl | rfl
 all_goals exact ⟨rfl,by decide⟩
end
end L1
end Mine
set_option autoImplicit false
namespace Mine
namespace L1
inductive Hd (d:Nat):List Int→List Int→Prop
 | star:Hd d [] [42]
 | tag (c e:Int) (h:den T G 3000 (d+1) 9 [.bytes [c,e]]=.ok (.bool true)):Hd d [c,e] [c,e]
noncomputable def stTail:List CS:=[.if_ (.cmp .isNot (.var 4) (.lit .none)) [.expr (.call 0 [(.and_ [(.isin (.var 4) [.list,.tuple]),(.cmp .gt (.len (.var 4)) (.lit (.int 0)))])]),.assign 10 (.comp (.call 16 [(.var 0)]) (.var 4) none),.assign 7 (.bin .add (.bin .add (.lit (.bytes [91])) (.join (.lit (.bytes [32])) (.var 10))) (.lit (.bytes [93,32])))] [],.ret (.bin .add (.bin .add (.bin .add (.bin .add (.bin .add (.bin .add (.var 6) (.lit (.bytes [32]))) (.var 3)) (.lit (.bytes [32]))) (.var 7)) (.call 22 [(.var 5)])) (.lit (.bytes [13,10])))]
section
variable {d:Nat} {mark head word s:List Int}
theorem w_pre (hh:Hd d mark head) (hw:word∈words4) (code:PV) {R:Res PV}
  (k:run (den T G 3000 (d+1)) G 3000 stTail [.val (.tuple [sStat,.bytes mark,.bytes word,code,.bytes s]),.val sStat,.val (.bytes mark),.val (.bytes word),.val code,.val (.bytes s),.val (.bytes head),.val (.bytes []),.unset,.unset,.unset] kS kN=R):den T G 3000 (d+2) 23 [.tuple [sStat,.bytes mark,.bytes word,code,.bytes s]]=R:=by
 rw [den_code (T:=T) (f:=23) (vs:=vf_write_line) (k:=1) (body:=cf_write_line) rfl rfl]
 have hin:=(w_word word hw).1
 cases hh with
 | star=>exact go (rn (need_y lib rfl) (rs rfl (rf0 rfl (rf0 rfl (rn (need_y lib rfl) (rs rfl (rs rfl (rs rfl (rs rfl (rn (need_y lib (ev_cmp rfl rfl hin)) (rn (need_y lib rfl) (rs rfl (rf0 rfl (rs rfl k))))))))))))))
 | tag c e h=>exact go (rn (need_y lib rfl) (rs rfl (rf0 rfl (rf0 rfl (rn (need_y lib rfl) (rs rfl (rs rfl (rs rfl (rs rfl (rn (need_y lib (ev_cmp rfl rfl hin)) (rn (need_y lib (Eq.trans (ev_or2 (p:=false) (q:=true) rfl h) rfl)) (rs rfl (ry rfl (rs rfl (r0 (rs rfl k))))))))))))))))
theorem hd_len (hh:Hd d mark head):head.length≤2:=by cases hh; (· decide); (· exact Nat.le_refl 2)
theorem w_stat0 (hh:Hd d mark head) (hw:word∈words4) (hs:den T G 3000 (d+1) 22 [.bytes s]=.ok (.bytes s)) (hl:s.length≤3):den T G 3000 (d+2) 23 [.tuple [sStat,.bytes mark,.bytes word,.none,.bytes s]]=.ok (.bytes (head++[32]++word++[32]++s++[13,10])):=by
 refine w_pre hh hw .none (rf0 rfl (Eq.trans (rrb (.add (.add (.add (.add (.add (.add ⟨rfl,hd_len hh⟩ .lit (by decide)) ⟨rfl,(w_word word hw).2⟩ (by decide)) .lit (by decide)) (y:=[]) (q:=0) ⟨rfl,Nat.le_refl 0⟩ (by decide)) ⟨hs,hl⟩ (by decide)) .lit (by decide))) ?_))
 rw [List.append_nil]
theorem w_stat1 (hh:Hd d mark head) (hw:word∈words4) (hs:den T G 3000 (d+1) 22 [.bytes s]=.ok (.bytes s)) (hl:s.length≤3) {p:PV × List Int} {l:List (PV × List Int)} (h:∀ q∈p::l,WrOk (d+1) q) (hn:l.length≤19):den T G 3000 (d+2) 23 [.tuple [sStat,.bytes mark,.bytes word,.list ((p::l).map Prod.fst),.bytes s]]=.ok (.bytes (head++[32]++word++[32]++([91]++gw (p::l)++[93,32])++s++[13,10])):=by
 have h0:∀ n:Nat,decide ((0:Int)<((n+1:Nat):Int))=true:=fun n=>decide_eq_true (by omega)
 have hg:(gw (p::l)).length≤5020:=Nat.le_trans (glue_len [32] 250 _ (snd_len h)) (by rw [List.length_map]; exact Nat.mul_le_mul_left 251 (Nat.succ_le_succ hn))
 have hm:([91]++gw (p::l)++[93,32]).length≤5023:=by rw [List.length_append,List.length_append]; exact Nat.add_le_add (Nat.add_le_add (Nat.le_refl 1) hg) (Nat.le_refl 2)
 exact w_pre hh hw (.list ((p::l).map Prod.fst)) (ry rfl (rn (need_y lib (Eq.trans (ev_and2 (p:=true) rfl rfl) (bT (h0 _)))) (rs (ev_wr (l:=p::l) h rfl) (rs (EB.add (EB.add .lit (ev_gw h (Nat.succ_le_succ hn) rfl) (by decide)) .lit (by decide)).1 (r0 (rrb (.add (.add (.add (.add (.add (.add ⟨rfl,hd_len hh⟩ .lit (by decide)) ⟨rfl,(w_word word hw).2⟩ (by decide)) .lit (by decide)) (y:=[91]++gw (p::l)++[93,32]) (q:=5023) ⟨rfl,hm⟩ (by decide)) ⟨hs,hl⟩ (by decide)) .lit (by decide))))))))
noncomputable def vw (i:It1):PV × List Int:=(i.l.v,i.l.w)
theorem at2 {α:Type} (z a b:α) (k:Int):(k % 2=0∧at_ z [a,b] k=a)∨(k % 2=1∧at_ z [a,b] k=b):=by
 show (k % 2=0∧([a,b][(k % 2).toNat]?).getD z=a)∨(k % 2=1∧([a,b][(k % 2).toNat]?).getD z=b)
 rcases Int.emod_two_eq k with h | h
 ·rw [h]; exact Or.inl ⟨rfl,rfl⟩
 ·rw [h]; exact Or.inr ⟨rfl,rfl⟩
theorem hd_at {c e:Int} (h:den T G 3000 (d+1) 9 [.bytes [c,e]]=.ok (.bool true)) (k:Int):Hd d (at_ [] [[c,e],[]] k) (at_ [] [[c,e],[42]] k):=by
 rcases at2 [] [c,e] [] k with ⟨h1,h2⟩ | ⟨h1,h2⟩
 ·rcases at2 [] [c,e] [42] k with ⟨h3,h4⟩ | ⟨h3,h4⟩
  ·rw [h2,h4]; exact .tag c e h
  ·omega
 ·rcases at2 [] [c,e] [42] k with ⟨h3,h4⟩ | ⟨h3,h4⟩
  ·omega
  ·rw [h2,h4]; exact .star
theorem w_line (k w:Int) {c e:Int} (ht:den T G 3000 (d+1) 9 [.bytes [c,e]]=.ok (.bool true)) (hs:den T G 3000 (d+1) 22 [.bytes s]=.ok (.bytes s)) (hl:s.length≤3) {f:Lf} (hf:f∈firsts) {its:List It1} (h:∀ i∈(⟨f,[]⟩:It1)::its,WrOk (d+1) (vw i)) (hn:its.length≤19) :
  den T G 3000 (d+2) 23 [(lineL k w s [c,e] (⟨f,[]⟩::its)).v]=.ok (.bytes (lineL k w s [c,e] (⟨f,[]⟩::its)).w):=by
 have h':∀ p∈(vw ⟨f,[]⟩)::its.map vw,WrOk (d+1) p:=fun p hp=>by
  obtain ⟨i,hi,rfl⟩:=List.mem_map.1 (show p∈((⟨f,[]⟩:It1)::its).map vw from hp); exact h i hi
 have hn':(its.map vw).length≤19:=by rw [List.length_map]; exact hn
 have e1:(((⟨f,[]⟩:It1)::its).map vw).map Prod.fst=valsOf (⟨f,[]⟩::its):=by rw [List.map_map]; rfl
 have e2:gw (((⟨f,[]⟩:It1)::its).map vw)=wiresOf (⟨f,[]⟩::its):=by unfold gw wiresOf; rw [List.map_map]; rfl
 unfold lineL
 split
 ·exact w_cont hs hl
 ·split
  ·have:=w_data hf (l:=its.map vw) h' hn'
   rw [← e1,← e2]; exact this
  ·split
   ·exact w_stat0 (hd_at ht k) (at_mem (by decide) w) hs hl
   ·have:=w_stat1 (hd_at ht k) (at_mem (z:=[]) (by decide) w) hs hl h' hn'
    rw [← e1,← e2]
    refine Eq.trans this ?_
    simp only [List.append_assoc]; rfl
end
end L1
end Mine
set_option autoImplicit false
namespace Mine
namespace L1
structure RdOk (N dep:Nat) (v:PV) (o:List Int):Prop where
 r:∀ c∈ends4,∀ t:List Int,t.length≤N→valP 3000 dep (o++c::t)=.ok v (c::t)
 l:o.length≤160
 b:∀ x∈o,0≤x∧x<256
 ne:∃ c t,o=c::t∧c≠41
theorem bytes_of {l:List Int} (h:bytesOk l=true):∀ x∈l,0≤x∧x<256:=fun x hx=>by
 have:=List.all_eq_true.1 h x hx
 exact ⟨of_decide_eq_true (aL this),of_decide_eq_true (aR this)⟩
theorem not40_of {o:List Int} (h:not40 o=true):∃ c t,o=c::t∧c≠40∧c≠41:=by
 cases o with
 | nil=>cases h
 | cons c t =>
  have h:(!(c == 40) && !(c == 41))=true:=h
  simp only [Bool.and_eq_true,Bool.not_eq_true',beq_eq_false_iff_ne] at h
  exact ⟨c,t,rfl,h⟩
theorem rd_ok {v:PV} {o:List Int} (h:rdI v o=true) (dep:Nat):RdOk 2900 dep v o:=by
 obtain ⟨c,t,rfl,h40,h41⟩:=not40_of (aL (aL (aL h)))
 have hl:=rdI_len h
 refine ⟨fun e he u hu=>?_,Nat.le_trans hl (by decide),bytes_of (aR (aL (aL h))),c,t,rfl,h41⟩
 have h1:=isOk_so peq_sound (List.all_eq_true.1 (aR h) e he)
 have h2:=reads_more (mono_val 3000 0) h1 u (by simp only [List.length_append,List.length_cons,List.length_nil] at hl ⊢; omega)
 rw [List.append_assoc] at h2
 refine Eq.trans ?_ h2
 show valP 3000 dep (c::(t++e::u))=valP 3000 0 (c::(t++e::u))
 rw [valP_cons,valP_cons,if_neg h40,if_neg h40]
noncomputable def Lf.pk (p:Bool) (l:Lf):List Int:=if p then l.o else l.w
noncomputable def Vl.pk (p:Bool) (l:Vl):List Int:=if p then l.o else l.w
theorem rd_item {l:Lf} (h:l∈itemAll) (p:Bool) (dep:Nat):RdOk 2900 dep l.v (l.pk p):=by
 cases p
 ·exact rd_ok (rd_of h).1 dep
 ·exact rd_ok (rd_of h).2 dep
theorem pk50 {l:Lf} (h:l∈itemAll) (p:Bool):(l.pk p).length≤50:=by
 cases p
 ·exact rdI_len (rd_of h).1
 ·exact rdI_len (rd_of h).2
theorem quo_read (u:List Int):∀ (t acc:List Int) (n:Nat),(∀ c∈t,Pl c)→t.length<n→quoN n acc (t++34::u)=.ok (strV (acc++t)) u
 | [],acc,0,_,h=>absurd h (Nat.not_lt_zero _)
 | [],acc,n+1,_,_=>by rw [List.append_nil]; rfl
 | c::t,acc,0,_,h=>absurd h (Nat.not_lt_zero _)
 | c::t,acc,n+1,hp,h=>by
  have hc:=hp c List.mem_cons_self
  rw [List.cons_append,quoN_c _ _ _ _ hc.e hc.f,if_pos ⟨⟨hc.a,hc.b⟩,hc.c,hc.d⟩,quo_read u t (acc++[c]) n (fun x hx=>hp x (List.mem_cons_of_mem _ hx)) (Nat.lt_of_succ_lt_succ h),List.append_assoc]; rfl
theorem rd_text {t:List Int} (h:∀ c∈t,Pl c) (hl:t.length≤40) (dep:Nat):RdOk 2900 dep (strV t) ([34]++t++[34]):=by
 refine ⟨fun c _ u hu=>?_,by simp only [List.length_append,List.length_cons,List.length_nil]; omega,fun x hx=>?_,34,t++[34],rfl,by decide⟩
 ·show valP 3000 dep (34::((t++[34])++c::u))=_
  rw [valP_cons,if_neg (by decide),if_pos rfl,List.append_assoc]
  exact quo_read (c::u) t [] 3000 h (by omega)
 ·rcases List.mem_append.1 hx with e | e
  ·rcases List.mem_cons.1 e with e | e
   ·rw [e]; decide
   ·have:=h x e; exact ⟨Int.le_of_lt this.a,Int.lt_trans this.b (by decide)⟩
  ·rw [List.mem_singleton.1 e]; decide
section
variable {v:List Int→PR PV} {n:Nat} {acc:List PV} {x o t:List Int} {a:PV} {dep:Nat}
theorem it_sp (h:v (o++32::t)=.ok a (32::t)):itemsN v (n+1) acc (o++32::t)=itemsN v n (acc++[a]) t:=by
 rw [itemsN,h]; rfl
theorem it_end (h:v (o++41::t)=.ok a (41::t)):itemsN v (n+1) acc (o++41::t)=.ok (listV (acc++[a])) t:=by
 rw [itemsN,h]; rfl
theorem it_err (h:v x=.err):itemsN v (n+1) acc x=.err:=by
 rw [itemsN,h]; rfl
theorem val_lst (h:∃ c t,o=c::t∧c≠41):valP 3000 (dep+1) (40::(o++t))=itemsN (valP 3000 dep) 3000 [] (o++t):=by
 obtain ⟨c,u,rfl,hc⟩:=h
 rw [valP_cons,if_pos rfl]
 show lstP 3000 (valP 3000 dep) (c::(u++t))=_
 unfold lstP
 exact if_neg hc
theorem m32:(32:Int)∈ends4:=by decide
theorem m13:(13:Int)∈ends4:=by decide
theorem m93:(93:Int)∈ends4:=by decide
theorem m41:(41:Int)∈ends4:=by decide
theorem pack2_at (a b t:List Int):pack2 a b++t=40::(a++32::(b++41::t)):=by unfold pack2; simp only [List.append_assoc,List.cons_append,List.nil_append]
theorem pack3_at (a b t:List Int):pack3 a b++t=40::(a++32::(40::(b++41::32::(b++41::t)))):=by unfold pack3; simp only [List.append_assoc,List.cons_append,List.nil_append]
theorem all_pack2 {P:Int→Prop} {a b:List Int} (h1:P 40) (h2:P 32) (h3:P 41) (ha:∀ x∈a,P x) (hb:∀ x∈b,P x):(∀ x∈pack2 a b,P x)∧∀ x∈pack3 a b,P x:=by
 unfold pack2 pack3
 constructor <;> intro x hx <;> simp only [List.mem_append,List.mem_cons,List.not_mem_nil,or_false] at hx
 ·rcases hx with (((e | e) | e) | e) | e
  ·exact e ▸ h1
  ·exact ha x e
  ·exact e ▸ h2
  ·exact hb x e
  ·exact e ▸ h3
 ·rcases hx with (((((e | e) | e) | e) | e) | e) | e
  ·exact e ▸ h1
  ·exact ha x e
  ·exact e.elim (· ▸ h2) (· ▸ h1)
  ·exact hb x e
  ·exact e.elim (· ▸ h3) (· ▸ h2)
  ·exact hb x e
  ·exact e ▸ h3
theorem len_ap {x y:List Int} {n:Nat} (h:(x++y).length≤n):y.length≤n:=by rw [List.length_append] at h; omega
theorem rd_pack2 {p q:PV} {a b:List Int} (ha:RdOk 2900 dep p a) (hb:RdOk 2900 dep q b) (h1:a.length≤50) (h2:b.length≤50):RdOk 2700 (dep+1) (listV [p,q]) (pack2 a b):=by
 refine ⟨fun c hc t ht=>?_,pack2_len h1 h2,(all_pack2 (P:=fun x=>0≤x∧x<256) (by decide) (by decide) (by decide) ha.b hb.b).1,40,_,(List.append_nil _).symm.trans (pack2_at a b []),by decide⟩
 have l1:(c::t).length≤2900:=by rw [List.length_cons]; omega
 have l2:(b++41::c::t).length≤2900:=by simp only [List.length_append,List.length_cons]; omega
 rw [pack2_at,val_lst ha.ne,it_sp (n:=2999) (ha.r 32 m32 _ l2),it_end (n:=2998) (hb.r 41 m41 _ l1)]; rfl
theorem rd_pack3 {p q:PV} {a b:List Int} (ha:RdOk 2900 (dep+1) p a) (hb:∀ dep,RdOk 2900 dep q b) (h1:a.length≤50) (h2:b.length≤50):RdOk 2700 (dep+2) (listV [p,listV [q],q]) (pack3 a b):=by
 refine ⟨fun c hc t ht=>?_,pack3_len h1 h2,(all_pack2 (P:=fun x=>0≤x∧x<256) (by decide) (by decide) (by decide) ha.b (hb 0).b).2,40,_,(List.append_nil _).symm.trans (pack3_at a b []),by decide⟩
 have l1:(c::t).length≤2900:=by rw [List.length_cons]; omega
 have l2:(32::(b++41::c::t)).length≤2900:=by simp only [List.length_append,List.length_cons]; omega
 have l3:(40::(b++41::32::(b++41::c::t))).length≤2900:=by simp only [List.length_append,List.length_cons]; omega
 have hi:valP 3000 (dep+1) ((40::b++[41])++32::(b++41::c::t))=.ok (listV [q]) (32::(b++41::c::t)):=by
  rw [List.append_assoc]
  show valP 3000 (dep+1) (40::(b++41::32::(b++41::c::t)))=_
  rw [val_lst (hb 0).ne,it_end (n:=2999) ((hb dep).r 41 m41 _ l2)]; rfl
 have e:40::(b++41::32::(b++41::c::t))=(40::b++[41])++32::(b++41::c::t):=by rw [List.append_assoc]; rfl
 rw [pack3_at,val_lst ha.ne,it_sp (n:=2999) (ha.r 32 m32 _ l3),e,it_sp (n:=2998) hi,it_end (n:=2997) ((hb (dep+1)).r 41 m41 _ l1)]; rfl
theorem RdOk.less {N M:Nat} {v:PV} (h:RdOk N dep v o) (hm:M≤N):RdOk M dep v o:=⟨fun c hc t ht=>h.r c hc t (Nat.le_trans ht hm),h.l,h.b,h.ne⟩
theorem rd_value (k:Int) {x y:Lf} (hx:x∈leafAll) (hy:y∈leafAll) (p:Bool):RdOk 2700 (valL k x y).n (valL k x y).v ((valL k x y).pk p):=by
 have e2:(Vl.mk (listV [x.v,y.v]) (pack2 x.w y.w) (pack2 x.o y.o) 1).pk p=pack2 (x.pk p) (y.pk p):=by cases p <;> rfl
 have e3:(Vl.mk (listV [x.v,listV [y.v],y.v]) (pack3 x.w y.w) (pack3 x.o y.o) 2).pk p=pack3 (x.pk p) (y.pk p):=by cases p <;> rfl
 have hX:=pk50 (item_of hx) p
 have hY:=pk50 (item_of hy) p
 unfold valL
 split
 ·cases p <;> exact (rd_item (item_of hx) _ 0).less (by decide)
 ·split
  ·have:RdOk 2700 1 (listV []) [40,41]:=⟨fun c hc t ht=>rfl,by decide,by decide,40,[41],rfl,by decide⟩
   cases p <;> exact this
  ·split
   ·rw [e2]; exact rd_pack2 (rd_item (item_of hx) p 0) (rd_item (item_of hy) p 0) hX hY
   ·rw [e3]; exact rd_pack3 (rd_item (item_of hx) p 1) (rd_item (item_of hy) p) hX hY
theorem deep_value (k:Int) {x y:Lf} (hx:x∈leafAll) (hy:y∈leafAll) (p:Bool) {m:Nat} (hm:(valL k x y).n=m+1) (t:List Int) (ht:t.length≤2700):valP 3000 m ((valL k x y).pk p++t)=.err:=by
 have e2:(Vl.mk (listV [x.v,y.v]) (pack2 x.w y.w) (pack2 x.o y.o) 1).pk p=pack2 (x.pk p) (y.pk p):=by cases p <;> rfl
 have e3:(Vl.mk (listV [x.v,listV [y.v],y.v]) (pack3 x.w y.w) (pack3 x.o y.o) 2).pk p=pack3 (x.pk p) (y.pk p):=by cases p <;> rfl
 have hX:=pk50 (item_of hx) p
 have hY:=pk50 (item_of hy) p
 unfold valL at hm ⊢
 split at hm
 ·cases hm
 ·rename_i h0
  rw [if_neg h0]
  split at hm
  ·rename_i h1
   cases hm; rw [if_pos h1]; cases p <;> rfl
  ·rename_i h1
   rw [if_neg h1]
   split at hm
   ·rename_i h2
    cases hm; rw [if_pos h2,e2,pack2_at]; rfl
   ·rename_i h2
    cases hm; rw [if_neg h2,e3,pack3_at,val_lst (rd_item (item_of hx) p 0).ne,it_sp (n:=2999) ((rd_item (item_of hx) p 0).r 32 m32 _ (by simp only [List.length_append,List.length_cons]; omega)),it_err (n:=2998) rfl]
end
end L1
end Mine
set_option autoImplicit false
namespace Mine
namespace L1
section
variable {v:List Int→PR PV} {n:Nat} {acc:List PV} {x o t:List Int} {a:PV} {dep:Nat}
theorem vs_sp {c:Int} (h:v (o++c::t)=.ok a (c::t)):valsN v (n+1) acc (32::(o++c::t))=valsN v n (acc++[a]) (c::t):=by
 rw [valsN,if_pos rfl,h]; rfl
theorem vs_err (h:v x=.err):valsN v (n+1) acc (32::x)=.err:=by
 rw [valsN,if_pos rfl,h]; rfl
structure TagOk (tag:List Int):Prop where
 r:runP 3000 isTagC (tag++[32])=.ok tag [32]
 l:tag.length≤10
 b:∀ x∈tag,0≤x∧x<256
structure NameOk (name:List Int):Prop where
 r:runP 3000 isLet (name++[32])=.ok name [32]
 l:name.length≤10
 b:∀ x∈name,0≤x∧x<256
theorem cmd_read {tag name:List Int} (ht:TagOk tag) (hn:NameOk name) (dep:Nat) (rest:List Int) (hl:rest.length≤2900) :
  cmdP 3000 dep (tag++32::(name++32::rest))=(valsN (valP 3000 dep) 3000 [] (32::rest)).bind fun vs r=>.ok (.tuple [.bytes tag,.bytes (up name),.list vs]) r:=by
 have h1:=reads_more (mono_run 3000 isTagC) ht.r (name++32::rest) (by have:=ht.l; have:=hn.l; simp only [List.length_append,List.length_cons,List.length_nil]; omega)
 have h2:=reads_more (mono_run 3000 isLet) hn.r rest (by have:=hn.l; simp only [List.length_append,List.length_cons,List.length_nil]; omega)
 rw [List.append_assoc] at h1 h2
 unfold cmdP
 rw [show tag++32::(name++32::rest)=tag++([32]++(name++32::rest)) from rfl,h1]
 show (runP 3000 isLet (name++([32]++rest))).bind _=_
 rw [h2]; rfl
theorem road_ok {tag name:List Int} (ht:TagOk tag) (hn:NameOk name) {p q r:PV} {a b c:List Int} (ha:RdOk 2900 dep p a) (hb:RdOk 2900 dep q b) (hc:RdOk 2700 dep r c) :
  cmdP 3000 dep (tag++32::(name++32::(a++32::(b++32::(c++[13,10])))))=.ok (.tuple [.bytes tag,.bytes (up name),.list [p,q,r]]) []:=by
 have l1:=ha.l; have l2:=hb.l; have l3:=hc.l
 rw [cmd_read ht hn dep _ (by simp only [List.length_append,List.length_cons,List.length_nil]; omega),vs_sp (n:=2999) (ha.r 32 m32 _ (by simp only [List.length_append,List.length_cons,List.length_nil]; omega)),vs_sp (n:=2998) (hb.r 32 m32 _ (by simp only [List.length_append,List.length_cons,List.length_nil]; omega)),vs_sp (n:=2997) (hc.r 13 m13 [10] (by decide))]
 rfl
theorem road_deep {tag name:List Int} (ht:TagOk tag) (hn:NameOk name) {p q:PV} {a b c:List Int} (ha:RdOk 2900 dep p a) (hb:RdOk 2900 dep q b) (hl:c.length≤160) (hc:valP 3000 dep (c++[13,10])=.err) :
  cmdP 3000 dep (tag++32::(name++32::(a++32::(b++32::(c++[13,10])))))=.err:=by
 have l1:=ha.l; have l2:=hb.l
 rw [cmd_read ht hn dep _ (by simp only [List.length_append,List.length_cons,List.length_nil]; omega),vs_sp (n:=2999) (ha.r 32 m32 _ (by simp only [List.length_append,List.length_cons,List.length_nil]; omega)),vs_sp (n:=2998) (hb.r 32 m32 _ (by simp only [List.length_append,List.length_cons,List.length_nil]; omega)),vs_err (n:=2997) hc]
 rfl
noncomputable def RdAll (dep:Nat) (l:List (PV × List Int)):Prop:=∀ p∈l,RdOk 2700 dep p.1 p.2
theorem code_row (u:List Int) (dep:Nat):∀ (l:List (PV × List Int)) (p:PV × List Int) (n:Nat) (acc:List PV),RdAll dep (p::l)→l.length<n→(gw (p::l)++93::u).length≤2700→codeN (valP 3000 dep) n acc (gw (p::l)++93::u)=.ok (acc++(p::l).map Prod.fst) u
 | _,_,0,_,_,h,_=>absurd h (Nat.not_lt_zero _)
 | [],p,n+1,acc,h,_,hl=>by
  have hp:=h p List.mem_cons_self
  show codeN _ _ _ (p.2++93::u)=_
  rw [codeN,hp.r 93 m93 u (by have:(p.2++93::u).length≤2700:=hl; have:=len_ap this; rw [List.length_cons] at this; omega)]; rfl
 | q::l,p,n+1,acc,h,hn,hl=>by
  have hp:=h p List.mem_cons_self
  have e:gw (p::q::l)++93::u=p.2++32::(gw (q::l)++93::u):=by
   show (p.2++[32]++glue [32] ((q::l).map Prod.snd))++93::u=_
   rw [List.append_assoc,List.append_assoc]; rfl
  rw [e] at hl ⊢
  have h3:=len_ap hl
  rw [List.length_cons] at h3
  rw [codeN,hp.r 32 m32 _ (by omega)]
  show codeN _ n (acc++[p.1]) (gw (q::l)++93::u)=_
  rw [code_row u dep l q n _ (fun z hz=>h z (List.mem_cons_of_mem _ hz)) (Nat.lt_of_succ_lt_succ hn) (by omega),List.append_assoc]; rfl
theorem data_row (dep:Nat):∀ (l:List (PV × List Int)) (p:PV × List Int) (n:Nat) (acc:List PV),RdAll dep (p::l)→(acc.isEmpty=true→isStat p.1=false)→l.length<n→(gw (p::l)++[13,10]).length≤2700→dataN (valP 3000 dep) n acc (gw (p::l)++[13,10])=.ok (acc++(p::l).map Prod.fst) []
 | _,_,0,_,_,_,h,_=>absurd h (Nat.not_lt_zero _)
 | [],p,n+1,acc,h,hs,_,hl=>by
  have hp:=h p List.mem_cons_self
  show dataN _ _ _ (p.2++13::[10])=_
  rw [dataN,hp.r 13 m13 [10] (by decide)]
  show (if _ then _ else _)=_
  rw [if_neg (fun hh=>by rw [hs hh.1] at hh; exact absurd hh.2 Bool.false_ne_true)]; rfl
 | q::l,p,n+1,acc,h,hs,hn,hl=>by
  have hp:=h p List.mem_cons_self
  have e:gw (p::q::l)++[13,10]=p.2++32::(gw (q::l)++[13,10]):=by
   show (p.2++[32]++glue [32] ((q::l).map Prod.snd))++[13,10]=_
   rw [List.append_assoc,List.append_assoc]; rfl
  rw [e] at hl ⊢
  have h3:=len_ap hl
  rw [List.length_cons] at h3
  rw [dataN,hp.r 32 m32 _ (by omega)]
  show (if _ then _ else _)=_
  rw [if_neg (fun hh=>by rw [hs hh.1] at hh; exact absurd hh.2 Bool.false_ne_true)]
  show dataN _ n (acc++[p.1]) (gw (q::l)++[13,10])=_
  rw [data_row dep l q n _ (fun z hz=>h z (List.mem_cons_of_mem _ hz)) (fun hh=>by cases acc <;> cases hh) (Nat.lt_of_succ_lt_succ hn) (by omega),List.append_assoc]; rfl
structure SaidOk (s:List Int):Prop where
 r:textP 3000 (s++[13,10])=.ok s []
 l:s.length≤3
 b:∀ x∈s,0≤x∧x<256
 ne:∃ c t,s=c::t∧c≠91
theorem fin_said {s:List Int} (h:SaidOk s) (tag w:List Int) (code:PV):finP 3000 tag w code (s++[13,10])=.ok (.tuple [sStat,.bytes tag,.bytes w,code,.bytes s]) []:=by
 unfold finP; rw [h.r]; rfl
noncomputable def TagIs (mark head:List Int):Prop:=∀ dep r,r.length≤2700→lineP 3000 dep (head++32::r)=restP 3000 dep mark r
theorem tag_star:TagIs [] [42]:=fun dep r _=>rfl
theorem tag_tag {tag:List Int} (h:TagOk tag) (hc:∃ c t,tag=c::t∧c≠43∧c≠42):TagIs tag tag:=fun dep r hr=>by
 have h1:=reads_more (mono_run 3000 isTagC) h.r r (by have:=h.l; simp only [List.length_append,List.length_cons,List.length_nil]; omega)
 rw [List.append_assoc] at h1
 obtain ⟨c,t,rfl,h43,h42⟩:=hc
 have h1:runP 3000 isTagC (c::(t++32::r))=.ok (c::t) (32::r):=h1
 show lineP 3000 dep (c::(t++32::r))=_
 unfold lineP
 show (if c=43 then _ else if c=42 then _ else _)=_
 rw [if_neg h43,if_neg h42,h1]; rfl
structure WordOk (word loose:List Int):Prop where
 r:statP (loose++[32])=some word
 l:loose.length=word.length
 b:∀ x∈loose,0≤x∧x<256
 s:loose.length≤3
theorem rest_word {word loose:List Int} (h:WordOk word loose) (dep:Nat) (mark r:List Int):restP 3000 dep mark (loose++32::r)=statRest 3000 dep mark word r:=by
 have h1:=statP_some h.r r
 rw [List.append_assoc] at h1
 unfold restP
 rw [show loose++32::r=loose++([32]++r) from rfl,h1]
 show statRest 3000 dep mark word ((loose++([32]++r)).drop (word.length+1))=_
 rw [← List.append_assoc,← h.l,show loose.length+1=(loose++[32]).length by rw [List.length_append]; rfl,List.drop_left]
theorem line_stat0 {mark head word loose s:List Int} (ht:TagIs mark head) (hw:WordOk word loose) (hs:SaidOk s) (dep:Nat):lineP 3000 dep (head++32::(loose++32::(s++[13,10])))=.ok (.tuple [sStat,.bytes mark,.bytes word,.none,.bytes s]) []:=by
 rw [ht dep _ (by have:=hw.s; have:=hs.l; simp only [List.length_append,List.length_cons,List.length_nil]; omega),rest_word hw]
 have hf:=fin_said hs mark word .none
 obtain ⟨c,t,e,hc⟩:=hs.ne
 rw [e] at hf ⊢
 exact (if_neg hc).trans hf
theorem line_stat1 {mark head word loose s:List Int} (ht:TagIs mark head) (hw:WordOk word loose) (hs:SaidOk s) {dep:Nat} {p:PV × List Int} {l:List (PV × List Int)} (h:RdAll dep (p::l)) (hn:l.length≤19) (hl:(gw (p::l)).length≤2000) :
  lineP 3000 dep (head++32::(loose++32::(91::(gw (p::l)++93::32::(s++[13,10])))))=.ok (.tuple [sStat,.bytes mark,.bytes word,.list ((p::l).map Prod.fst),.bytes s]) []:=by
 have h3:=hw.s; have h4:=hs.l
 rw [ht dep _ (by simp only [List.length_append,List.length_cons,List.length_nil]; omega),rest_word hw]
 show (codeN (valP 3000 dep) 3000 [] (gw (p::l)++93::32::(s++[13,10]))).bind (codeEnd 3000 mark word)=_
 rw [code_row _ dep l p 3000 [] h (by omega) (by simp only [List.length_append,List.length_cons,List.length_nil]; omega)]
 exact fin_said hs mark word _
theorem line_cont {s:List Int} (hs:SaidOk s) (dep:Nat):lineP 3000 dep (43::32::(s++[13,10]))=.ok (.tuple [sCont,.bytes s]) []:=by
 show (textP 3000 (s++[13,10])).bind _=_
 rw [hs.r]; rfl
noncomputable def noStat (x:List Int):Bool:=[[79,75,32],[78,79,32],[66,65,68],[66,89,69]].all fun w=>!beqL (up (x.take 3)) w
theorem stat_no {x:List Int} (h:noStat (x.take 3)=true):statP x=none:=by
 have h0:up (x.take 3) ∉ [[79,75,32],[78,79,32],[66,65,68],[66,89,69]]:=fun hm=>by
  have:=List.all_eq_true.1 h _ hm
  rw [List.take_take,show min 3 3=3 from rfl] at this
  have e:beqL (up (x.take 3)) (up (x.take 3))=true:=beq_self_eq_true _
  rw [e] at this; cases this
 rw [statP_eq,List.find?_eq_none]
 intro w hw hh
 unfold hit at hh
 have h2:=of_decide_eq_true (aR hh)
 apply h0
 have h3:up (x.take 3)=(w++[32]).take 3:=by
  rw [← h2,up_take,up_take,List.take_take]
  congr 1
  simp only [statuses,List.mem_cons,List.not_mem_nil,or_false] at hw
  rcases hw with rfl | rfl | rfl | rfl <;> rfl
 rw [h3]
 simp only [statuses,List.mem_cons,List.not_mem_nil,or_false] at hw
 rcases hw with rfl | rfl | rfl | rfl <;> decide
theorem line_data {dep:Nat} {p q:PV × List Int} {l:List (PV × List Int)} (h:RdAll dep (p::q::l)) (hs:isStat p.1=false) (hp:3≤(p.2++[32]).length∧noStat ((p.2++[32]).take 3)=true) (hn:l.length≤18) (hl:(gw (p::q::l)).length≤2000) :
  lineP 3000 dep (42::32::(gw (p::q::l)++[13,10]))=.ok (.tuple [sData,.list ((p::q::l).map Prod.fst)]) []:=by
 show restP 3000 dep [] (gw (p::q::l)++[13,10])=_
 have e:gw (p::q::l)++[13,10]=(p.2++[32])++(glue [32] ((q::l).map Prod.snd)++[13,10]):=by
  rw [← List.append_assoc]; rfl
 have hst:statP (gw (p::q::l)++[13,10])=none:=stat_no (by rw [e,List.take_append_of_le_length hp.1]; exact hp.2)
 unfold restP
 rw [hst]
 show (if _ then _ else _)=_
 rw [if_neg (by intro h; exact h rfl),data_row dep (q::l) p 3000 [] h (fun _=>hs) (by rw [List.length_cons]; omega) (by rw [List.length_append]; show _+2≤2700; omega)]
 rfl
end
end L1
end Mine
set_option autoImplicit false
namespace Mine
namespace L1
noncomputable def endI (i:Nat):Int × List Int:=(endsT[i]?).getD (0,[])
noncomputable def pairIx (i j:Nat):Pr:=if i=j then mkPr1 (endI i) else mkPr (endI i) (endI j)
noncomputable def pairAll:List Pr:=(List.range 8).flatMap fun i=>(List.range 8).map (pairIx i)
theorem toNat_inj {a b:Int} (ha:0≤a) (hb:0≤b) (h:a.toNat=b.toNat):a=b:=by rw [← Int.toNat_of_nonneg ha,← Int.toNat_of_nonneg hb,h]
theorem toNat_lt' {a:Int} {n:Nat} (ha:0≤a) (h:a<n):a.toNat<n:=Int.ofNat_lt.1 (by rw [Int.toNat_of_nonneg ha]; exact h)
theorem pair_mem (c e:Int):pairL c e∈pairAll:=by
 have h1:=Int.emod_nonneg c (show (8:Int)≠0 by decide)
 have h2:=Int.emod_lt_of_pos c (show (0:Int)<8 by decide)
 have h3:=Int.emod_nonneg e (show (8:Int)≠0 by decide)
 have h4:=Int.emod_lt_of_pos e (show (0:Int)<8 by decide)
 have:pairL c e=pairIx (c % 8).toNat (e % 8).toNat:=by
  unfold pairL pairIx
  exact ite_congr (propext ⟨fun e=>congrArg Int.toNat e,fun e=>toNat_inj h1 h3 e⟩) (fun _=>rfl) fun _=>rfl
 rw [this]
 exact List.mem_flatMap.2 ⟨_,List.mem_range.2 (toNat_lt' h1 h2),List.mem_map_of_mem (List.mem_range.2 (toNat_lt' h3 h4))⟩
noncomputable def numT (n:Int):List Int:=if n=0 then [42] else decD n.toNat
noncomputable def plainB (c:Int):Bool:=decide (0<c) && decide (c<128) && !(c == 10) && !(c == 13) && !(c == 34) && !(c == 92) && !(c == 44)
theorem plain_of {c:Int} (h:plainB c=true):Pl c∧c≠44:=by
 simp only [plainB,Bool.and_eq_true,decide_eq_true_iff,Bool.not_eq_true',beq_eq_false_iff_ne] at h
 obtain ⟨⟨⟨⟨⟨⟨h1,h2⟩,h3⟩,h4⟩,h5⟩,h6⟩,h7⟩:=h
 exact ⟨⟨h1,h2,h3,h4,h5,h6⟩,h7⟩
noncomputable def inL (n:Int):Bool:=decide (0≤n) && decide (n<4294967296)
noncomputable def ckPr (d:Nat) (q:Pr):Bool:=inL q.a && inL q.b && isW1 (den T G 3000 (d+2) 29 [.int q.a]) (numT q.a) && isW1 (den T G 3000 (d+2) 29 [.int q.b]) (numT q.b) && beqL q.t (if q.a=q.b then numT q.a else numT q.a++[58]++numT q.b) && decide (q.t.length≤12) && q.t.all plainB && decide ((numT q.a).length≤10) && decide ((numT q.b).length≤10)
theorem pr_ck (d:Nat):(pairAll.all (ckPr d))=true:=by kernel_rfl
structure PrOk (d:Nat) (q:Pr):Prop where
 a:0≤q.a∧q.a<4294967296
 b:0≤q.b∧q.b<4294967296
 na:den T G 3000 (d+2) 29 [.int q.a]=.ok (.bytes (numT q.a))
 nb:den T G 3000 (d+2) 29 [.int q.b]=.ok (.bytes (numT q.b))
 t:q.t=if q.a=q.b then numT q.a else numT q.a++[58]++numT q.b
 l:q.t.length≤12
 p:∀ c∈q.t,Pl c∧c≠44
 la:(numT q.a).length≤10
 lb:(numT q.b).length≤10
theorem pr_ok {q:Pr} (h:q∈pairAll) (d:Nat):PrOk d q:=by
 have h:=List.all_eq_true.1 (pr_ck d) q h
 simp only [ckPr,inL,Bool.and_eq_true,decide_eq_true_iff] at h
 obtain ⟨⟨⟨⟨⟨⟨⟨⟨h1,h2⟩,h3⟩,h4⟩,h5⟩,h6⟩,h7⟩,h8⟩,h9⟩:=h
 exact ⟨h1,h2,isW1_so h3,isW1_so h4,beqL_so _ _ h5,h6,fun c hc=>plain_of (List.all_eq_true.1 h7 c hc),h8,h9⟩
noncomputable def wsC:CE:=.and_ [(.isin1 (.var 3) .int),(.cmp2 .le .lt (.lit (.int 0)) (.var 3) (.glob 0))]
noncomputable def wsB1:List CS:=[.expr (.call 0 [(.and_ [(.isin (.var 1) [.list,.tuple]),(.cmp .eq (.len (.var 1)) (.lit (.int 2)))])]),.for_ 3 (.var 1) [.expr (.call 0 [wsC])]]
noncomputable def wsB2:List CS:=[.assign 4 (.idx (.var 1) (.lit (.int 0))),.assign 5 (.idx (.var 1) (.lit (.int 1))),.if_ (.cmp .eq (.var 4) (.var 5)) [.app 2 (.call 29 [(.var 4)])] [.app 2 (.bin .add (.bin .add (.call 29 [(.var 4)]) (.lit (.bytes [58]))) (.call 29 [(.var 5)]))]]
section
variable {d:Nat} {l:Slot} {kb kn:List Slot→Res PV} {R:Res PV}
theorem ebv {F:Nat→List PV→Res PV} {ρ:List Slot} {e:CE} {x:List Int} {n:Nat} (h:EB F G ρ e x n):evE F G e ρ=.ok (.bytes x):=h.1
theorem in_lim {F:Nat→List PV→Res PV} {n:Int} {a b c e f:Slot} (h:0≤n∧n<4294967296):evE F G wsC [a,b,c,.val (.int n),e,f]=.ok (.bool true):=by
 refine Eq.trans (ev_and2 (p:=true) (q:=true) rfl ?_) rfl
 rw [xcmp2]
 show (if decide (0≤n) then Res.ok (PV.bool (decide (n<4294967296))) else _)=_
 rw [decide_eq_true h.1,decide_eq_true h.2]; rfl
theorem ws_loop1 (rest:List PV) (hk:∀ s1 s3,fr (den T G 3000 (d+1)) G 3000 1 wsB1 rest [l,s1,.unset,s3,.unset,.unset] kb kn=R):∀ (qs:List Pr) (s1 s3:Slot),(∀ q∈qs,(0≤q.a∧q.a<4294967296)∧0≤q.b∧q.b<4294967296)→fr (den T G 3000 (d+1)) G 3000 1 wsB1 (qs.map Pr.pv++rest) [l,s1,.unset,s3,.unset,.unset] kb kn=R
 | [],s1,s3,_=>hk s1 s3
 | q::r,s1,s3,h=>by
  have hq:=h q List.mem_cons_self
  exact fr_cons (rn (need_y lib rfl) (rfo (v:=q.pv) rfl rfl (fr_cons (rn (need_y lib (in_lim hq.1)) (r0 (fr_cons (rn (need_y lib (in_lim hq.2)) (r0 (fr_nil (r0 (ws_loop1 rest hk r _ _ fun z hz=>h z (List.mem_cons_of_mem _ hz))))))))))))
theorem ws_loop2:∀ (qs:List Pr) (m:List (List Int)) (s1 s3 s4 s5:Slot),(∀ q∈qs,PrOk d q)→m.length+qs.length≤20→(∀ s1 s4 s5,kn [l,s1,.own ((m++qs.map Pr.t).map PV.bytes),s3,s4,s5]=R)→fr (den T G 3000 (d+2)) G 3000 1 wsB2 (qs.map Pr.pv) [l,s1,.own (m.map PV.bytes),s3,s4,s5] kb kn=R
 | [],m,s1,s3,s4,s5,_,_,hk=>by
  have:=hk s1 s4 s5
  rw [List.map_nil,List.append_nil] at this; exact this
 | q::r,m,s1,s3,s4,s5,h,hl,hk=>by
  have hq:=h q List.mem_cons_self
  have hl':m.length+r.length+1≤20:=hl
  have hm:(m.map PV.bytes).length<lim:=by rw [List.length_map]; exact Nat.lt_of_lt_of_le (show m.length<20 by omega) (by decide)
  have step:∀ s1 s4 s5,fr (den T G 3000 (d+2)) G 3000 1 wsB2 (r.map Pr.pv) [l,s1,.own (m.map PV.bytes++[.bytes q.t]),s3,s4,s5] kb kn=R:=fun s1 s4 s5=>by
   rw [show m.map PV.bytes++[.bytes q.t]=(m++[q.t]).map PV.bytes by rw [List.map_append]; rfl]
   refine ws_loop2 r (m++[q.t]) _ _ _ _ (fun z hz=>h z (List.mem_cons_of_mem _ hz)) (by rw [List.length_append]; show m.length+1+r.length≤20; omega) fun a b c=>?_
   rw [List.append_assoc]; exact hk a b c
  refine fr_cons (rs (v:=.int q.a) rfl (rs (v:=.int q.b) rfl ?_))
  by_cases e:q.a=q.b
  ·have ht:=hq.t; rw [if_pos e] at ht
   refine ry (bT (beq_iff_eq.2 e)) (rap rfl (v:=.bytes q.t) (ht ▸ hq.na) hm (r0 (r0 (step _ _ _))))
  ·have ht:=hq.t; rw [if_neg e] at ht
   refine rf (bF (beqF e)) (rap rfl (v:=.bytes q.t) ?_ hm (r0 (r0 (step _ _ _))))
   rw [ht]
   exact ebv (EB.add (EB.add (p:=10) ⟨hq.na,hq.la⟩ .lit (by decide)) (q:=10) ⟨hq.nb,hq.lb⟩ (by decide))
noncomputable def setT (qs:List Pr):List Int:=glue [44] (qs.map Pr.t)
theorem ws_ok {qs:List Pr} (h:∀ q∈qs,PrOk d q) (h0:qs≠[]) (hl:qs.length≤3):den T G 3000 (d+3) 30 [.list (qs.map Pr.pv)]=.ok (.bytes (setT qs)):=by
 rw [den_code (T:=T) (f:=30) (vs:=vf_write_set) (k:=1) (body:=cf_write_set) rfl rfl]
 have hc:evE (den T G 3000 (d+2)) G (.and_ [(.isin (.var 0) [.list,.tuple]),(.cmp .gt (.len (.var 0)) (.lit (.int 0)))]) [.val (.list (qs.map Pr.pv)),.unset,.unset,.unset,.unset,.unset]=.ok (.bool true):=by
  refine Eq.trans (ev_and2 (p:=true) rfl rfl) (bT (decide_eq_true ?_))
  have:=List.length_pos_iff.2 h0
  rw [List.length_map]; omega
 refine go (rn (need_y lib hc) (rfo rfl rfl ?_))
 have:=ws_loop1 (d:=d+1) (l:=.val (.list (qs.map Pr.pv))) (kb:=kS) (kn:=fun ρ=>run (den T G 3000 (d+2)) G 3000 [.own 2 [],.for_ 1 (.var 0) wsB2,.frz 2,.ret (.join (.lit (.bytes [44])) (.var 2))] ρ kS kN) (R:=.ok (.bytes (setT qs))) [] (fun s1 s3=>fr_nil (row0 (rfo rfl rfl (ws_loop2 qs [] _ _ _ _ h (by show 0+_≤20; omega) fun a b c=>rfz rfl (rr (ev_join rfl rfl (join_ok [44] (qs.map Pr.t) (n:=12) (fun c hc=>by obtain ⟨q,hq,rfl⟩:=List.mem_map.1 hc; exact (h q hq).l) (by rw [List.length_map]; omega) (by decide)))))))) qs .unset .unset (fun q hq=>⟨(h q hq).a,(h q hq).b⟩)
 rw [List.append_nil] at this
 exact this
end
end L1
end Mine
set_option autoImplicit false
namespace Mine
namespace L1
noncomputable def spl:List Int→List Int→List (List Int)
 | cur,[]=>[cur]
 | cur,c::t=>if c=44 then cur::spl [] t else spl (cur++[c]) t
theorem spl_app (r:List Int):∀ (a cur:List Int),(∀ c∈a,c≠44)→spl cur (a++r)=spl (cur++a) r
 | [],cur,_=>by rw [List.append_nil]; rfl
 | c::a,cur,h=>by
  show (if c=44 then _ else spl (cur++[c]) (a++r))=_
  rw [if_neg (h c List.mem_cons_self),spl_app r a (cur++[c]) fun x hx=>h x (List.mem_cons_of_mem _ hx),List.append_assoc]; rfl
theorem spl_glue:∀ (ts:List (List Int)) (t:List Int),(∀ a∈t::ts,∀ c∈a,c≠44)→spl [] (glue [44] (t::ts))=t::ts
 | [],t,h=>by
  have:=spl_app [] t [] (h t List.mem_cons_self)
  rw [List.append_nil] at this; exact this
 | u::ts,t,h=>by
  show spl [] (t++[44]++glue [44] (u::ts))=_
  rw [List.append_assoc,spl_app _ t [] (h t List.mem_cons_self)]
  show t::spl [] (glue [44] (u::ts))=_
  rw [spl_glue ts u fun a ha=>h a (List.mem_cons_of_mem _ ha)]
noncomputable def ixs (q n:Nat):List PV:=(List.range' q n).map fun (k:Nat)=>PV.int (k:Int)
theorem range_ixs (n:Nat):rangeL (n:Int)=ixs 0 n:=by
 unfold rangeL ixs; rw [Int.toNat_natCast,List.range_eq_range']
theorem ixs_cons (q n:Nat):ixs q (n+1)=.int q::ixs (q+1) n:=rfl
section
variable {F:Nat→List PV→Res PV} {d:Nat} {kb kn:List Slot→Res PV} {R:Res PV}
theorem rfR {i:Nat} {b r:List CS} {e:CE} {ρ:List Slot} {n:Nat} (h:evE F G e ρ=.ok (.int (n:Int))) (hn:n≤100000) (k:fr F G 3000 i b (ixs 0 n) ρ kb (fun ρ=>run F G 3000 r ρ kb kn)=R):run F G 3000 (.forR i e b::r) ρ kb kn=R:=by
 have hx:evS F G 3000 (.forR i e b) ρ=forN (fun ρ v=>.ok (putS ρ i (.val v))) (fun ρ=>evSs F G 3000 b ρ) (ixs 0 n) ρ:=by
  show (evE F G e ρ).bind _=_
  rw [h,b_ok]
  show (if -(lim:Int)≤(n:Int)∧(n:Int)≤lim then _ else _)=_
  rw [if_pos ⟨by unfold lim; omega,by unfold lim; omega⟩,range_ixs]
 rw [← k]; unfold run fr; rw [xSs,hx]
 cases forN (fun ρ v=>.ok (putS ρ i (.val v))) (fun ρ=>evSs F G 3000 b ρ) (ixs 0 n) ρ with
 | ok x=>obtain ⟨f,ρ'⟩:=x; cases f <;> rfl
 | exc=>rfl
 | stuck=>rfl
noncomputable def spB:List CS:=[.if_ (.cmp .eq (.idx (.var 0) (.var 3)) (.lit (.int 44))) [.app 1 (.slc (.var 0) (some (.var 2)) (some (.var 3))),.assign 2 (.bin .add (.var 3) (.lit (.int 1)))] []]
theorem sp_loop (l:List Int) (hl:l.length≤1000) (all:List (List Int)) (hk:∀ (st:Nat) (m:List (List Int)) (s:Slot),m++[l.drop st]=all→m.length≤1000→kn [.val (.bytes l),.own (m.map PV.bytes),.val (.int st),s]=R):∀ (rest cur:List Int) (q st:Nat) (m:List (List Int)) (s:Slot),l.drop q=rest→st≤q→q≤l.length→(l.drop st).take (q - st)=cur→m.length≤q→m++spl cur rest=all→fr F G 3000 3 spB (ixs q rest.length) [.val (.bytes l),.own (m.map PV.bytes),.val (.int st),s] kb kn=R
 | [],cur,q,st,m,s,hd,hs,hq,hc,hm,ha=>by
  refine hk st m s ?_ (by omega)
  have:=drop_nil hd
  have e:q=l.length:=by omega
  rw [← ha,← hc,e,List.take_of_length_le (by rw [List.length_drop]; exact Nat.le_refl _)]; rfl
 | c::t,cur,q,st,m,s,hd,hs,hq,hc,hm,ha=>by
  obtain ⟨_,h2,h3⟩:=drop_cons hd
  rw [List.length_cons,ixs_cons]
  refine fr_cons ?_
  by_cases h:c=44
  ·have hx:evE F G (.slc (.var 0) (some (.var 2)) (some (.var 3))) [.val (.bytes l),.own (m.map PV.bytes),.val (.int st),.val (.int q)]=.ok (.bytes cur):=by
    refine Eq.trans (ev_cut (q:=st) (k:=q - st) rfl rfl (by rw [Nat.add_sub_cancel' hs]; rfl)) (by rw [hc])
   refine ry (Eq.trans (ev_cmp (ix hd) rfl rfl) (bT (beq_iff_eq.2 h))) (rap rfl hx (by rw [List.length_map]; unfold lim; omega) (rs (v:=.int ((q+1:Nat):Int)) rfl (r0 (r0 ?_))))
   refine Eq.trans (congrArg (fun z=>fr F G 3000 3 spB (ixs (q+1) t.length) [.val (.bytes l),.own z,.val (.int ((q+1:Nat):Int)),.val (.int q)] kb kn) (show m.map PV.bytes++[.bytes cur]=(m++[cur]).map PV.bytes by rw [List.map_append]; rfl)) ?_
   refine sp_loop l hl all hk t [] (q+1) (q+1) (m++[cur]) _ h2 (Nat.le_refl _) h3 (by rw [Nat.sub_self,List.take_zero]) (by rw [List.length_append]; exact Nat.succ_le_succ hm) ?_
   rw [← ha,List.append_assoc]
   show m++(cur::spl [] t)=m++(if c=44 then _ else _)
   rw [if_pos h]
  ·refine rf0 (Eq.trans (ev_cmp (ix hd) rfl rfl) (bF (beqF h))) (r0 ?_)
   refine sp_loop l hl all hk t (cur++[c]) (q+1) st m _ h2 (by omega) h3 ?_ (by omega) ?_
   ·rw [← hc,show q+1 - st=(q - st)+1 by omega,List.take_add_one,List.getElem?_drop,Nat.add_sub_cancel' hs,(drop_cons hd).1]; rfl
   ·rw [← ha]
    show _=m++(if c=44 then _ else _)
    rw [if_neg h]
theorem d_split (l:List Int) (hl:l.length≤1000):den T G 3000 (d+1) 31 [.bytes l]=.ok (.list ((spl [] l).map PV.bytes)):=by
 rw [den_code (T:=T) (f:=31) (vs:=vf_split_commas) (k:=1) (body:=cf_split_commas) rfl rfl]
 refine go (row0 (rs (v:=.int ((0:Nat):Int)) rfl (rfR (n:=l.length) rfl (by omega) (sp_loop l hl (spl [] l) (fun st m s e hm=>?_) l [] 0 0 [] _ rfl (Nat.le_refl 0) (Nat.zero_le _) rfl (Nat.le_refl 0) rfl))))
 refine rap rfl (ev_from (q:=st) rfl rfl) (by rw [List.length_map]; unfold lim; omega) (rfz rfl (rr ?_))
 refine congrArg (fun z=>Res.ok (PV.list z)) ?_
 rw [← e,List.map_append]; rfl
noncomputable def findC:Nat→List Int→Option Nat
 | _,[]=>none
 | q,c::t=>if c=58 then some q else findC (q+1) t
noncomputable def coB:List CS:=[.if_ (.cmp .eq (.idx (.var 2) (.var 4)) (.lit (.int 58))) [.assign 3 (.var 4),.brk] []]
theorem co_loop (a b f g:Slot) (l:List Int):∀ (rest:List Int) (q:Nat) (s:Slot),l.drop q=rest→(∀ s,findC q rest=none→kn [a,b,.val (.bytes l),.val (.int (-1)),s,f,g]=R)→(∀ (j:Nat) s,findC q rest=some j→kn [a,b,.val (.bytes l),.val (.int j),s,f,g]=R)→fr F G 3000 4 coB (ixs q rest.length) [a,b,.val (.bytes l),.val (.int (-1)),s,f,g] kb kn=R
 | [],q,s,_,h1,_=>h1 s rfl
 | c::t,q,s,hd,h1,h2=>by
  rw [List.length_cons,ixs_cons]
  refine fr_cons ?_
  by_cases h:c=58
  ·refine ry (Eq.trans (ev_cmp (ix hd) rfl rfl) (bT (beq_iff_eq.2 h))) (rs rfl (rbk (h2 q _ (if_pos h))))
  ·refine rf0 (Eq.trans (ev_cmp (ix hd) rfl rfl) (bF (beqF h))) (r0 ?_)
   exact co_loop a b f g l t (q+1) _ (drop_cons hd).2.1 (fun s e=>h1 s ((if_neg h).trans e)) fun j s e=>h2 j s ((if_neg h).trans e)
noncomputable def toI:Res PV→Res Int
 | .ok v=>onI v .ok
 | .exc=>.exc
 | .stuck=>.stuck
theorem toI_ok {r:Res PV} {n:Int} (h:toI r=.ok n):r=.ok (.int n):=by
 cases r with
 | ok v=>cases v <;> cases h; rfl
 | exc=>cases h
 | stuck=>cases h
theorem toI_exc {r:Res PV} (h:toI r=.exc):r=.exc:=by
 cases r with
 | ok v=>cases v <;> cases h
 | exc=>rfl
 | stuck=>cases h
noncomputable def numR (d:Nat) (b:List Int):Res Int:=toI (den T G 3000 (d+2) 32 [.bytes b])
noncomputable def pieceR (d:Nat) (b:List Int):Res (Int × Int):=match findC 0 b with
 | none=>(numR d b).bind fun a=>.ok (a,a)
 | some j=>(numR d (b.take j)).bind fun a=>(numR d (b.drop (j+1))).bind fun c=>.ok (a,c)
noncomputable def rsB:List CS:=[.assign 3 (.neg 1),.forR 4 (.len (.var 2)) coB,.if_ (.cmp .lt (.var 3) (.lit (.int 0))) [.assign 5 (.call 32 [(.var 2)]),.assign 6 (.var 5)] [.assign 5 (.call 32 [(.slc (.var 2) none (some (.var 3)))]),.assign 6 (.call 32 [(.slc (.var 2) (some (.bin .add (.var 3) (.lit (.int 1)))) none)])],.app 1 (.tup [(.var 5),(.var 6)])]
theorem rx {i:Nat} {e:CE} {r:List CS} {ρ:List Slot} (h:evE F G e ρ=.exc):run F G 3000 (.assign i e::r) ρ kb kn=.exc:=by
 unfold run; rw [run_exc (sx_exc h)]; rfl
theorem bind_ok {α β:Type} {r:Res α} {f:α→Res β} {b:β} (h:r.bind f=.ok b):∃ a,r=.ok a∧f a=.ok b:=by
 cases r with
 | ok a=>exact ⟨a,rfl,h⟩
 | exc=>cases h
 | stuck=>cases h
theorem bind_exc {α β:Type} {r:Res α} {f:α→Res β} (h:r.bind f=.exc):r=.exc∨∃ a,r=.ok a∧f a=.exc:=by
 cases r with
 | ok a=>exact Or.inr ⟨a,rfl,h⟩
 | exc=>exact Or.inl rfl
 | stuck=>cases h
theorem piece_ok {b:List Int} {a c:Int} (h:pieceR d b=.ok (a,c)) (hb:b.length≤1000) (s0 s3 s4 s5 s6:Slot) (m:List PV) (hm:m.length<1000) (hk:∀ s3 s4 s5 s6,kn [s0,.own (m++[sPv (a,c)]),.val (.bytes b),s3,s4,s5,s6]=R) :
  run (den T G 3000 (d+2)) G 3000 rsB [s0,.own m,.val (.bytes b),s3,s4,s5,s6] kb kn=R:=by
 have hm':m.length<lim:=Nat.lt_of_lt_of_le hm (by decide)
 refine rs rfl (rfR (n:=b.length) rfl (by omega) (co_loop s0 (.own m) s5 s6 b b 0 _ rfl (fun s e=>?_) fun j s e=>?_))
 ·unfold pieceR at h; rw [e] at h
  obtain ⟨a',h1,h2⟩:=bind_ok h
  cases h2
  exact ry rfl (rs (toI_ok h1) (rs rfl (r0 (rap rfl rfl hm' (r0 (hk _ _ _ _))))))
 ·unfold pieceR at h; rw [e] at h
  obtain ⟨a',h1,h2⟩:=bind_ok h
  obtain ⟨c',h3,h4⟩:=bind_ok h2
  cases h4
  refine rf (bF (decide_eq_false (Int.not_lt.2 (Int.natCast_nonneg j)))) (rs (Eq.trans (to_call1 (ev_pre (k:=j) rfl rfl)) (toI_ok h1)) (rs (Eq.trans (to_call1 (ev_from (q:=j+1) rfl rfl)) (toI_ok h3)) (r0 (rap rfl rfl hm' (r0 (hk _ _ _ _))))))
theorem piece_bad {b:List Int} (h:pieceR d b=.exc) (hb:b.length≤1000) (s0 s3 s4 s5 s6:Slot) (m:List PV):run (den T G 3000 (d+2)) G 3000 rsB [s0,.own m,.val (.bytes b),s3,s4,s5,s6] kb kn=.exc:=by
 refine rs rfl (rfR (n:=b.length) rfl (by omega) (co_loop s0 (.own m) s5 s6 b b 0 _ rfl (fun s e=>?_) fun j s e=>?_))
 ·unfold pieceR at h; rw [e] at h
  rcases bind_exc h with h1 | ⟨a,_,h1⟩
  ·exact ry rfl (rx (toI_exc h1))
  ·cases h1
 ·unfold pieceR at h; rw [e] at h
  refine rf (bF (decide_eq_false (Int.not_lt.2 (Int.natCast_nonneg j)))) ?_
  rcases bind_exc h with h1 | ⟨a,h1,h2⟩
  ·exact rx (Eq.trans (to_call1 (ev_pre (k:=j) rfl rfl)) (toI_exc h1))
  ·rcases bind_exc h2 with h3 | ⟨c,_,h3⟩
   ·exact rs (Eq.trans (to_call1 (ev_pre (k:=j) rfl rfl)) (toI_ok h1)) (rx (Eq.trans (to_call1 (ev_from (q:=j+1) rfl rfl)) (toI_exc h3)))
   ·cases h3
theorem rs_loop (rest:List PV) (s0:Slot):∀ (ts:List (List Int × Int × Int)) (m:List PV) (s2 s3 s4 s5 s6:Slot),(∀ t∈ts,pieceR d t.1=.ok t.2∧t.1.length≤1000)→m.length+ts.length≤100→(∀ s2 s3 s4 s5 s6,fr (den T G 3000 (d+2)) G 3000 2 rsB rest [s0,.own (m++ts.map fun t=>sPv t.2),s2,s3,s4,s5,s6] kb kn=R) →
  fr (den T G 3000 (d+2)) G 3000 2 rsB (ts.map (fun t=>.bytes t.1)++rest) [s0,.own m,s2,s3,s4,s5,s6] kb kn=R
 | [],m,s2,s3,s4,s5,s6,_,_,hk=>by
  have:=hk s2 s3 s4 s5 s6
  rw [List.map_nil,List.append_nil] at this; exact this
 | t::ts,m,s2,s3,s4,s5,s6,h,hl,hk=>by
  have h1:=h t List.mem_cons_self
  have hl':m.length+ts.length+1≤100:=hl
  refine fr_cons (piece_ok h1.1 h1.2 _ _ _ _ _ m (by omega) fun a b c e=>rs_loop rest s0 ts _ _ _ _ _ _ (fun z hz=>h z (List.mem_cons_of_mem _ hz)) (by rw [List.length_append]; show m.length+1+ts.length≤100; omega) fun s2 s3 s4 s5 s6=>?_)
  rw [List.append_assoc]; exact hk s2 s3 s4 s5 s6
theorem d_readset {l:List Int} (hl:l.length≤1000) {vs:List PV} (hv:(spl [] l).map PV.bytes=vs) (k:fr (den T G 3000 (d+2)) G 3000 2 rsB vs [.val (.bytes l),.own [],.unset,.unset,.unset,.unset,.unset] kS (fun ρ=>run (den T G 3000 (d+2)) G 3000 [.frz 1,.ret (.var 1)] ρ kS kN)=R):den T G 3000 (d+3) 33 [.bytes l]=R:=by
 rw [den_code (T:=T) (f:=33) (vs:=vf_read_set) (k:=1) (body:=cf_read_set) rfl rfl]
 refine go (rn (need_y lib rfl) (row0 (rfo (v:=.list vs) (Eq.trans (to_call1 rfl) (by rw [← hv]; exact d_split l hl)) rfl k)))
end
end L1
end Mine
set_option autoImplicit false
namespace Mine
namespace L1
noncomputable def bads:List Int:=[0,10,13,31,34,37,40,41,42,92,93,123,127,128,255]
noncomputable def odds:List Int:=[43,44,46,47,58,64,91,96,123]
noncomputable def rowsIn (vs:List PySem.Str) (k:Nat) (b:List CS) (args:List PV):List PV:=match b with
 | .assign _ (.tup es)::_=>(match evEs (fun _ _=>.stuck) G es (startS vs.length k args) with
  | .ok l=>l
  | _=>[])
 | _=>[]
noncomputable def rowsOf (f:Nat) (args:List PV):List PV:=match T f with
 | some (.code vs k b)=>rowsIn vs k b args
 | _=>[]
theorem d_rows {d f k j:Nat} {vs:List PySem.Str} {es:List CE} {args:List PV} {r:Int} {rows:List PV} (hT:T f=some (.code vs k [.assign j (.tup es),.ret (.idx (.var j) (.bin .mod (.var 0) (.len (.var j))))])) (hk:(PV.int r::args).length=k) (hes:evEs (den T G 3000 d) G es (startS vs.length k (.int r::args))=.ok rows)
  (h0:getS (putS (startS vs.length k (.int r::args)) j (.val (.tuple rows))) 0=.val (.int r)) (hj:getS (putS (startS vs.length k (.int r::args)) j (.val (.tuple rows))) j=.val (.tuple rows)) (hl:rows.length≤100) (hn:rows≠[]):den T G 3000 (d+1) f (.int r::args)=.ok (at_ .none rows r):=by
 rw [den_code hT hk]
 refine go (rs (v:=.tuple rows) ?_ (rr ?_))
 ·rw [xtup,hes,b_ok,if_pos (Nat.le_trans hl (by decide))]
 ·refine ev_at id .none rows hn (n:=r) (m:=(rows.length:Int)) ?_ ?_ rfl
  ·rw [xvar,hj,List.map_id]
  ·rw [xbin,xvar,h0,b_ok,xlen,hj]
   show (if (0:Int)<(rows.length:Int) then Res.ok (PV.int (r % (rows.length:Int))) else .stuck)=_
   rw [if_pos (by have:=List.length_pos_iff.2 hn; omega)]
noncomputable def isExc (r:Res PV):Bool:=match r with
 | .exc=>true
 | _=>false
theorem isExc_so {r:Res PV} (h:isExc r=true):r=.exc:=by cases r <;> first | rfl | cases h
noncomputable def isErr {α:Type}:PR α→Bool
 | .err=>true
 | _=>false
theorem isErr_so {α:Type} {r:PR α} (h:isErr r=true):r=.err:=by cases r <;> first | rfl | cases h
noncomputable def onBy (v:PV) (p:List Int→Bool):Bool:=match v with
 | .bytes l=>p l
 | _=>false
theorem onBy_so {v:PV} {p:List Int→Bool} (h:onBy v p=true):∃ l,v=.bytes l∧p l=true:=by
 unfold onBy at h; split at h
 ·exact ⟨_,rfl,h⟩
 ·cases h
noncomputable def ckR (n:Nat) (rows:List PV) (p:PV→Bool):Bool:=rows.length == n && rows.all p
theorem ckR_so {n:Nat} {rows:List PV} {p:PV→Bool} (h:ckR (n+1) rows p=true) (hn:n≤99):rows.length≤100∧rows≠[]∧∀ r,p (at_ .none rows r)=true:=by
 have h1:=eq_of_beq (aL h)
 have h2:rows≠[]:=fun e=>by rw [e] at h1; cases h1
 exact ⟨by omega,h2,fun r=>List.all_eq_true.1 (aR h) _ (at_mem h2 r)⟩
noncomputable def r43 (c:Int):List PV:=rowsOf 43 [.int 0,.bytes [c]]
noncomputable def r44 (c:Int):List PV:=rowsOf 44 [.int 0,.bytes [c]]
noncomputable def r45:List PV:=rowsOf 45 [.int 0]
noncomputable def r46 (c:Int):List PV:=rowsOf 46 [.int 0,.bytes [c]]
noncomputable def r47 (c:Int):List PV:=rowsOf 47 [.int 0,.bytes [c]]
noncomputable def r48 (c:Int):List PV:=rowsOf 48 [.int 0,.bytes [c]]
theorem ck43 (d:Nat):(bads.all fun c=>ckR 18 (r43 c) fun v=>isExc (den T G 3000 (d+5) 16 [v]))=true:=by kernel_rfl
theorem ck44 (d:Nat):(odds.all fun c=>ckR 10 (r44 c) fun v=>isExc (den T G 3000 (d+6) 27 [v]))=true:=by kernel_rfl
theorem ck45 (d:Nat):(ckR 23 r45 fun v=>isExc (den T G 3000 (d+6) 23 [v]))=true:=by kernel_rfl
theorem ck46:(bads.all fun c=>ckR 20 (r46 c) fun v=>onBy v fun l=>bytesOk l && decide (l.length≤20) && isErr (valsN (valP 3000 3) 2999 [] (32::(l++[32]))))=true:=by decide +kernel
theorem ck47:(odds.all fun c=>ckR 10 (r47 c) fun v=>onBy v fun l=>bytesOk l && decide (l.length≤40) && isErr (cmdP 3000 3 l))=true:=by decide +kernel
theorem ck48:(odds.all fun c=>ckR 24 (r48 c) fun v=>onBy v fun l=>bytesOk l && decide (l.length≤40) && isErr (lineP 3000 3 l))=true:=by decide +kernel
section
variable {d:Nat}
theorem d_bad43 {c:Int} (hc:c∈bads) (r:Int):∃ v,den T G 3000 (d+1) 43 [.int r,.bytes [c]]=.ok v∧∀ e,den T G 3000 (e+5) 16 [v]=.exc:=by
 have h:=fun e=>ckR_so (n:=17) (List.all_eq_true.1 (ck43 e) c hc) (by decide)
 exact ⟨_,d_rows (f:=43) (vs:=vf_law_bad_value) (k:=2) (rows:=r43 c) rfl rfl (by kernel_rfl) rfl rfl (h 0).1 (h 0).2.1,fun e=>isExc_so ((h e).2.2 r)⟩
theorem d_bad44 {c:Int} (hc:c∈odds) (r:Int):∃ v,den T G 3000 (d+1) 44 [.int r,.bytes [c]]=.ok v∧∀ e,den T G 3000 (e+6) 27 [v]=.exc:=by
 have h:=fun e=>ckR_so (n:=9) (List.all_eq_true.1 (ck44 e) c hc) (by decide)
 exact ⟨_,d_rows (f:=44) (vs:=vf_law_bad_command) (k:=2) (rows:=r44 c) rfl rfl (by kernel_rfl) rfl rfl (h 0).1 (h 0).2.1,fun e=>isExc_so ((h e).2.2 r)⟩
theorem d_bad45 (r:Int):∃ v,den T G 3000 (d+1) 45 [.int r]=.ok v∧∀ e,den T G 3000 (e+6) 23 [v]=.exc:=by
 have h:=fun e=>ckR_so (n:=22) (ck45 e) (by decide)
 exact ⟨_,d_rows (f:=45) (vs:=vf_law_bad_line) (k:=1) (rows:=r45) rfl rfl (by kernel_rfl) rfl rfl (h 0).1 (h 0).2.1,fun e=>isExc_so ((h e).2.2 r)⟩
theorem d_bad46 {c:Int} (hc:c∈bads) (r:Int):∃ l,den T G 3000 (d+1) 46 [.int r,.bytes [c]]=.ok (.bytes l)∧(∀ x∈l,0≤x∧x<256)∧l.length≤20∧valsN (valP 3000 3) 2999 [] (32::(l++[32]))=.err:=by
 have h:=ckR_so (n:=19) (List.all_eq_true.1 ck46 c hc) (by decide)
 obtain ⟨l,e,hl⟩:=onBy_so (h.2.2 r)
 exact ⟨l,e ▸ d_rows (f:=46) (vs:=vf_law_bad_piece) (k:=2) (rows:=r46 c) rfl rfl (by kernel_rfl) rfl rfl h.1 h.2.1,bytes_of (aL (aL hl)),of_decide_eq_true (aR (aL hl)),isErr_so (aR hl)⟩
theorem d_bad47 {c:Int} (hc:c∈odds) (r:Int):∃ l,den T G 3000 (d+1) 47 [.int r,.bytes [c]]=.ok (.bytes l)∧(∀ x∈l,0≤x∧x<256)∧l.length≤40∧cmdP 3000 3 l=.err:=by
 have h:=ckR_so (n:=9) (List.all_eq_true.1 ck47 c hc) (by decide)
 obtain ⟨l,e,hl⟩:=onBy_so (h.2.2 r)
 exact ⟨l,e ▸ d_rows (f:=47) (vs:=vf_law_bad_head) (k:=2) (rows:=r47 c) rfl rfl (by kernel_rfl) rfl rfl h.1 h.2.1,bytes_of (aL (aL hl)),of_decide_eq_true (aR (aL hl)),isErr_so (aR hl)⟩
theorem d_bad48 {c:Int} (hc:c∈odds) (r:Int):∃ l,den T G 3000 (d+1) 48 [.int r,.bytes [c]]=.ok (.bytes l)∧(∀ x∈l,0≤x∧x<256)∧l.length≤40∧lineP 3000 3 l=.err:=by
 have h:=ckR_so (n:=23) (List.all_eq_true.1 ck48 c hc) (by decide)
 obtain ⟨l,e,hl⟩:=onBy_so (h.2.2 r)
 exact ⟨l,e ▸ d_rows (f:=48) (vs:=vf_law_bad_wire) (k:=2) (rows:=r48 c) rfl rfl (by kernel_rfl) rfl rfl h.1 h.2.1,bytes_of (aL (aL hl)),of_decide_eq_true (aR (aL hl)),isErr_so (aR hl)⟩
end
end L1
end Mine
set_option autoImplicit false
namespace Mine
namespace L1
section
variable {d:Nat} {F:Nat→List PV→Res PV} {ρ:List Slot} {kb kn:List Slot→Res PV} {R:Res PV}
noncomputable def isPr (r:Res (Int × Int)) (a b:Int):Bool:=match r with
 | .ok p=>p.1 == a && p.2 == b
 | _=>false
theorem isPr_so {r:Res (Int × Int)} {a b:Int} (h:isPr r a b=true):r=.ok (a,b):=by
 cases r with
 | ok p=>obtain ⟨x,y⟩:=p; rw [eq_of_beq (show (x == a)=true from aL h),eq_of_beq (show (y == b)=true from aR h)]
 | exc=>cases h
 | stuck=>cases h
noncomputable def isExc2 (r:Res (Int × Int)):Bool:=match r with
 | .exc=>true
 | _=>false
theorem isExc2_so {r:Res (Int × Int)} (h:isExc2 r=true):r=.exc:=by cases r <;> first | rfl | cases h
theorem pc_good (d:Nat):(pairAll.all fun q=>isPr (pieceR d q.t) q.a q.b)=true:=by kernel_rfl
noncomputable def badPc:List (List Int):=[[],[48],[48,53],[49,58],[58,49],[49,58,58,50],[49,58,50,58,51],[52,50,57,52,57,54,55,50,57,54],[49,97]]
theorem pc_bad (d:Nat):(badPc.all fun b=>isExc2 (pieceR d b) && decide (b.length≤1000) && b.all fun c=>!(c == 44))=true:=by kernel_rfl
theorem pc_3 (d:Nat):pieceR d [51]=.ok (3,3):=by kernel_rfl
noncomputable def pcOf (q:Pr):List Int × Int × Int:=(q.t,q.a,q.b)
theorem pcs {qs:List Pr} (h:∀ q∈qs,q∈pairAll):∀ t∈qs.map pcOf,pieceR d t.1=.ok t.2∧t.1.length≤1000:=fun t ht=>by
 obtain ⟨q,hq,rfl⟩:=List.mem_map.1 ht
 exact ⟨isPr_so (List.all_eq_true.1 (pc_good d) q (h q hq)),Nat.le_trans (pr_ok (h q hq) 0).l (by decide)⟩
theorem no44 {qs:List Pr} (h:∀ q∈qs,q∈pairAll):∀ a∈qs.map Pr.t,∀ c∈a,c≠44:=fun a ha c hc=>by
 obtain ⟨q,hq,rfl⟩:=List.mem_map.1 ha
 exact ((pr_ok (h q hq) 0).p c hc).2
theorem set_len {qs:List Pr} (h:∀ q∈qs,q∈pairAll) (hl:qs.length≤3):(setT qs).length≤39 :=
 Nat.le_trans (glue_len [44] 12 _ fun c hc=>by obtain ⟨q,hq,rfl⟩:=List.mem_map.1 hc; exact (pr_ok (h q hq) 0).l) (by rw [List.length_map]; exact Nat.mul_le_mul_left 13 hl)
theorem all_glue {P:Int→Prop} {s:List Int} (hs:∀ x∈s,P x):∀ ts:List (List Int),(∀ t∈ts,∀ x∈t,P x)→∀ x∈glue s ts,P x
 | [],_,x,hx=>by cases hx
 | [a],h,x,hx=>h a List.mem_cons_self x hx
 | a::b::r,h,x,hx=>by
  rcases List.mem_append.1 (show x∈(a++s)++glue s (b::r) from hx) with e | e
  ·rcases List.mem_append.1 e with e | e
   ·exact h a List.mem_cons_self x e
   ·exact hs x e
  ·exact all_glue hs (b::r) (fun t ht=>h t (List.mem_cons_of_mem _ ht)) x e
theorem set_pl {qs:List Pr} (h:∀ q∈qs,q∈pairAll):∀ c∈setT qs,Pl c :=
 all_glue (fun x hx=>by rw [List.mem_singleton.1 hx]; exact ⟨by decide,by decide,by decide,by decide,by decide,by decide⟩) _ fun t ht c hc=>by
  obtain ⟨q,hq,rfl⟩:=List.mem_map.1 ht
  exact ((pr_ok (h q hq) 0).p c hc).1
theorem t_map (qs:List Pr):(qs.map pcOf).map (fun t=>PV.bytes t.1)=(qs.map Pr.t).map PV.bytes:=by rw [List.map_map,List.map_map]; rfl
theorem pv_map (qs:List Pr):((qs.map pcOf).map fun t=>sPv t.2)=qs.map Pr.pv:=by rw [List.map_map]; rfl
theorem set_read {qs:List Pr} (h:∀ q∈qs,q∈pairAll) (h0:qs≠[]) (hl:qs.length≤3):den T G 3000 (d+3) 33 [.bytes (setT qs)]=.ok (.list (qs.map Pr.pv)):=by
 refine d_readset (Nat.le_trans (set_len h hl) (by decide)) (vs:=(qs.map Pr.t).map PV.bytes) ?_ ?_
 ·cases qs with
  | nil=>exact absurd rfl h0
  | cons q r=>rw [setT,List.map_cons,spl_glue _ _ (no44 h)]
 ·have:=rs_loop (d:=d) (R:=.ok (.list (qs.map Pr.pv))) (kb:=kS) (kn:=fun ρ=>run (den T G 3000 (d+2)) G 3000 [.frz 1,.ret (.var 1)] ρ kS kN) [] (.val (.bytes (setT qs))) (qs.map pcOf) [] .unset .unset .unset .unset .unset (pcs h) (by rw [List.length_map]; show 0+_≤100; omega) fun s2 s3 s4 s5 s6=>fr_nil (rfz rfl (rr (congrArg (fun z=>Res.ok (PV.list z)) (pv_map qs))))
  rw [t_map,List.append_nil] at this
  exact this
theorem set_bad {gs:List (List Int × Int × Int)} {b:List Int} {ts:List (List Int)} (hg:∀ t∈gs,pieceR d t.1=.ok t.2∧t.1.length≤1000) (hn:gs.length≤50) (hb:pieceR d b=.exc) (hbl:b.length≤1000) {l:List Int} (hl:l.length≤1000) (hs:spl [] l=gs.map (fun t=>t.1)++b::ts):den T G 3000 (d+3) 33 [.bytes l]=.exc:=by
 refine d_readset hl (vs:=gs.map (fun t=>.bytes t.1)++(.bytes b::ts.map PV.bytes)) ?_ ?_
 ·rw [hs,List.map_append,List.map_map]; rfl
 ·exact rs_loop _ _ gs [] _ _ _ _ _ hg (by show 0+_≤100; omega) fun s2 s3 s4 s5 s6=>fr_cons (piece_bad hb hbl _ _ _ _ _ _)
theorem bad_pc {b:List Int} (h:b∈badPc):pieceR d b=.exc∧b.length≤1000∧∀ c∈b,c≠44:=by
 have h:=List.all_eq_true.1 (pc_bad d) b h
 refine ⟨isExc2_so (aL (aL h)),of_decide_eq_true (aR (aL h)),fun c hc=>?_⟩
 have:=List.all_eq_true.1 (aR h) c hc
 rw [Bool.not_eq_true',beq_eq_false_iff_ne] at this; exact this
noncomputable def rows50 (t:List Int):List PV:=[.bytes [],.list [.int 53],.bytes ([48,44]++t),.bytes ([48,53,44]++t),.bytes ([49,58,44]++t),.bytes ([58,49,44]++t),.bytes ([49,58,58,50,44]++t),.bytes ([49,58,50,58,51,44]++t),.bytes ([52,50,57,52,57,54,55,50,57,54,44]++t),.bytes ([49,97,44]++t),.bytes ([51,44,44]++t),.bytes (t++[44])]
theorem evs {e:CE} {l:List CE} {v:PV} {vs:List PV} (h:evE F G e ρ=.ok v) (h2:evEs F G l ρ=.ok vs):evEs F G (e::l) ρ=.ok (v::vs):=by
 rw [xE1,h,b_ok,h2]; rfl
theorem d_bad50 {t:List Int} (ht:t.length≤39) (r:Int):den T G 3000 (d+1) 50 [.int r,.bytes t]=.ok (at_ .none (rows50 t) r):=by
 have h:∀ {x:List Int},x.length≤20→x.length+t.length≤lim:=fun hx=>small hx ht (by decide)
 exact d_rows (f:=50) (vs:=vf_law_bad_text) (k:=2) (rows:=rows50 t) rfl rfl (evs rfl (evs rfl (evs (ev_addb rfl rfl (h (by decide))) (evs (ev_addb rfl rfl (h (by decide))) (evs (ev_addb rfl rfl (h (by decide))) (evs (ev_addb rfl rfl (h (by decide))) (evs (ev_addb rfl rfl (h (by decide))) (evs (ev_addb rfl rfl (h (by decide))) (evs (ev_addb rfl rfl (h (by decide))) (evs (ev_addb rfl rfl (h (by decide))) (evs (ev_addb rfl rfl (h (by decide))) (evs (ev_addb rfl rfl (small ht (Nat.le_refl 1) (by decide))) rfl)))))))))))) rfl rfl (by show 12≤100; decide) (by intro h; cases h)
theorem app_bad {qs:List Pr} (h:∀ q∈qs,q∈pairAll) (h0:qs≠[]) (hl:qs.length≤3) {b:List Int} (hb:b∈badPc):den T G 3000 (d+3) 33 [.bytes ((b++[44])++setT qs)]=.exc:=by
 have hB:=bad_pc (d:=d) hb
 have hL:=set_len h hl
 refine set_bad (gs:=[]) (b:=b) (ts:=qs.map Pr.t) (by intro t ht; cases ht) (by decide) hB.1 hB.2.1 (by
  have:b.length≤20:=of_decide_eq_true (List.all_eq_true.1 (show (badPc.all fun b=>decide (b.length≤20))=true by decide) b hb)
  simp only [List.length_append,List.length_cons,List.length_nil]; omega) ?_
 rw [List.append_assoc,spl_app _ b [] hB.2.2]
 show b::spl [] (setT qs)=_
 cases qs with
 | nil=>exact absurd rfl h0
 | cons q r=>rw [setT,List.map_cons,spl_glue _ _ (no44 h)]; rfl
theorem last_bad {qs:List Pr} (h:∀ q∈qs,q∈pairAll) (h0:qs≠[]) (hl:qs.length≤3):den T G 3000 (d+3) 33 [.bytes (setT qs++[44])]=.exc:=by
 have hL:=set_len h hl
 have hB:=bad_pc (d:=d) (b:=[]) (by decide)
 refine set_bad (gs:=qs.map pcOf) (b:=[]) (ts:=[]) (pcs h) (by rw [List.length_map]; omega) hB.1 hB.2.1 (by rw [List.length_append]; show _+1≤1000; omega) ?_
 rw [List.map_map]
 show _=qs.map Pr.t++[[]]
 have key:∀ ts:List (List Int),(∀ a∈ts,∀ c∈a,c≠44)→ts≠[]→spl [] (glue [44] ts++[44])=ts++[[]]:=by
  intro ts
  induction ts with
  | nil=>intro _ h; exact absurd rfl h
  | cons t r ih =>
   intro h _
   cases r with
   | nil =>
    show spl [] (t++[44])=_
    rw [spl_app _ t [] (h t List.mem_cons_self)]; rfl
   | cons u r =>
    show spl [] (t++[44]++glue [44] (u::r)++[44])=_
    rw [List.append_assoc,List.append_assoc,spl_app _ t [] (h t List.mem_cons_self)]
    show t::spl [] (glue [44] (u::r)++[44])=_
    rw [ih (fun a ha=>h a (List.mem_cons_of_mem _ ha)) (by intro h; cases h)]; rfl
 exact key _ (no44 h) (by intro e; exact h0 (List.map_eq_nil_iff.1 e))
theorem two_bad {qs:List Pr} (h:∀ q∈qs,q∈pairAll) (h0:qs≠[]) (hl:qs.length≤3):den T G 3000 (d+3) 33 [.bytes ([51,44,44]++setT qs)]=.exc:=by
 have hL:=set_len h hl
 have hB:=bad_pc (d:=d) (b:=[]) (by decide)
 refine set_bad (gs:=[([51],3,3)]) (b:=[]) (ts:=qs.map Pr.t) (fun t ht=>by rw [List.mem_singleton.1 ht]; exact ⟨pc_3 d,by decide⟩) (by decide) hB.1 hB.2.1 (by simp only [List.length_append,List.length_cons,List.length_nil]; omega) ?_
 show [51]::[]::spl [] (setT qs)=_
 cases qs with
 | nil=>exact absurd rfl h0
 | cons q r=>rw [setT,List.map_cons,spl_glue _ _ (no44 h)]; rfl
theorem ref50 {qs:List Pr} (h:∀ q∈qs,q∈pairAll) (h0:qs≠[]) (hl:qs.length≤3) (r:Int):den T G 3000 (d+3) 33 [at_ .none (rows50 (setT qs)) r]=.exc:=by
 have hm:=at_mem (z:=PV.none) (l:=rows50 (setT qs)) (by intro h; cases h) r
 generalize at_ .none (rows50 (setT qs)) r=v at hm
 simp only [rows50,List.mem_cons,List.not_mem_nil,or_false] at hm
 rcases hm with rfl | rfl | rfl | rfl | rfl | rfl | rfl | rfl | rfl | rfl | rfl | rfl
 ·exact set_bad (gs:=[]) (b:=[]) (ts:=[]) (by intro t ht; cases ht) (by decide) (bad_pc (by decide)).1 (by decide) (by decide) rfl
 ·kernel_rfl
 ·exact app_bad h h0 hl (b:=[48]) (by decide)
 ·exact app_bad h h0 hl (b:=[48,53]) (by decide)
 ·exact app_bad h h0 hl (b:=[49,58]) (by decide)
 ·exact app_bad h h0 hl (b:=[58,49]) (by decide)
 ·exact app_bad h h0 hl (b:=[49,58,58,50]) (by decide)
 ·exact app_bad h h0 hl (b:=[49,58,50,58,51]) (by decide)
 ·exact app_bad h h0 hl (b:=[52,50,57,52,57,54,55,50,57,54]) (by decide)
 ·exact app_bad h h0 hl (b:=[49,97]) (by decide)
 ·exact two_bad h h0 hl
 ·exact last_bad h h0 hl
noncomputable def rows49 (p:List PV):List PV:=[.list [],.none,.list (p++[.tuple [.int 3,.int 4294967296]]),.list ([.tuple [.int (-1),.int 3]]++p),.list (p++[.tuple [.int 1,.int 2,.int 3]]),.list ([.tuple [.int 5]]++p),.list (p++[.tuple [.int 1,.bytes [50]]]),.list (p++[.int 7])]
theorem ev_addl {a b:CE} {x y:List PV} (h1:evE F G a ρ=.ok (.list x)) (h2:evE F G b ρ=.ok (.list y)) (hl:x.length+y.length≤lim):evE F G (.bin .add a b) ρ=.ok (.list (x++y)):=ev_bin h1 h2 (if_pos hl)
theorem d_bad49 {p:List PV} (hp:p.length≤3) (r:Int):den T G 3000 (d+1) 49 [.int r,.list p]=.ok (at_ .none (rows49 p) r) :=
 have h:p.length+1≤lim:=small hp (Nat.le_refl 1) (by decide)
 have h':1+p.length≤lim:=small (Nat.le_refl 1) hp (by decide)
 d_rows (f:=49) (vs:=vf_law_bad_pairs) (k:=2) (rows:=rows49 p) rfl rfl (evs rfl (evs rfl (evs (ev_addl rfl rfl h) (evs (ev_addl rfl rfl h') (evs (ev_addl rfl rfl h) (evs (ev_addl rfl rfl h') (evs (ev_addl rfl rfl h) (evs (ev_addl rfl rfl h) rfl)))))))) rfl rfl (by show 8≤100; decide) (by intro h; cases h)
noncomputable def badP:List PV:=[.tuple [.int 3,.int 4294967296],.tuple [.int (-1),.int 3],.tuple [.int 1,.int 2,.int 3],.tuple [.int 5],.tuple [.int 1,.bytes [50]],.int 7]
theorem bad_run {l s1 s3:Slot}:∀ v∈badP,run (den T G 3000 (d+1)) G 3000 wsB1 [l,.val v,.unset,s3,.unset,.unset] kb kn=.exc:=fun v hv=>by
 simp only [badP,List.mem_cons,List.not_mem_nil,or_false] at hv
 rcases hv with rfl | rfl | rfl | rfl | rfl | rfl
 all_goals kernel_rfl
theorem ws_bad {qs:List Pr} (h:∀ q∈qs,q∈pairAll) {v:PV} (hv:v∈badP) {rest:List PV}:den T G 3000 (d+3) 30 [.list (qs.map Pr.pv++v::rest)]=.exc:=by
 rw [den_code (T:=T) (f:=30) (vs:=vf_write_set) (k:=1) (body:=cf_write_set) rfl rfl]
 have hc:evE (den T G 3000 (d+2)) G (.and_ [(.isin (.var 0) [.list,.tuple]),(.cmp .gt (.len (.var 0)) (.lit (.int 0)))]) [.val (.list (qs.map Pr.pv++v::rest)),.unset,.unset,.unset,.unset,.unset]=.ok (.bool true):=by
  refine Eq.trans (ev_and2 (p:=true) rfl rfl) (bT (decide_eq_true ?_))
  rw [List.length_append,List.length_cons]; omega
 exact go (rn (need_y lib hc) (rfo rfl rfl (ws_loop1 (d:=d+1) (v::rest) (fun s1 s3=>fr_cons (bad_run (s1:=s1) v hv)) qs .unset .unset (fun q hq=>⟨(pr_ok (h q hq) 0).a,(pr_ok (h q hq) 0).b⟩))))
theorem ref49 {qs:List Pr} (h:∀ q∈qs,q∈pairAll) (r:Int):den T G 3000 (d+3) 30 [at_ .none (rows49 (qs.map Pr.pv)) r]=.exc:=by
 have hm:=at_mem (z:=PV.none) (l:=rows49 (qs.map Pr.pv)) (by intro h; cases h) r
 generalize at_ .none (rows49 (qs.map Pr.pv)) r=v at hm
 have m0:PV.tuple [.int 3,.int 4294967296]∈badP:=List.mem_cons_self
 have m1:PV.tuple [.int (-1),.int 3]∈badP:=List.mem_cons_of_mem _ List.mem_cons_self
 simp only [rows49,List.mem_cons,List.not_mem_nil,or_false] at hm
 rcases hm with rfl | rfl | rfl | rfl | rfl | rfl | rfl | rfl
 ·kernel_rfl
 ·kernel_rfl
 ·exact ws_bad h m0
 ·exact ws_bad (qs:=[]) (by intro q hq; cases hq) m1
 ·exact ws_bad h (List.mem_cons_of_mem _ (List.mem_cons_of_mem _ List.mem_cons_self))
 ·exact ws_bad (qs:=[]) (by intro q hq; cases hq) (List.mem_cons_of_mem _ (List.mem_cons_of_mem _ (List.mem_cons_of_mem _ List.mem_cons_self)))
 ·exact ws_bad h (List.mem_cons_of_mem _ (List.mem_cons_of_mem _ (List.mem_cons_of_mem _ (List.mem_cons_of_mem _ List.mem_cons_self))))
 ·exact ws_bad h (List.mem_cons_of_mem _ (List.mem_cons_of_mem _ (List.mem_cons_of_mem _ (List.mem_cons_of_mem _ (List.mem_cons_of_mem _ List.mem_cons_self)))))
end
end L1
end Mine
set_option autoImplicit false
namespace Mine
namespace L1
section
variable {d:Nat} {F:Nat→List PV→Res PV} {ρ:List Slot} {kb kn:List Slot→Res PV} {R:Res PV}
theorem rtx {e:CE} {j:Nat} {v:PV} {r:List CS} (h:evE F G e ρ=.exc) (k:run F G 3000 r (putS ρ j (.val v)) kb kn=R):run F G 3000 (.tryE e j v::r) ρ kb kn=R :=
 rn (by show (match evE F G e ρ with | .ok _=>Res.ok (Fl.next,ρ) | .exc=>.ok (.next,putS ρ j (.val v)) | .stuck=>.stuck)=_; rw [h]) k
theorem un51 {v:PV} (h:den T G 3000 d 27 [v]=.exc):den T G 3000 (d+1) 51 [v]=.ok (.bool true):=by
 rw [den_code (T:=T) (f:=51) (vs:=vf_law_unsent) (k:=1) (body:=cf_law_unsent) rfl rfl]
 exact go (rs rfl (rtx (Eq.trans (to_call1 rfl) h) (rr rfl)))
theorem to_call2 {a b:CE} {f:Nat} {v w:PV} (h:evE F G a ρ=.ok v) (h2:evE F G b ρ=.ok w):evE F G (.call f [a,b]) ρ=F f [v,w]:=by
 rw [xcall,xE1,h,b_ok,xE1,h2]; rfl
theorem un52 {v w:PV} (h:den T G 3000 d 28 [v,w]=.exc):den T G 3000 (d+1) 52 [v,w]=.ok (.bool true):=by
 rw [den_code (T:=T) (f:=52) (vs:=vf_law_unread) (k:=2) (body:=cf_law_unread) rfl rfl]
 exact go (rs rfl (rtx (Eq.trans (to_call2 rfl rfl) h) (rr rfl)))
theorem un53 {v:PV} (h:den T G 3000 d 23 [v]=.exc):den T G 3000 (d+1) 53 [v]=.ok (.bool true):=by
 rw [den_code (T:=T) (f:=53) (vs:=vf_law_line_unsent) (k:=1) (body:=cf_law_line_unsent) rfl rfl]
 exact go (rs rfl (rtx (Eq.trans (to_call1 rfl) h) (rr rfl)))
theorem un54 {v:PV} (h:den T G 3000 d 26 [v,.int 3]=.exc):den T G 3000 (d+1) 54 [v]=.ok (.bool true):=by
 rw [den_code (T:=T) (f:=54) (vs:=vf_law_line_unread) (k:=1) (body:=cf_law_line_unread) rfl rfl]
 exact go (rs rfl (rtx (Eq.trans (to_call2 rfl rfl) h) (rr rfl)))
theorem un55 {v:PV} (h:den T G 3000 d 30 [v]=.exc):den T G 3000 (d+1) 55 [v]=.ok (.bool true):=by
 rw [den_code (T:=T) (f:=55) (vs:=vf_law_set_unsent) (k:=1) (body:=cf_law_set_unsent) rfl rfl]
 exact go (rs rfl (rtx (Eq.trans (to_call1 rfl) h) (rr rfl)))
theorem un56 {v:PV} (h:den T G 3000 d 33 [v]=.exc):den T G 3000 (d+1) 56 [v]=.ok (.bool true):=by
 rw [den_code (T:=T) (f:=56) (vs:=vf_law_set_unread) (k:=1) (body:=cf_law_set_unread) rfl rfl]
 exact go (rs rfl (rtx (Eq.trans (to_call1 rfl) h) (rr rfl)))
theorem evN {c:CE} (h:evE F G c ρ=.ok (.bool true)):evE F G (.not_ c) ρ=.ok (.bool false):=by
 rw [xnot,h]; rfl
theorem lst3 {a b c:CE} {x y z:PV} (h1:evE F G a ρ=.ok x) (h2:evE F G b ρ=.ok y) (h3:evE F G c ρ=.ok z):evE F G (.lst [a,b,c]) ρ=.ok (.list [x,y,z]):=by
 rw [xlst,xE1,h1,b_ok,xE1,h2,b_ok,xE1,h3]; rfl
theorem vals_acc {v:List Int→PR PV}:∀ (n:Nat) (acc acc':List PV) (x:List Int),valsN v n acc x=.err→valsN v n acc' x=.err
 | 0,_,_,_,h=>by cases h
 | _+1,_,_,[],h=>by cases h
 | n+1,acc,acc',c::t,h=>by
  rw [valsN] at h ⊢
  split
  ·rename_i hc
   rw [if_pos hc] at h
   cases hv:v t with
   | ok a r=>rw [hv] at h; exact vals_acc n _ _ r h
   | none=>rw [hv] at h; cases h
   | err=>rfl
   | stuck=>rw [hv] at h; cases h
  ·rename_i hc
   rw [if_neg hc] at h
   cases hv:crlfP (c::t) with
   | ok a r=>rw [hv] at h; cases h
   | none=>rw [hv] at h; cases h
   | err=>rfl
   | stuck=>rw [hv] at h; cases h
theorem tag_a1:TagOk [65,49]:=⟨by decide +kernel,by decide,by decide⟩
theorem name_f:NameOk [70,69,84,67,72]:=⟨by decide +kernel,by decide,by decide⟩
theorem is_tag (d:Nat):den T G 3000 (d+3) 9 [.bytes [65,49]]=.ok (.bool true):=by kernel_rfl
theorem is_name (d:Nat):den T G 3000 (d+3) 10 [.bytes [70,69,84,67,72]]=.ok (.bool true):=by kernel_rfl
theorem all_app {P:Int→Prop} {a b:List Int} (ha:∀ x∈a,P x) (hb:∀ x∈b,P x):∀ x∈a++b,P x:=fun x hx=>(List.mem_append.1 hx).elim (ha x) (hb x)
noncomputable def badData (x l v:List Int):List Int:=[65,49,32,70,69,84,67,72,32]++x++[32]++l++[32]++v++[13,10]
theorem read_bad {p:PV} {a l c:List Int} (ha:RdOk 2900 3 p a) (hb:∀ x∈l,0≤x∧x<256) (hl:l.length≤20) (hv:valsN (valP 3000 3) 2999 [] (32::(l++[32]))=.err) (hc:∀ x∈c,0≤x∧x<256) (hcl:c.length≤160):den T G 3000 (d+11) 28 [.bytes (badData a l c),.int 3]=.exc:=by
 have h1:=ha.l
 have e:badData a l c=[65,49]++32::([70,69,84,67,72]++32::(a++32::((l++[32])++(c++[13,10])))):=by
  unfold badData; simp only [List.append_assoc,List.cons_append,List.nil_append]
 have hlen:(badData a l c).length≤2000:=by rw [e]; simp only [List.length_append,List.length_cons,List.length_nil]; omega
 have hD:∀ x∈badData a l c,0≤x∧x<256:=all_app (all_app (all_app (all_app (all_app (all_app (by decide) ha.b) (by decide)) hb) (by decide)) hc) (by decide)
 have hr:cmdP 3000 3 (badData a l c)=.err:=by
  rw [e,cmd_read tag_a1 name_f 3 _ (by simp only [List.length_append,List.length_cons,List.length_nil]; omega),vs_sp (n:=2999) (ha.r 32 m32 _ (by simp only [List.length_append,List.length_cons,List.length_nil]; omega))]
  have hm:=mono_vals 3000 _ (mono_val 3000 3) (eats_val 3) (c++[13,10]) 2999 [p] (32::(l++[32])) (by simp only [List.length_append,List.length_cons,List.length_nil]; omega)
  rw [vals_acc 2999 [] [p] _ hv] at hm
  have hm:valsN (valP 3000 3) 2999 [p] (32::((l++[32])++(c++[13,10])))=.err:=hm
  show (valsN (valP 3000 3) 2999 [p] (32::((l++[32])++(c++[13,10])))).bind _=_
  rw [hm]; rfl
 have:=d_read_command (W:=3000) lib (badData a l c) (Nat.lt_of_le_of_lt hlen (by decide)) hD 3 d
 rw [hr] at this; exact this
theorem read_err {l:List Int} {dep:Nat} (hb:∀ x∈l,0≤x∧x<256) (hl:l.length≤2000) (h:cmdP 3000 dep l=.err):den T G 3000 (d+2 * dep+5) 28 [.bytes l,.int dep]=.exc:=by
 rw [d_read_command (W:=3000) lib l (Nat.lt_of_le_of_lt hl (by decide)) hb dep d,h]; rfl
theorem line_err {l:List Int} {dep:Nat} (hb:∀ x∈l,0≤x∧x<256) (hl:l.length≤2000) (h:lineP 3000 dep l=.err):den T G 3000 (d+2 * dep+5) 26 [.bytes l,.int dep]=.exc:=by
 rw [d_read_line (W:=3000) lib l (Nat.lt_of_le_of_lt hl (by decide)) hb dep d,h]; rfl
theorem d_refusals (r:Int) {e t:Int} (he:e∈bads) (ht:t∈odds) (k:Int) {x y:Lf} (hx:x∈leafAll) (hy:y∈leafAll) {qs:List Pr} (hq:∀ q∈qs,q∈pairAll) (h0:qs≠[]) (hl:qs.length≤3) :
  den T G 3000 (d+14) 57 [.int r,.bytes [e],.bytes [t],x.pv,(valL k x y).pv,.list (qs.map Pr.pv),.bytes (setT qs)]=.ok (.bool true):=by
 obtain ⟨v43,e43,h43⟩:=d_bad43 (d:=d+12) he r
 obtain ⟨v44,e44,h44⟩:=d_bad44 (d:=d+12) ht r
 obtain ⟨v45,e45,h45⟩:=d_bad45 (d:=d+12) r
 obtain ⟨l46,e46,b46,n46,h46⟩:=d_bad46 (d:=d+12) he r
 obtain ⟨l47,e47,b47,n47,h47⟩:=d_bad47 (d:=d+12) ht r
 obtain ⟨l48,e48,b48,n48,h48⟩:=d_bad48 (d:=d+12) ht r
 have hv:=rd_value k hx hy false
 have hX:RdOk 2900 3 x.v x.w:=rd_item (item_of hx) false 3
 have c1:den T G 3000 (d+13) 51 [.tuple [.bytes [65,49],.bytes [70,69,84,67,72],.list [x.v,v43,(valL k x y).v]]]=.ok (.bool true):=un51 (w_cmd_bad (d:=d+10) (is_tag (d+8)) (is_name (d+8)) (p:=(x.v,x.w)) (w_item (item_of hx) (d+6)) (h43 (d+6)))
 have c2:den T G 3000 (d+13) 51 [v44]=.ok (.bool true):=un51 (h44 (d+6))
 have c3:den T G 3000 (d+13) 52 [.bytes (badData x.w l46 (valL k x y).w),.int 3]=.ok (.bool true):=un52 (read_bad (d:=d+1) hX b46 n46 h46 hv.b hv.l)
 have c4:den T G 3000 (d+13) 52 [.bytes l47,.int 3]=.ok (.bool true):=un52 (read_err (d:=d+1) (dep:=3) b47 (Nat.le_trans n47 (by decide)) h47)
 have c5:den T G 3000 (d+13) 53 [v45]=.ok (.bool true):=un53 (h45 (d+6))
 have c6:den T G 3000 (d+13) 54 [.bytes l48]=.ok (.bool true):=un54 (line_err (d:=d+1) (dep:=3) b48 (Nat.le_trans n48 (by decide)) h48)
 have c7:den T G 3000 (d+13) 55 [at_ .none (rows49 (qs.map Pr.pv)) r]=.ok (.bool true):=un55 (ref49 (d:=d+9) hq r)
 have c8:den T G 3000 (d+13) 56 [at_ .none (rows50 (setT qs)) r]=.ok (.bool true):=un56 (ref50 (d:=d+9) hq h0 hl r)
 have e49:=d_bad49 (d:=d+12) (p:=qs.map Pr.pv) (by rw [List.length_map]; exact hl) r
 have e50:=d_bad50 (d:=d+12) (set_len hq hl) r
 rw [den_code (T:=T) (f:=57) (vs:=vf_law_refusals) (k:=7) (body:=cf_law_refusals) rfl rfl]
 exact go (rf0 (ev_orF (evN (Eq.trans (to_call1 (nm rfl rfl (lst3 rfl (Eq.trans (to_call2 rfl rfl) e43) rfl))) c1)) (evN (Eq.trans (to_call1 (Eq.trans (to_call2 rfl rfl) e44)) c2)))
  (rf0 (ev_orF (evN (Eq.trans (to_call2 (ebv (.add (.add (.add (.add (.add (.add .lit ⟨rfl,hX.l⟩ (by decide)) .lit (by decide)) ⟨Eq.trans (to_call2 rfl rfl) e46,n46⟩ (by decide)) .lit (by decide)) (y:=(valL k x y).w) (q:=160) ⟨rfl,hv.l⟩ (by decide)) .lit (by decide))) rfl) c3)) (evN (Eq.trans (to_call2 (Eq.trans (to_call2 rfl rfl) e47) rfl) c4)))
  (rf0 (ev_orF (evN (Eq.trans (to_call1 (Eq.trans (to_call1 rfl) e45)) c5)) (evN (Eq.trans (to_call1 (Eq.trans (to_call2 rfl rfl) e48)) c6)))
  (rf0 (ev_orF (evN (Eq.trans (to_call1 (Eq.trans (to_call2 rfl rfl) e49)) c7)) (evN (Eq.trans (to_call1 (Eq.trans (to_call2 rfl rfl) e50)) c8))) (rr rfl)))))
end
end L1
end Mine
set_option autoImplicit false
namespace Mine
namespace L1
noncomputable def Ln.pk (p:Bool) (l:Ln):List Int:=if p then l.o else l.w
theorem at_map {α β:Type} (f:α→β) (z:α) (l:List α) (n:Int):at_ (f z) (l.map f) n=f (at_ z l n):=by
 unfold at_; rw [List.length_map,List.getElem?_map]
 cases l[(n % (l.length:Int)).toNat]? <;> rfl
noncomputable def wl4:List (List Int × List Int):=[([79,75],[111,75]),([78,79],[110,111]),([66,65,68],[66,97,100]),([66,89,69],[98,89,69])]
noncomputable def isSome' (r:Option (List Int)) (w:List Int):Bool:=match r with | some x=>x == w | none=>false
theorem isSome_so {r:Option (List Int)} {w:List Int} (h:isSome' r w=true):r=some w:=by
 cases r with
 | none=>cases h
 | some x=>rw [eq_of_beq (show (x == w)=true from h)]
theorem ck_words:(wl4.all fun q=>[q.1,q.2].all fun o=>isSome' (statP (o++[32])) q.1 && decide (o.length=q.1.length) && bytesOk o && decide (o.length≤3))=true:=by decide +kernel
noncomputable def wordPk (p:Bool) (w:Int):List Int:=if p then at_ [] loose4 w else at_ [] words4 w
theorem word_ok (p:Bool) (w:Int):WordOk (at_ [] words4 w) (wordPk p w):=by
 have e1:at_ [] words4 w=(at_ ([],[]) wl4 w).1:=at_map Prod.fst ([],[]) wl4 w
 have e2:at_ [] loose4 w=(at_ ([],[]) wl4 w).2:=at_map Prod.snd ([],[]) wl4 w
 have h:=List.all_eq_true.1 ck_words _ (at_mem (z:=(([],[]):List Int × List Int)) (l:=wl4) (by decide) w)
 have key:∀ o∈[(at_ ([],[]) wl4 w).1,(at_ ([],[]) wl4 w).2],WordOk (at_ [] words4 w) o:=fun o ho=>by
  have:=List.all_eq_true.1 h o ho
  rw [e1]
  exact ⟨isSome_so (aL (aL (aL this))),of_decide_eq_true (aR (aL (aL this))),bytes_of (aR (aL this)),of_decide_eq_true (aR this)⟩
 unfold wordPk
 cases p
 ·exact key _ (by rw [← e1]; exact List.mem_cons_self)
 ·exact key _ (by rw [← e2]; exact List.mem_cons_of_mem _ List.mem_cons_self)
noncomputable def vpk (p:Bool) (i:It1):PV × List Int:=(i.l.v,i.l.pk p)
structure ItOk (dep:Nat) (i:It1):Prop where
 r:∀ p,RdOk 2700 dep i.l.v (i.l.pk p)
 e:EqA 5 i.l.v
theorem eq_item {l:Lf} (h:l∈itemAll):EqA 1 l.v:=fun n=>eq_of_beq (List.all_eq_true.1 (e_items n) l h)
theorem it_item {l:Lf} (h:l∈itemAll) (dep:Nat):ItOk dep ⟨l,[]⟩:=⟨fun p=>(rd_item h p dep).less (by decide),(eq_item h).up 4⟩
theorem eq_value (k:Int) {x y:Lf} (hx:x∈leafAll) (hy:y∈leafAll):EqA 5 (valL k x y).v:=by
 have hX:=eq_item (item_of hx)
 have hY:=eq_item (item_of hy)
 unfold valL
 split
 ·exact hX.up 4
 ·split
  ·exact EqA.up (k:=2) (EqA.tuple (two (.str _ _) (.list (by intro v hv; cases hv)))) 3
  ·split
   ·exact EqA.up (k:=3) (EqA.tuple (two (.str _ _) (.list (two hX hY)))) 2
   ·exact EqA.tuple (two (.str _ _) (.list (three (hX.up 2) (.tuple (two (.str _ _) (.list (k:=1) fun v hv=>by rw [List.mem_singleton.1 hv]; exact hY))) (hY.up 2))))
theorem it_value (k:Int) {x y:Lf} (hx:x∈leafAll) (hy:y∈leafAll):ItOk (valL k x y).n (valL k x y).it :=
 ⟨fun p=>by have:=rd_value k hx hy p; cases p <;> exact this,eq_value k hx hy⟩
theorem num_mem {n:Int} (h:1≤n∧n≤9):numI n∈itemAll:=by
 refine List.mem_append_right _ (List.mem_map_of_mem ?_)
 obtain ⟨m,rfl⟩:=Int.eq_ofNat_of_zero_le (Int.le_trans (by decide) h.1)
 exact List.mem_map.2 ⟨m,List.mem_range.2 (Int.ofNat_lt.1 (Int.lt_add_one_of_le h.2)),rfl⟩
theorem first_mem {f:Lf} (h:f∈firsts):f∈itemAll:=List.mem_append_left _ (List.mem_append_left _ (List.mem_append_right _ h))
theorem bye_mem:bye∈itemAll:=List.mem_append_left _ (List.mem_append_right _ List.mem_cons_self)
noncomputable def restL (want:List Int) (v:Vl):List It1:=want.map (fun n=>⟨numI n,[]⟩)++[⟨bye,[]⟩,v.it]
theorem items_eq (f:Int) (want:List Int) (v:Vl):itemsL f want v=⟨at_ zL firsts f,[]⟩::restL want v:=rfl
theorem rest_len {want:List Int} (h:want.length≤9) (v:Vl):(restL want v).length≤11:=by
 unfold restL; rw [List.length_append,List.length_map]; show _+2≤11; omega
theorem rest_ok {want:List Int} (hw:∀ n∈want,1≤n∧n≤9) {v:Vl} (hv:ItOk v.n v.it):∀ i∈restL want v,ItOk v.n i:=fun i hi=>by
 rcases List.mem_append.1 hi with h | h
 ·obtain ⟨n,hn,rfl⟩:=List.mem_map.1 h; exact it_item (num_mem (hw n hn)) _
 ·exact two (it_item bye_mem _) hv i h
theorem ck_first:(firsts.all fun f=>!isStat f.v && [f.w,f.o].all fun o=>decide (3≤(o++[32]).length) && noStat ((o++[32]).take 3))=true:=by decide +kernel
theorem first_ok {f:Lf} (h:f∈firsts) (p:Bool):isStat f.v=false∧3≤(f.pk p++[32]).length∧noStat ((f.pk p++[32]).take 3)=true:=by
 have h:=List.all_eq_true.1 ck_first f h
 have h2:=List.all_eq_true.1 (aR h) (f.pk p) (by cases p; (· exact List.mem_cons_self); (· exact List.mem_cons_of_mem _ List.mem_cons_self))
 exact ⟨by have:=aL h; rwa [Bool.not_eq_true'] at this,of_decide_eq_true (aL h2),aR h2⟩
structure LnOk (dep:Nat) (q:Ln):Prop where
 r:∀ p,lineP 3000 dep (q.pk p)=.ok q.v []
 e:EqA 7 q.v
 n:neOk q.v q.v=true
 b:∀ p,∀ x∈q.pk p,0≤x∧x<256
 l:∀ p,(q.pk p).length≤2000
 ne:∀ p,q.pk p≠[]
theorem line_ok (k w:Int) {s:List Int} (hs:SaidOk s) {c:Int} (ht:TagOk [c,49]) (hc:c≠43∧c≠42) {f:Lf} (hf:f∈firsts) {j:It1} {its:List It1} {dep:Nat} (h:∀ i∈j::its,ItOk dep i) (hn:its.length≤10):LnOk dep (lineL k w s [c,49] (⟨f,[]⟩::j::its)):=by
 have hF:=it_item (first_mem hf) dep
 have hA:∀ i∈(⟨f,[]⟩:It1)::j::its,ItOk dep i:=fun i hi=>by
  rcases List.mem_cons.1 hi with e | e
  ·rw [e]; exact hF
  ·exact h i e
 have hR:∀ p,RdAll dep (((⟨f,[]⟩:It1)::j::its).map (vpk p)):=fun p q hq=>by
  obtain ⟨i,hi,rfl⟩:=List.mem_map.1 hq; exact (hA i hi).r p
 have hg:∀ p,(gw (((⟨f,[]⟩:It1)::j::its).map (vpk p))).length≤1932:=fun p =>
  Nat.le_trans (glue_len [32] 160 _ fun a ha=>by obtain ⟨q,hq,rfl⟩:=List.mem_map.1 ha; exact (hR p q hq).l) (by rw [List.length_map,List.length_map]; exact Nat.mul_le_mul_left 161 (Nat.succ_le_succ (Nat.succ_le_succ hn)))
 have hgb:∀ p,∀ x∈gw (((⟨f,[]⟩:It1)::j::its).map (vpk p)),0≤x∧x<256:=fun p =>
  all_glue (P:=fun x=>0≤x∧x<256) (by decide) _ fun a ha=>by obtain ⟨q,hq,rfl⟩:=List.mem_map.1 ha; exact (hR p q hq).b
 have hv:EqA 6 (.list (valsOf (⟨f,[]⟩::j::its))):=EqA.list fun v hv=>by obtain ⟨i,hi,rfl⟩:=List.mem_map.1 hv; exact (hA i hi).e
 have hvl:∀ p,(((⟨f,[]⟩:It1)::j::its).map (vpk p)).map Prod.fst=valsOf (⟨f,[]⟩::j::its):=fun p=>by rw [List.map_map]; rfl
 have hgw:gw (((⟨f,[]⟩:It1)::j::its).map (vpk false))=wiresOf (⟨f,[]⟩::j::its):=by unfold gw wiresOf; rw [List.map_map]; rfl
 have hgo:gw (((⟨f,[]⟩:It1)::j::its).map (vpk true))=looseOf (⟨f,[]⟩::j::its):=by unfold gw looseOf; rw [List.map_map]; rfl
 have hsl:=hs.l
 have hT:TagIs (at_ [] [[c,49],[]] k) (at_ [] [[c,49],[42]] k)∧(at_ [] [[c,49],[42]] k).length≤2∧(∀ x∈at_ [] [[c,49],[42]] k,0≤x∧x<256)∧at_ [] [[c,49],[42]] k≠[]:=by
  rcases at2 [] [c,49] [] k with ⟨h1,h2⟩ | ⟨h1,h2⟩ <;> rcases at2 [] [c,49] [42] k with ⟨h3,h4⟩ | ⟨h3,h4⟩
  ·rw [h2,h4]; exact ⟨tag_tag ht ⟨c,[49],rfl,hc⟩,Nat.le_refl 2,ht.b,by intro h; cases h⟩
  ·omega
  ·omega
  ·rw [h2,h4]; exact ⟨tag_star,by decide,by decide,by decide⟩
 unfold lineL
 split
 ·have e:∀ p,(Ln.mk (.tuple [sCont,.bytes s]) ([43,32]++s++[13,10]) ([43,32]++s++[13,10])).pk p=43::32::(s++[13,10]):=fun p=>by cases p <;> exact List.append_assoc [43,32] s [13,10]
  refine ⟨fun p=>by rw [e]; exact line_cont hs dep,EqA.up (k:=1) (.tuple (two (.str _ _) (.bytes _ _))) 6,rfl,fun p=>by rw [e]; exact all_app (a:=[43,32]) (P:=fun x=>0≤x∧x<256) (by decide) (all_app hs.b (by decide)),fun p=>by rw [e]; simp only [List.length_append,List.length_cons,List.length_nil]; omega,fun p=>by rw [e]; intro h; cases h⟩
 ·split
  ·have e:∀ p,(Ln.mk (.tuple [sData,.list (valsOf (⟨f,[]⟩::j::its))]) ([42,32]++wiresOf (⟨f,[]⟩::j::its)++[13,10]) ([42,32]++looseOf (⟨f,[]⟩::j::its)++[13,10])).pk p=42::32::(gw (((⟨f,[]⟩:It1)::j::its).map (vpk p))++[13,10]):=fun p=>by cases p; (· rw [hgw]; exact List.append_assoc [42,32] _ [13,10]); (· rw [hgo]; exact List.append_assoc [42,32] _ [13,10])
   have hfk:=fun p=>first_ok hf p
   refine ⟨fun p=>?_,.tuple (two (.str _ _) hv),rfl,fun p=>by rw [e]; exact all_app (a:=[42,32]) (P:=fun x=>0≤x∧x<256) (by decide) (all_app (hgb p) (by decide)),fun p=>by rw [e]; have:=hg p; simp only [List.length_append,List.length_cons,List.length_nil]; omega,fun p=>by rw [e]; intro h; cases h⟩
   rw [e]
   have:=line_data (p:=vpk p ⟨f,[]⟩) (q:=vpk p j) (l:=its.map (vpk p)) (hR p) (hfk p).1 (hfk p).2 (by rw [List.length_map]; omega) (Nat.le_trans (hg p) (by decide))
   rw [← hvl p]; exact this
  ·split
   ·have e:∀ p,(Ln.mk (.tuple [sStat,.bytes (at_ [] [[c,49],[]] k),.bytes (at_ [] words4 w),.none,.bytes s]) (at_ [] [[c,49],[42]] k++[32]++at_ [] words4 w++[32]++s++[13,10]) (at_ [] [[c,49],[42]] k++[32]++at_ [] loose4 w++[32]++s++[13,10])).pk p=at_ [] [[c,49],[42]] k++32::(wordPk p w++32::(s++[13,10])):=fun p=>by
     cases p <;> show _++[32]++_++[32]++s++[13,10]=_ <;> simp only [List.append_assoc] <;> rfl
    refine ⟨fun p=>by rw [e]; exact line_stat0 hT.1 (word_ok p w) hs dep,EqA.up (k:=1) (.tuple fun v hv=>?_) 6,rfl,fun p=>by rw [e]; exact all_app hT.2.2.1 (all_app (a:=[32]) (P:=fun x=>0≤x∧x<256) (by decide) (all_app (word_ok p w).b (all_app (a:=[32]) (by decide) (all_app hs.b (by decide))))),fun p=>by rw [e]; have:=(word_ok p w).s; have:=hT.2.1; simp only [List.length_append,List.length_cons,List.length_nil]; omega,fun p=>by rw [e]; intro h; exact hT.2.2.2 (List.append_eq_nil_iff.1 h).1⟩
    rcases List.mem_cons.1 hv with e | hv
    ·rw [e]; exact .str _ _
    ·rcases List.mem_cons.1 hv with e | hv
     ·rw [e]; exact .bytes _ _
     ·exact three (.bytes _ _) (.none _) (.bytes _ _) v hv
   ·have e:∀ p,(Ln.mk (.tuple [sStat,.bytes (at_ [] [[c,49],[]] k),.bytes (at_ [] words4 w),.list (valsOf (⟨f,[]⟩::j::its)),.bytes s]) (at_ [] [[c,49],[42]] k++[32]++at_ [] words4 w++[32]++[91]++wiresOf (⟨f,[]⟩::j::its)++[93,32]++s++[13,10]) (at_ [] [[c,49],[42]] k++[32]++at_ [] loose4 w++[32]++[91]++looseOf (⟨f,[]⟩::j::its)++[93,32]++s++[13,10])).pk p=at_ [] [[c,49],[42]] k++32::(wordPk p w++32::(91::(gw (((⟨f,[]⟩:It1)::j::its).map (vpk p))++93::32::(s++[13,10])))):=fun p=>by
     cases p
     ·rw [hgw]; show _++[32]++_++[32]++[91]++_++[93,32]++s++[13,10]=_; simp only [List.append_assoc]; rfl
     ·rw [hgo]; show _++[32]++_++[32]++[91]++_++[93,32]++s++[13,10]=_; simp only [List.append_assoc]; rfl
    refine ⟨fun p=>?_,.tuple fun v hv'=>?_,rfl,fun p=>by rw [e]; exact all_app hT.2.2.1 (all_app (a:=[32]) (P:=fun x=>0≤x∧x<256) (by decide) (all_app (word_ok p w).b (all_app (a:=[32,91]) (by decide) (all_app (hgb p) (all_app (a:=[93,32]) (by decide) (all_app hs.b (by decide))))))),fun p=>by rw [e]; have:=(word_ok p w).s; have:=hT.2.1; have:=hg p; simp only [List.length_append,List.length_cons,List.length_nil]; omega,fun p=>by rw [e]; intro h; exact hT.2.2.2 (List.append_eq_nil_iff.1 h).1⟩
    ·rw [e,← hvl p]
     exact line_stat1 (p:=vpk p ⟨f,[]⟩) (l:=(j::its).map (vpk p)) hT.1 (word_ok p w) hs (hR p) (by rw [List.length_map,List.length_cons]; omega) (Nat.le_trans (hg p) (by decide))
    ·rcases List.mem_cons.1 hv' with e | hv'
     ·rw [e]; exact .str _ _
     ·rcases List.mem_cons.1 hv' with e | hv'
      ·rw [e]; exact .bytes _ _
      ·exact three (.bytes _ _) hv (.bytes _ _) v hv'
end L1
end Mine
set_option autoImplicit false
namespace Mine
namespace L1
noncomputable def roadL (tag name x text v:List Int):List Int:=tag++[32]++name++[32]++x++([32,34]++text++[34,32])++v++[13,10]
theorem roadL_eq (tag name x text v:List Int):roadL tag name x text v=tag++32::(name++32::(x++32::(([34]++text++[34])++32::(v++[13,10])))):=by
 unfold roadL; simp only [List.append_assoc,List.cons_append,List.nil_append]
theorem roadL_glue (tag name x text v:List Int):glue [32] [tag,name,x,[34]++text++[34],v]++[13,10]=roadL tag name x text v:=by
 unfold roadL; simp only [glue,List.append_assoc,List.cons_append,List.nil_append]
section
variable {F:Nat→List PV→Res PV} {ρ:List Slot} {kb kn:List Slot→Res PV} {R:Res PV} {dep:Nat} {l:List Int}
theorem cmd_at (hb:∀ x∈l,0≤x∧x<256) (hl:l.length≤2990) (hd:dep≤2):den T G 3000 19 28 [.bytes l,.int dep]=ofPR l (cmdP 3000 dep l):=by
 have:=d_read_command (W:=3000) lib l (Nat.lt_of_le_of_lt hl (by decide)) hb dep (14 - 2 * dep)
 rwa [show 14 - 2 * dep+2 * dep+5=19 by omega] at this
theorem line_at (hb:∀ x∈l,0≤x∧x<256) (hl:l.length≤2990) (hd:dep≤2):den T G 3000 19 26 [.bytes l,.int dep]=ofPR l (lineP 3000 dep l):=by
 have:=d_read_line (W:=3000) lib l (Nat.lt_of_le_of_lt hl (by decide)) hb dep (14 - 2 * dep)
 rwa [show 14 - 2 * dep+2 * dep+5=19 by omega] at this
theorem val_at (hb:∀ x∈l,0≤x∧x<256) (hl:l.length≤2990) (hd:dep≤2) (h3:3≤l.length):den T G 3000 19 21 [.bytes l,.int 3,.int dep]=ofPR l (valP 3000 dep (l.drop 3)):=by
 have:=d_read_value (W:=3000) lib l (Nat.lt_of_le_of_lt hl (by decide)) hb dep (15 - 2 * dep) 3 h3
 rwa [show 15 - 2 * dep+2 * dep+4=19 by omega] at this
theorem reads_cut {α:Type} {p:List Int→PR α} (hm:Mono 3000 p) {x:List Int} {c:Int} {a:α} (h:p (x++[c])=.ok a [c]) (hl:x.length≤2000) {n:Nat} (hn:n<x.length):p (x.take n)=.none:=by
 have e:x.take n++(x.drop n++[c])=x++[c]:=by rw [← List.append_assoc,List.take_append_drop]
 have:=hm (x.take n) (x.drop n++[c]) (by rw [e,List.length_append]; show _+1<3000; omega)
 rw [e,h] at this
 cases hp:p (x.take n) with
 | none=>rfl
 | err=>rw [hp] at this; cases this
 | stuck=>rw [hp] at this; cases this
 | ok b r =>
  rw [hp] at this
  have h2:=congrArg (fun z:PR α=>match z with | .ok _ r=>r.length | _=>0) (show PR.ok a [c]=.ok b (r++(x.drop n++[c])) from this)
  simp only [List.length_nil,List.length_cons,List.length_append,List.length_drop] at h2
  omega
theorem ev_cutm {a b:CE} {n:Int} (h1:evE F G a ρ=.ok (.bytes l)) (h2:evE F G b ρ=.ok (.int (n % (l.length:Int)))) (hl:l≠[]):evE F G (.slc a none (some b)) ρ=.ok (.bytes (l.take (n % (l.length:Int)).toNat)):=by
 have h0:=List.length_pos_iff.2 hl
 rw [xslc,h1,b_ok,xO,b_ok,xO1,h2,b_ok,b_ok,e_none,b_ok,e_some,if_pos (Int.emod_nonneg n (by omega)),b_ok,s_b]; rfl
theorem cut_lt {n:Int} (hl:l≠[]):(n % (l.length:Int)).toNat<l.length:=by
 have h0:=List.length_pos_iff.2 hl
 have:=Int.emod_nonneg n (show (l.length:Int)≠0 by omega)
 have:=Int.emod_lt_of_pos n (show (0:Int)<(l.length:Int) by omega)
 omega
theorem ev_mod {a b:CE} {n:Int} (h1:evE F G a ρ=.ok (.int n)) (h2:evE F G b ρ=.ok (.int (l.length:Int))) (hl:l≠[]):evE F G (.bin .mod a b) ρ=.ok (.int (n % (l.length:Int))) :=
 ev_bin h1 h2 (if_pos (by have:=List.length_pos_iff.2 hl; omega))
theorem len_idx {a b:CE} (h:evE F G (.idx a b) ρ=.ok (.bytes l)):evE F G (.len (.idx a b)) ρ=.ok (.int (l.length:Int)):=by
 show (evE F G (.idx a b) ρ).bind lenP=_
 rw [h]; rfl
noncomputable def pkI (p:Bool):Int:=if p then 2 else 1
theorem pk_of (n:Int):∃ p,1+n % 2=pkI p:=by
 rcases Int.emod_two_eq n with h | h
 ·exact ⟨false,by rw [h]; rfl⟩
 ·exact ⟨true,by rw [h]; rfl⟩
theorem pk_x (x:Lf) (p:Bool):idxP x.pv (.int (pkI p))=.ok (.bytes (x.pk p)):=by cases p <;> rfl
theorem pk_v (x:Vl) (p:Bool):idxP x.pv (.int (pkI p))=.ok (.bytes (x.pk p)):=by cases p <;> rfl
theorem pk_l (x:Ln) (p:Bool):idxP x.pv (.int (pkI p))=.ok (.bytes (x.pk p)):=by cases p <;> rfl
theorem all_int {i:Nat}:∀ w:List Int,getS ρ i=.val (.list (w.map PV.int))→evE F G (.all_ (.comp (.typeIs (.var 0) .int) (.var i) none)) ρ=.ok (.bool true):=fun w h=>by
 have hm:∀ w:List Int,mapR (fun v=>evE F G (.typeIs (.var 0) .int) [.val v]) (w.map PV.int)=.ok (w.map fun _=>PV.bool true):=fun w=>by
  induction w with
  | nil=>rfl
  | cons a r ih =>
   show (Res.ok (PV.bool true)).bind (fun b=>(mapR (fun v=>evE F G (.typeIs (.var 0) .int) [.val v]) (r.map PV.int)).bind fun bs=>Res.ok (b::bs))=_
   rw [ih]; rfl
 have hb:∀ w:List Int,boolsOf (w.map fun _=>PV.bool true)=some (w.map fun _=>true):=fun w=>by
  induction w with
  | nil=>rfl
  | cons a r ih=>show (boolsOf (r.map fun _=>PV.bool true)).map (true::·)=_; rw [ih]; rfl
 show (evE F G (.comp (.typeIs (.var 0) .int) (.var i) none) ρ).bind allP=_
 rw [xcomp,xvar,h]
 show ((mapR (fun v=>evE F G (.typeIs (.var 0) .int) [.val v]) (w.map PV.int)).bind _).bind _=_
 rw [hm]
 show (match boolsOf (w.map fun _=>PV.bool true) with | some bs=>Res.ok (PV.bool (bs.all id)) | none=>.stuck)=_
 rw [hb]
 show Res.ok (PV.bool ((w.map fun _=>true).all id))=_
 rw [show (w.map fun _=>true).all id=true from List.all_eq_true.2 fun x hx=>by obtain ⟨_,_,rfl⟩:=List.mem_map.1 hx; rfl]
theorem ev_ne {a b:CE} {v:PV} {k:Nat} (h1:evE F G a ρ=.ok v) (h2:evE F G b ρ=.ok v) (he:EqA k v) (hk:k≤12) (hn:neOk v v=true):evE F G (.cmp .ne a b) ρ=.ok (.bool false):=ev_cmp h1 h2 (ne_self he hk hn)
noncomputable def ab (q:Pr):Int × Int:=(q.a,q.b)
theorem pv_ab (qs:List Pr):(qs.map ab).map sPv=qs.map Pr.pv:=by rw [List.map_map]; rfl
theorem eq_pairs (qs:List Pr):EqA 2 (.list (qs.map Pr.pv)):=.list fun v hv=>by obtain ⟨q,_,rfl⟩:=List.mem_map.1 hv; exact .tuple (two (.int _ _) (.int _ _))
theorem eq_ints (w:List Int):EqA 1 (.list (w.map PV.int)):=.list fun v hv=>by obtain ⟨q,_,rfl⟩:=List.mem_map.1 hv; exact .int _ _
theorem n_le (k:Int) (x y:Lf):(valL k x y).n≤2:=by
 unfold valL; split
 ·exact Nat.zero_le _
 ·split
  ·exact Nat.le_succ 1
  ·split
   ·exact Nat.le_succ 1
   ·exact Nat.le_refl 2
theorem eq_due {tag name:List Int} {x:PV} {text:List Int} {v:PV} (hx:EqA 1 x) (hv:EqA 5 v):EqA 7 (.tuple [.bytes tag,.bytes name,.list [x,strV text,v]]) :=
 .tuple (three (.bytes _ _) (.bytes _ _) (.list (three (hx.up 4) (EqA.up (k:=1) (.tuple (two (.str _ _) (.bytes _ _))) 4) hv)))
end
end L1
end Mine
set_option autoImplicit false
namespace Mine
namespace L1
section
variable {F:Nat→List PV→Res PV} {ρ:List Slot}
theorem ix2 {a b:CE} {u w:PV} {R:Res PV} (h1:evE F G a ρ=.ok u) (h2:evE F G b ρ=.ok w) (h3:idxP u w=R):evE F G (.idx a b) ρ=R:=by
 rw [xidx,h1,b_ok,h2,b_ok,h3]
theorem or1 {a:CE} {R:Res PV} (h:evE F G a ρ=R):evE F G (.or_ [a]) ρ=R:=h
theorem to_call3 {a b c:CE} {f:Nat} {u v w:PV} (h:evE F G a ρ=.ok u) (h2:evE F G b ρ=.ok v) (h3:evE F G c ρ=.ok w):evE F G (.call f [a,b,c]) ρ=F f [u,v,w]:=by
 rw [xcall,xE1,h,b_ok,xE1,h2,b_ok,xE1,h3]; rfl
theorem not_none {a:CE} (h:evE F G a ρ=.ok .none):evE F G (.cmp .isNot a (.lit .none)) ρ=.ok (.bool false):=ev_cmp h rfl rfl
theorem law_B2 {S:List PV} {x21 x22 x23:Int} (h21:idxP (.list S) (.int 21)=.ok (.int x21)) (h22:idxP (.list S) (.int 22)=.ok (.int x22)) (h23:idxP (.list S) (.int 23)=.ok (.int x23))
  {tag name:List Int} (k:Int) {x y:Lf} (hx:x∈leafAll) (hy:y∈leafAll) {qs:List Pr} (hq:∀ q∈qs,q∈pairAll) (h0:qs≠[]) (hl:qs.length≤3) {last:Int} (h1:1≤last) (h9:last≤9) {ln:Ln} (hln:LnOk (valL k x y).n ln) (p:Bool)
  {Rd:List Int} (hRb:∀ x∈Rd,0≤x∧x<256) (hRl:Rd.length≤600) (hRr:cmdP 3000 (valL k x y).n Rd=.ok (.tuple [.bytes tag,.bytes name,.list [x.v,strV (setT qs),(valL k x y).v]]) []) (hdeep:∀ m,(valL k x y).n=m+1→cmdP 3000 m Rd=.err) {s2 s5 s8 s11 s12 s13 s16:Slot} :
  run (den T G 3000 19) G 3000 (cf_law.drop 28) [.val (.list S),.val (.bytes tag),s2,.val (.bytes name),.val x.pv,s5,.val (valL k x y).pv,.val (valL k x y).pv,s8,.val (.list (qs.map Pr.pv)),.val (.bytes (setT qs)),s11,s12,s13,.val (.int last),.val (.list ((memb (qs.map ab) last).map PV.int)),s16,.val ln.pv,.val ln.pv,.val (.int (pkI p)),.val (.int (valL k x y).n),.val (.bytes Rd),.unset,.unset,.unset,.unset,.unset,.unset,.unset] kS kN=.ok (.bool true):=by
 have hv:=rd_value k hx hy p
 have hn2:=n_le k x y
 have hLl:=hln.l p
 have hLb:=hln.b p
 have hRne:Rd≠[]:=fun e=>by rw [e] at hRr; cases hRr
 have hvne:(valL k x y).pk p≠[]:=fun e=>by obtain ⟨c,t,h,_⟩:=hv.ne; rw [e] at h; cases h
 have hst:(Rd++ln.pk p++[42,32,120]).length≤2990:=by simp only [List.length_append,List.length_cons,List.length_nil]; omega
 have hstb:∀ x∈Rd++ln.pk p++[42,32,120],0≤x∧x<256:=all_app (all_app hRb hLb) (by decide)
 have hgot:den T G 3000 19 28 [.bytes (Rd++ln.pk p++[42,32,120]),.int (valL k x y).n]=.ok (.tuple [.tuple [.bytes tag,.bytes name,.list [x.v,strV (setT qs),(valL k x y).v]],.int Rd.length]):=by
  rw [cmd_at hstb hst hn2,List.append_assoc,reads_more (mono_cmd 3000 _) hRr _ (by rw [← List.append_assoc]; omega)]
  refine congrArg (fun z=>Res.ok (PV.tuple [_,.int z])) ?_
  rw [List.length_append,List.nil_append]; omega
 have hLs:(ln.pk p++[42,32,120]).length≤2990:=by rw [List.length_append]; show _+3≤2990; omega
 have hreply:den T G 3000 19 26 [.bytes (ln.pk p++[42,32,120]),.int (valL k x y).n]=.ok (.tuple [ln.v,.int (ln.pk p).length]):=by
  rw [line_at (all_app hLb (by decide)) hLs hn2,reads_more (mono_line 3000 _) (hln.r p) _ (by omega)]
  refine congrArg (fun z=>Res.ok (PV.tuple [_,.int z])) ?_
  rw [List.length_append,List.nil_append]; omega
 have hvl:=hv.l
 have hval:den T G 3000 19 21 [.bytes ([40,55,32]++(valL k x y).pk p++[41]),.int 3,.int (valL k x y).n]=.ok (.tuple [(valL k x y).v,.int (3+((valL k x y).pk p).length)]):=by
  rw [val_at (all_app (all_app (by decide) hv.b) (by decide)) (by simp only [List.length_append,List.length_cons,List.length_nil]; omega) hn2 (by simp only [List.length_append,List.length_cons,List.length_nil]; omega)]
  show ofPR _ (valP 3000 _ ((valL k x y).pk p++[41]))=_
  rw [hv.r 41 m41 [] (by decide)]
  refine congrArg (fun z=>Res.ok (PV.tuple [_,.int z])) ?_
  simp only [List.length_append,List.length_cons,List.length_nil]; omega
 have hcv:den T G 3000 19 21 [.bytes ([40,55,32]++((valL k x y).pk p).take (x21 % (((valL k x y).pk p).length:Int)).toNat),.int 3,.int (valL k x y).n]=.ok .none:=by
  rw [val_at (all_app (by decide) fun z hz=>hv.b z (List.mem_of_mem_take hz)) (by simp only [List.length_append,List.length_cons,List.length_nil,List.length_take]; omega) hn2 (by simp only [List.length_append,List.length_cons,List.length_nil]; omega)]
  show ofPR _ (valP 3000 _ (((valL k x y).pk p).take _))=_
  rw [reads_cut (mono_val 3000 _) (hv.r 41 m41 [] (by decide)) (by omega) (cut_lt hvne)]; rfl
 have hcr:den T G 3000 19 28 [.bytes (Rd.take (x21 % (Rd.length:Int)).toNat),.int (valL k x y).n]=.ok .none:=by
  rw [cmd_at (fun z hz=>hRb z (List.mem_of_mem_take hz)) (by rw [List.length_take]; omega) hn2,reads_good (mono_cmd 3000 _) hRr (by omega) (cut_lt hRne)]; rfl
 have hcl:den T G 3000 19 26 [.bytes ((ln.pk p).take (x22 % ((ln.pk p).length:Int)).toNat),.int (valL k x y).n]=.ok .none:=by
  rw [line_at (fun z hz=>hLb z (List.mem_of_mem_take hz)) (by rw [List.length_take]; omega) hn2,reads_good (mono_line 3000 _) (hln.r p) (by omega) (cut_lt (hln.ne p))]; rfl
 have hmem:den T G 3000 19 35 [.list (qs.map Pr.pv),.int last]=.ok (.list ((memb (qs.map ab) last).map PV.int)):=by
  have:=d_members 14 (qs.map ab) last (by rw [List.length_map]; exact hl) h1 h9 fun q hq'=>by obtain ⟨r,hr,rfl⟩:=List.mem_map.1 hq'; exact ⟨(pr_ok (hq r hr) 0).a.1,(pr_ok (hq r hr) 0).b.1⟩
  rw [pv_ab] at this; exact this
 have hdue:=eq_due (tag:=tag) (name:=name) (text:=setT qs) (eq_item (item_of hx)) (eq_value k hx hy)
 refine rs (v:=.bytes (Rd++ln.pk p++[42,32,120])) (ebv (.add (.add ⟨rfl,hRl⟩ ⟨ix2 rfl rfl (pk_l ln p),hLl⟩ (by decide)) .lit (by decide))) ?_
 refine rs (Eq.trans (to_call2 rfl rfl) hgot) (rf0 (ev_ne rfl rfl (.tuple (two hdue (.int _ _))) (by decide) rfl) (rf0 rfl (rs (Eq.trans (to_call1 rfl) (set_read (d:=16) hq h0 hl)) (rf0 (ev_ne rfl rfl (eq_pairs qs) (by decide) rfl) (rs (Eq.trans (to_call2 rfl rfl) hmem) (rf0 (ev_orF (ev_ne rfl rfl (eq_ints _) (by decide) rfl) (ev_orF (evN (all_int _ rfl)) (or1 (ev_ne rfl rfl (eq_pairs qs) (by decide) rfl)))) ?_))))))
 refine rs (Eq.trans (to_call2 (Eq.trans (ev_from (q:=Rd.length) rfl rfl) (by rw [List.append_assoc,List.drop_left])) rfl) hreply) (rf0 (ev_orF (ev_ne rfl (tup2 rfl (len_idx (ix2 rfl rfl (pk_l ln p)))) (.tuple (two hln.e (.int _ _))) (by decide) rfl) rfl) ?_)
 refine rf0 (ev_ne (Eq.trans (to_call3 (ebv (.add (.add .lit ⟨ix2 rfl rfl (pk_v _ p),hv.l⟩ (by decide)) .lit (by decide))) rfl rfl) hval) (tup2 rfl (ev_bin rfl (len_idx (ix2 rfl rfl (pk_v _ p))) rfl)) (.tuple (two (eq_value k hx hy) (.int _ _))) (by decide) rfl) ?_
 refine rf0 (not_none (Eq.trans (to_call3 (ebv (.add (q:=160) .lit ⟨ev_cutm (ix2 rfl rfl (pk_v _ p)) (ev_mod (ev_idx rfl h21) (len_idx (ix2 rfl rfl (pk_v _ p))) hvne) hvne,by rw [List.length_take]; omega⟩ (by decide))) rfl rfl) hcv)) ?_
 refine rf0 (not_none (Eq.trans (to_call2 (ev_cutm rfl (ev_mod (ev_idx rfl h21) rfl hRne) hRne) rfl) hcr)) ?_
 refine rf0 (not_none (Eq.trans (to_call2 (ev_cutm (ix2 rfl rfl (pk_l ln p)) (ev_mod (ev_idx rfl h22) (len_idx (ix2 rfl rfl (pk_l ln p))) (hln.ne p)) (hln.ne p)) rfl) hcl)) ?_
 have hbe:0≤at_ 0 bads x22∧at_ 0 bads x22<256:=of_decide_eq_true (List.all_eq_true.1 (show (bads.all fun x=>decide (0≤x∧x<256))=true by decide) _ (at_mem (by decide) x22))
 have hod:0≤at_ 0 odds x22∧at_ 0 odds x22<256:=of_decide_eq_true (List.all_eq_true.1 (show (odds.all fun x=>decide (0≤x∧x<256))=true by decide) _ (at_mem (by decide) x22))
 have hend:∀ {s22 s23 s24 s25 s26:Slot},run (den T G 3000 19) G 3000 (cf_law.drop 43) [.val (.list S),.val (.bytes tag),s2,.val (.bytes name),.val x.pv,s5,.val (valL k x y).pv,.val (valL k x y).pv,s8,.val (.list (qs.map Pr.pv)),.val (.bytes (setT qs)),s11,s12,s13,.val (.int last),.val (.list ((memb (qs.map ab) last).map PV.int)),s16,.val ln.pv,.val ln.pv,.val (.int (pkI p)),.val (.int (valL k x y).n),.val (.bytes Rd),s22,s23,s24,s25,s26,.unset,.unset] kS kN=.ok (.bool true):=by
  intro s22 s23 s24 s25 s26
  refine rs (ev_mk1 (ev_at PV.int 0 bads (by decide) rfl (ev_bin (ev_idx rfl h22) rfl rfl) rfl) hbe) (rs (ev_mk1 (ev_at PV.int 0 odds (by decide) rfl (ev_bin (ev_idx rfl h22) rfl rfl) rfl) hod) (rf0 (evN ?_) (rr rfl)))
  have hrf:=d_refusals (d:=5) x23 (at_mem (z:=(0:Int)) (l:=bads) (by decide) x22) (at_mem (z:=(0:Int)) (l:=odds) (by decide) x22) k hx hy hq h0 hl
  rw [xcall]
  refine Eq.trans (congrArg (fun z=>Res.bind z _) (evs (ev_idx rfl h23) (evs rfl (evs rfl (evs rfl (evs rfl (evs rfl (evs rfl rfl)))))))) hrf
 cases hN:(valL k x y).n with
 | zero=>rw [hN] at hend; exact rf0 rfl hend
 | succ m =>
  rw [hN] at hend
  have hun:den T G 3000 19 52 [.bytes Rd,.int m]=.ok (.bool true):=by
   refine un52 ?_
   have:=read_err (d:=13 - 2 * m) (dep:=m) hRb (by omega) (hdeep m hN)
   rwa [show 13 - 2 * m+2 * m+5=18 by omega] at this
  refine ry (bT (decide_eq_true (by omega))) (rf0 (evN (Eq.trans (to_call2 rfl (v:=.bytes Rd) (w:=.int m) ?_) hun)) (r0 hend))
  refine ev_bin (x:=.int ((m+1:Nat):Int)) (y:=.int 1) rfl rfl (congrArg (fun z=>Res.ok (PV.int z)) (by omega))
end
end L1
end Mine
set_option autoImplicit false
namespace Mine
namespace L1
noncomputable def tagsT:List Int:=[45,48,57,65,90,97,122]
noncomputable def namesT:List Int:=[65,90,97,122]
noncomputable def saidT:List Int:=[1,9,11,12,14,32,90,92,93,42,43,255]
noncomputable def isTru (r:Res PV):Bool:=match r with
 | .ok (.bool b)=>b
 | _=>false
theorem isTru_so {r:Res PV} (h:isTru r=true):r=.ok (.bool true):=by
 unfold isTru at h; split at h
 ·rw [h]
 ·cases h
theorem ck_tags (d:Nat):(tagsT.all fun c=>isTru (den T G 3000 (d+3) 9 [.bytes [c,49]]) && isOk beqL (runP 3000 isTagC ([c,49]++[32])) [c,49] [32] && bytesOk [c,49] && !(c == 43) && !(c == 42))=true:=by kernel_rfl
theorem ck_names (d:Nat):(namesT.all fun c=>isTru (den T G 3000 (d+3) 10 [.bytes [c,101,84,99,104]]) && isOk beqL (runP 3000 isLet ([c,101,84,99,104]++[32])) [c,101,84,99,104] [32] && bytesOk [c,101,84,99,104])=true:=by kernel_rfl
theorem ck_said (d:Nat):(saidT.all fun c=>[[],[91,122]].all fun z=>isW1 (den T G 3000 (d+3) 22 [.bytes ([c]++z)]) ([c]++z) && isOk beqL (textP 3000 ([c]++z++[13,10])) ([c]++z) [] && bytesOk ([c]++z) && decide (([c]++z).length≤3) && !(c == 91))=true:=by kernel_rfl
theorem ne_of {a b:Int} (h:(!(a == b))=true):a≠b:=by rwa [Bool.not_eq_true',beq_eq_false_iff_ne] at h
theorem tag_ok {c:Int} (h:c∈tagsT):TagOk [c,49]∧(c≠43∧c≠42)∧(0≤c∧c<256)∧∀ d,den T G 3000 (d+3) 9 [.bytes [c,49]]=.ok (.bool true):=by
 have k:=fun d=>List.all_eq_true.1 (ck_tags d) c h
 have b:=bytes_of (aR (aL (aL (k 0))))
 exact ⟨⟨isOk_so beqL_so (aR (aL (aL (aL (k 0))))),by show 2≤10; decide,b⟩,⟨ne_of (aR (aL (k 0))),ne_of (aR (k 0))⟩,b c List.mem_cons_self,fun d=>isTru_so (aL (aL (aL (aL (k d)))))⟩
theorem name_ok {c:Int} (h:c∈namesT):NameOk [c,101,84,99,104]∧(0≤c∧c<256)∧∀ d,den T G 3000 (d+3) 10 [.bytes [c,101,84,99,104]]=.ok (.bool true):=by
 have k:=fun d=>List.all_eq_true.1 (ck_names d) c h
 have b:=bytes_of (aR (k 0))
 exact ⟨⟨isOk_so beqL_so (aR (aL (k 0))),by show 5≤10; decide,b⟩,b c List.mem_cons_self,fun d=>isTru_so (aL (aL (k d)))⟩
theorem said_ok {c:Int} (h:c∈saidT) {z:List Int} (hz:z∈[[],[91,122]]):SaidOk ([c]++z)∧(0≤c∧c<256)∧∀ d,den T G 3000 (d+3) 22 [.bytes ([c]++z)]=.ok (.bytes ([c]++z)):=by
 have k:=fun d=>List.all_eq_true.1 (List.all_eq_true.1 (ck_said d) c h) z hz
 have b:=bytes_of (aR (aL (aL (k 0))))
 exact ⟨⟨isOk_so beqL_so (aR (aL (aL (aL (k 0))))),of_decide_eq_true (aR (aL (k 0))),b,c,z,rfl,ne_of (aR (k 0))⟩,b c List.mem_cons_self,fun d=>isW1_so (aL (aL (aL (aL (k d)))))⟩
theorem cap_ok (n:Int):at_ 0 [65,90] n=upC (at_ 0 namesT n):=by
 have h1:=Int.emod_nonneg n (show (4:Int)≠0 by decide)
 have h2:=Int.emod_lt_of_pos n (show (0:Int)<4 by decide)
 show ([65,90][(n % 2).toNat]?).getD 0=upC ((namesT[(n % 4).toNat]?).getD 0)
 rw [← Int.emod_emod_of_dvd n (show (2:Int) ∣ 4 from ⟨2,rfl⟩)]
 generalize n % 4=r at h1 h2
 obtain ⟨m,rfl⟩:=Int.eq_ofNat_of_zero_le h1
 match m,h2 with
 | 0,_=>rfl
 | 1,_=>rfl
 | 2,_=>rfl
 | 3,_=>rfl
noncomputable def sc (xs:List Int) (i:Nat):Int:=(xs[i]?).getD 0
theorem sx {xs:List Int} (h:24≤xs.length) (i:Nat) (hi:Nat.blt i 24=true):idxP (.list (xs.map PV.int)) (.int (i:Int))=.ok (.int (sc xs i)):=by
 have:i<24:=Nat.le_of_ble_eq_true hi
 show (if (0:Int)≤(i:Int) then ofI (xs.map PV.int)[((i:Int)).toNat]? else Res.stuck)=_
 rw [if_pos (Int.natCast_nonneg i),Int.toNat_natCast,List.getElem?_map]
 unfold sc
 rw [List.getElem?_eq_getElem (by omega)]; rfl
section
variable {F:Nat→List PV→Res PV} {ρ:List Slot}
theorem ev_col2 {α:Type} (f g:α→PV) {e:CE} (k:Int) (h:∀ i,idxP (f i) (.int k)=.ok (g i)) {its:List α} (he:evE F G e ρ=.ok (.list (its.map f))):evE F G (.comp (.idx (.var 0) (.lit (.int k))) e none) ρ=.ok (.list (its.map g)):=by
 have hm:∀ its:List α,mapR (fun v=>evE F G (.idx (.var 0) (.lit (.int k))) [.val v]) (its.map f)=.ok (its.map g):=fun its=>by
  induction its with
  | nil=>rfl
  | cons a r ih =>
   show (idxP (f a) (.int k)).bind (fun b=>(mapR (fun v=>evE F G (.idx (.var 0) (.lit (.int k))) [.val v]) (r.map f)).bind fun bs=>Res.ok (b::bs))=_
   rw [h a,ih]; rfl
 rw [xcomp,he]
 show (mapR (fun v=>evE F G (.idx (.var 0) (.lit (.int k))) [.val v]) (its.map f)).bind _=_
 rw [hm its]; rfl
theorem ev_take {a b:CE} {l:List PV} {n:Nat} (h1:evE F G a ρ=.ok (.list l)) (h2:evE F G b ρ=.ok (.int (n:Int))):evE F G (.slc a none (some b)) ρ=.ok (.list (l.take n)):=by
 rw [xslc,h1,b_ok,xO,b_ok,xO1,h2,b_ok,b_ok,e_none,b_ok,e_some,if_pos (Int.natCast_nonneg _),b_ok]; rfl
theorem to_call5 {a b c e f:CE} {i:Nat} {u v w x y:PV} (h:evE F G a ρ=.ok u) (h2:evE F G b ρ=.ok v) (h3:evE F G c ρ=.ok w) (h4:evE F G e ρ=.ok x) (h5:evE F G f ρ=.ok y):evE F G (.call i [a,b,c,e,f]) ρ=F i [u,v,w,x,y]:=by
 rw [xcall,evs h (evs h2 (evs h3 (evs h4 (evs h5 rfl))))]; rfl
theorem ev_road {i j:CE} {tag name t a b:List Int} (h1:getS ρ 1=.val (.bytes tag)) (h2:getS ρ 2=.val (.bytes name)) (h3:getS ρ 13=.val (.bytes ([32,34]++t++[34,32]))) (hi:evE F G i ρ=.ok (.bytes a)) (hj:evE F G j ρ=.ok (.bytes b)) (l1:tag.length≤10) (l2:name.length≤10) (l3:t.length≤40) (l4:a.length≤160) (l5:b.length≤160) :
  evE F G (.bin .add (.bin .add (.bin .add (.bin .add (.bin .add (.bin .add (.bin .add (.var 1) (.lit (.bytes [32]))) (.var 2)) (.lit (.bytes [32]))) i) (.var 13)) j) (.lit (.bytes [13,10]))) ρ=.ok (.bytes (roadL tag name a t b)) :=
 ebv (.add (.add (.add (.add (.add (.add (.add ⟨by rw [xvar,h1],l1⟩ .lit (by decide)) ⟨by rw [xvar,h2],l2⟩ (by decide)) .lit (by decide)) ⟨hi,l4⟩ (by decide)) (q:=44) ⟨by rw [xvar,h3],by simp only [List.length_append,List.length_cons,List.length_nil]; omega⟩ (by decide)) ⟨hj,l5⟩ (by decide)) .lit (by decide))
theorem pairs_of (qs:List Pr):pairsOf (qs.map Pr.pv)=some (qs.map ab):=by
 induction qs with
 | nil=>rfl
 | cons q r ih =>
  show (match some (q.a,q.b),pairsOf (r.map Pr.pv) with | some p,some ps=>some (p::ps) | _,_=>none)=_
  rw [ih]; rfl
theorem want_ok {qs:List Pr} {last:Int} (hl:qs.length≤3) (h1:1≤last) (h9:last≤9):nf_law_members [.list (qs.map Pr.pv),.int last]=.ok (.list ((memb (qs.map ab) last).map PV.int)):=by
 show (match pairsOf (qs.map Pr.pv) with | some ps=>if (qs.map Pr.pv).length≤3∧1≤last∧last≤9 then Res.ok (PV.list ((memb ps last).map PV.int)) else .stuck | none=>.stuck)=_
 rw [pairs_of]
 exact if_pos ⟨by rw [List.length_map]; exact hl,h1,h9⟩
theorem memb_in {ps:List (Int × Int)} {last:Int} (h9:last≤9):(∀ n∈memb ps last,1≤n∧n≤9)∧(memb ps last).length≤9:=by
 constructor
 ·intro n hn
  obtain ⟨i,hi,rfl⟩:=List.mem_map.1 (List.mem_filter.1 hn).1
  have:=List.mem_range.1 hi; omega
 ·refine Nat.le_trans (List.length_filter_le _ _) ?_
  rw [List.length_map,List.length_range]; omega
end
end L1
end Mine
set_option autoImplicit false
namespace Mine
namespace L1
noncomputable def capsT:List Int:=[65,90]
theorem le2:2≤lim:=by decide
theorem le5:5≤lim:=by decide
theorem z2_len:∀ z∈([[],[91,122]]:List (List Int)),z.length≤2:=by decide
theorem d_native (args:List PV):den T G 3000 19 40 args=nf_law_members args:=rfl
section
variable {xs:List Int} (h:24≤xs.length) {c:Int} (hT:TagOk [c,49]) {name:List Int} (hN:NameOk name) {k:Int} {x y:Lf} (hx:x∈leafAll) (hy:y∈leafAll) {qs:List Pr} (hq:∀ q∈qs,q∈pairAll) (h0:qs≠[]) (hl:qs.length≤3)
include h hT hN hx hy hq h0 hl
theorem law_A4 {last:Int} (h1:1≤last) (h9:last≤9) {ln:Ln} (hln:LnOk (valL k x y).n ln) {s5 s8 s11 s12 s16:Slot} :
  run (den T G 3000 19) G 3000 (cf_law.drop 25) [.val (.list (xs.map PV.int)),.val (.bytes [c,49]),.val (.bytes name),.val (.bytes (up name)),.val x.pv,s5,.val (valL k x y).pv,.val (valL k x y).pv,s8,.val (.list (qs.map Pr.pv)),.val (.bytes (setT qs)),s11,s12,.val (.bytes ([32,34]++setT qs++[34,32])),.val (.int last),.val (.list ((memb (qs.map ab) last).map PV.int)),s16,.val ln.pv,.val ln.pv,.unset,.unset,.unset,.unset,.unset,.unset,.unset,.unset,.unset,.unset] kS kN=.ok (.bool true):=by
 have hpl:=set_pl hq
 have hsl:=set_len hq hl
 obtain ⟨p,hp⟩:=pk_of (sc xs 20)
 have hX:=rd_item (item_of hx) p (valL k x y).n
 have hV:=rd_value k hx hy p
 have hxl:=hX.l
 have hvl:=hV.l
 have hnl:=hN.l
 refine rs (v:=.int (pkI p)) (Eq.trans (ev_bin rfl (ev_bin (ev_idx rfl (sx h 20 rfl)) rfl rfl) rfl) (congrArg (fun z=>Res.ok (PV.int z)) hp)) (rs (v:=.int (valL k x y).n) rfl ?_)
 refine rs (ev_road rfl rfl rfl (ix2 rfl rfl (pk_x x p)) (ix2 rfl rfl (pk_v _ p)) hT.l hN.l (Nat.le_succ_of_le hsl) hX.l hV.l) ?_
 refine law_B2 (Rd:=roadL [c,49] name (x.pk p) (setT qs) ((valL k x y).pk p)) (sx h 21 rfl) (sx h 22 rfl) (sx h 23 rfl) k hx hy hq h0 hl h1 h9 hln p (all_app (all_app (all_app (all_app (all_app (all_app (all_app hT.b (by decide)) hN.b) (by decide)) hX.b) (all_app (all_app (by decide) fun c hc=>⟨Int.le_of_lt (hpl c hc).a,Int.lt_trans (hpl c hc).b (by decide)⟩) (by decide))) hV.b) (by decide)) ?_ ?_ fun m hm=>?_
 ·rw [roadL_eq]; simp only [List.length_append,List.length_cons,List.length_nil]; omega
 ·rw [roadL_eq]; exact road_ok hT hN hX (rd_text hpl (Nat.le_succ_of_le hsl) (valL k x y).n) hV
 ·rw [roadL_eq]
  exact road_deep hT hN (rd_item (item_of hx) p m) (rd_text hpl (Nat.le_succ_of_le hsl) m) hvl (deep_value k hx hy p hm [13,10] (by decide))
theorem law_A3 (hT2:c≠43∧c≠42) (hTd:∀ d,den T G 3000 (d+3) 9 [.bytes [c,49]]=.ok (.bool true)) {s5 s8 s11 s12:Slot} :
  run (den T G 3000 19) G 3000 (cf_law.drop 18) [.val (.list (xs.map PV.int)),.val (.bytes [c,49]),.val (.bytes name),.val (.bytes (up name)),.val x.pv,s5,.val (valL k x y).pv,.val (valL k x y).pv,s8,.val (.list (qs.map Pr.pv)),.val (.bytes (setT qs)),s11,s12,.val (.bytes ([32,34]++setT qs++[34,32])),.unset,.unset,.unset,.unset,.unset,.unset,.unset,.unset,.unset,.unset,.unset,.unset,.unset,.unset,.unset] kS kN=.ok (.bool true):=by
 have hm9:=Int.emod_nonneg (sc xs 16) (show (9:Int)≠0 by decide)
 have hm99:=Int.emod_lt_of_pos (sc xs 16) (show (0:Int)<9 by decide)
 obtain ⟨last,hlast⟩:∃ last:Int,last=1+sc xs 16 % 9:=⟨_,rfl⟩
 have h1:1≤last:=by omega
 have h9:last≤9:=by omega
 have hz:=at_mem (z:=[]) (l:=([[],[91,122]]:List (List Int))) (by decide) (sc xs 19 / 12)
 obtain ⟨hS,hSc,hSd⟩:=said_ok (at_mem (z:=0) (l:=saidT) (by decide) (sc xs 19)) hz
 have hwv:WrOk 18 ((valL k x y).v,(valL k x y).w):=w_value (d:=10) k hx hy
 have hwant:=want_ok hl h1 h9
 have hmem:=memb_in (ps:=qs.map ab) h9
 have hitv:=it_value k hx hy
 have hrest:=rest_ok hmem.1 hitv
 have hrl:=rest_len hmem.2 (valL k x y)
 have hf:=at_mem (z:=zL) (l:=firsts) (by decide) (sc xs 18)
 have hits:∀ i∈itemsL (sc xs 18) (memb (qs.map ab) last) (valL k x y),ItOk (valL k x y).n i:=fun i hi=>by
  rcases List.mem_cons.1 hi with e | e
  ·rw [e]; exact it_item (first_mem hf) _
  ·exact hrest i e
 have d4:=d_items1 (W:=3000) (d:=18) (sc xs 18) _ hmem.1 hmem.2 (valL k x y)
 have d5:=d_line1 (W:=3000) (d:=18) (sc xs 17) (sc xs 18) hS.l (tag:=[c,49]) (Nat.le_refl 2) (its:=itemsL (sc xs 18) (memb (qs.map ab) last) (valL k x y)) (Nat.le_trans (Nat.succ_le_succ hrl) (by decide)) fun i hi=>⟨Nat.le_trans ((hits i hi).r false).l (by decide),Nat.le_trans ((hits i hi).r true).l (by decide)⟩
 have hwi:∀ i∈itemsL (sc xs 18) (memb (qs.map ab) last) (valL k x y),WrOk 18 (vw i):=fun i hi=>by
  rcases List.mem_cons.1 hi with e | e
  ·rw [e]; exact w_item (first_mem hf) 13
  ·rcases List.mem_append.1 (show i∈restL _ _ from e) with e | e
   ·obtain ⟨n,hn,rfl⟩:=List.mem_map.1 e; exact w_item (num_mem (hmem.1 n hn)) 13
   ·exact two (P:=fun i=>WrOk 18 (vw i)) (a:=⟨bye,[]⟩) (b:=(valL k x y).it) (w_item bye_mem 13) hwv i e
 have d6:den T G 3000 19 23 [(lineL (sc xs 17) (sc xs 18) ([at_ 0 saidT (sc xs 19)]++at_ [] [[],[91,122]] (sc xs 19 / 12)) [c,49] (itemsL (sc xs 18) (memb (qs.map ab) last) (valL k x y))).v]=.ok (.bytes (lineL (sc xs 17) (sc xs 18) ([at_ 0 saidT (sc xs 19)]++at_ [] [[],[91,122]] (sc xs 19 / 12)) [c,49] (itemsL (sc xs 18) (memb (qs.map ab) last) (valL k x y))).w):=w_line (d:=17) (sc xs 17) (sc xs 18) (hTd 15) (hSd 15) hS.l hf (its:=restL (memb (qs.map ab) last) (valL k x y)) hwi (Nat.le_trans hrl (by decide))
 have hln:LnOk (valL k x y).n (lineL (sc xs 17) (sc xs 18) ([at_ 0 saidT (sc xs 19)]++at_ [] [[],[91,122]] (sc xs 19 / 12)) [c,49] (itemsL (sc xs 18) (memb (qs.map ab) last) (valL k x y))):=by
  rw [items_eq]
  cases e:restL (memb (qs.map ab) last) (valL k x y) with
  | nil=>exact absurd (List.append_eq_nil_iff.1 e).2 (by intro h; cases h)
  | cons j its =>
   rw [e] at hrest hrl
   exact line_ok _ _ hS hT hT2 hf hrest (Nat.le_of_succ_le_succ hrl)
 clear hits hwi hrest hrl
 generalize itemsL (sc xs 18) (memb (qs.map ab) last) (valL k x y)=its at d4 d5 d6 hln
 generalize lineL (sc xs 17) (sc xs 18) ([at_ 0 saidT (sc xs 19)]++at_ [] [[],[91,122]] (sc xs 19 / 12)) [c,49] its=ln at d5 d6 hln
 refine rs (v:=.int last) (Eq.trans (ev_bin rfl (ev_bin (ev_idx rfl (sx h 16 rfl)) rfl rfl) rfl) (congrArg (fun z=>Res.ok (PV.int z)) hlast.symm)) (rs (Eq.trans (to_call2 rfl rfl) (Eq.trans (d_native _) hwant)) ?_)
 refine rs (ev_addb (ev_mk1 (ev_at PV.int 0 saidT (by decide) rfl (ev_bin (ev_idx rfl (sx h 19 rfl)) rfl rfl) rfl) hSc) (ev_at PV.bytes [] [[],[91,122]] (by decide) rfl (ev_bin (ev_bin (ev_idx rfl (sx h 19 rfl)) rfl rfl) rfl rfl) rfl) (small (Nat.le_refl 1) (z2_len _ hz) (by decide))) ?_
 refine rs (Eq.trans (to_call5 (ev_idx rfl (sx h 17 rfl)) (ev_idx rfl (sx h 18 rfl)) rfl rfl (Eq.trans (to_call3 (ev_idx rfl (sx h 18 rfl)) rfl rfl) d4)) d5) (rs (Eq.trans (to_call5 (ev_idx rfl (sx h 17 rfl)) (ev_idx rfl (sx h 18 rfl)) rfl rfl (Eq.trans (to_call3 (ev_idx rfl (sx h 18 rfl)) rfl rfl) d4)) d5) ?_)
 exact rs (Eq.trans (to_call1 rfl) d6) (rf0 (ev_orF (ev_ne rfl rfl (EqA.bytes _ 0) (by decide) rfl) (ev_orF (evN rfl) (or1 (ev_ne rfl rfl hln.e (by decide) hln.n)))) (law_A4 h hT hN hx hy hq h0 hl h1 h9 hln))
theorem law_A2 (hT2:c≠43∧c≠42) (hTd:∀ d,den T G 3000 (d+3) 9 [.bytes [c,49]]=.ok (.bool true)) (hNd:∀ d,den T G 3000 (d+3) 10 [.bytes name]=.ok (.bool true)) {s5:Slot} :
  run (den T G 3000 19) G 3000 (cf_law.drop 9) [.val (.list (xs.map PV.int)),.val (.bytes [c,49]),.val (.bytes name),.val (.bytes (up name)),.val x.pv,s5,.val (valL k x y).pv,.val (valL k x y).pv,.val (.list (qs.map Pr.pvt)),.unset,.unset,.unset,.unset,.unset,.unset,.unset,.unset,.unset,.unset,.unset,.unset,.unset,.unset,.unset,.unset,.unset,.unset,.unset,.unset] kS kN=.ok (.bool true):=by
 have hpl:=set_pl hq
 have hsl:=set_len hq hl
 have hok:=fun q hq'=>pr_ok (hq q hq') 16
 have hset:=ws_ok (d:=16) hok h0 hl
 have hwx:WrOk 18 (x.v,x.w):=w_item (item_of hx) 13
 have hwv:WrOk 18 ((valL k x y).v,(valL k x y).w):=w_value (d:=10) k hx hy
 have hcmd:=w_cmd (d:=17) (hTd 15) (hNd 15) hwx (w_text (d:=16) hpl (Nat.le_succ_of_le hsl)) hwv (Nat.le_trans hT.l (by decide)) (Nat.le_trans hN.l (by decide))
 refine rs (ev_col2 Pr.pvt Pr.pv 0 (fun _=>rfl) rfl) (rs (v:=.bytes (setT qs)) (ev_join rfl (ev_col2 Pr.pvt (fun q=>.bytes q.t) 1 (fun _=>rfl) rfl) (Eq.trans (by rw [List.map_map]; rfl) (join_ok [44] (qs.map Pr.t) (n:=12) (fun c hc=>by obtain ⟨q,hq,rfl⟩:=List.mem_map.1 hc; exact (hok q hq).l) (by rw [List.length_map]; omega) (by decide)))) ?_)
 refine rs (Eq.trans (to_call1 rfl) hset) (rf0 (ev_orF (ev_ne rfl rfl (EqA.bytes _ 0) (by decide) rfl) (ev_orF (evN rfl) (or1 (ev_ne rfl (ev_col2 Pr.pvt Pr.pv 0 (fun _=>rfl) rfl) (eq_pairs qs) (by decide) rfl)))) ?_)
 refine rs (v:=.tuple [.bytes [c,49],.bytes name,.list [x.v,strV (setT qs),(valL k x y).v]]) rfl (rs (v:=.bytes ([32,34]++setT qs++[34,32])) (ebv (.add (.add .lit ⟨rfl,hsl⟩ (by decide)) .lit (by decide))) ?_)
 refine rs (Eq.trans (to_call1 rfl) (Eq.trans hcmd (congrArg (fun z=>Res.ok (PV.bytes z)) (roadL_glue _ _ _ _ _)))) ?_
 refine rf0 (ev_orF (ev_ne rfl (ev_road rfl rfl rfl rfl rfl hT.l hN.l (Nat.le_succ_of_le hsl) (rd_item (item_of hx) false 0).l (rd_value k hx hy false).l) (EqA.bytes _ 0) (by decide) rfl) (or1 (evN rfl))) ?_
 exact rf0 (ev_ne rfl rfl (eq_due (eq_item (item_of hx)) (eq_value k hx hy)) (by decide) rfl) (law_A3 h hT hN hx hy hq h0 hl hT2 hTd)
end
theorem law_long {xs:List Int} (h:24≤xs.length):den T G 3000 20 58 [.list (xs.map PV.int)]=.ok (.bool true):=by
 obtain ⟨hT,hT2,hTc,hTd⟩:=tag_ok (at_mem (z:=0) (l:=tagsT) (by decide) (sc xs 0))
 obtain ⟨hN,hNc,hNd⟩:=name_ok (at_mem (z:=0) (l:=namesT) (by decide) (sc xs 1))
 have hcap:0≤at_ 0 capsT (sc xs 1)∧at_ 0 capsT (sc xs 1)<256:=of_decide_eq_true (List.all_eq_true.1 (show (capsT.all fun x=>decide (0≤x∧x<256))=true by decide) _ (at_mem (by decide) (sc xs 1)))
 have hx:=leaf_mem (sc xs 2) (sc xs 3) (sc xs 4)
 have hy:=leaf_mem (sc xs 5) (sc xs 6) (sc xs 7)
 have hm0:=Int.emod_nonneg (sc xs 15) (show (3:Int)≠0 by decide)
 obtain ⟨m,hm⟩:∃ m:Nat,1+sc xs 15 % 3=(m:Int):=⟨(1+sc xs 15 % 3).toNat,by omega⟩
 have hq:∀ q∈[pairL (sc xs 9) (sc xs 10),pairL (sc xs 11) (sc xs 12),pairL (sc xs 13) (sc xs 14)].take m,q∈pairAll:=fun q hq=>three (P:=fun q=>q∈pairAll) (pair_mem _ _) (pair_mem _ _) (pair_mem _ _) q (List.mem_of_mem_take hq)
 have h0:[pairL (sc xs 9) (sc xs 10),pairL (sc xs 11) (sc xs 12),pairL (sc xs 13) (sc xs 14)].take m≠[]:=by
  cases m with
  | zero=>omega
  | succ m=>intro e; cases e
 have hl:([pairL (sc xs 9) (sc xs 10),pairL (sc xs 11) (sc xs 12),pairL (sc xs 13) (sc xs 14)].take m).length≤3:=by rw [List.length_take]; exact Nat.min_le_right _ _
 have d1:=d_leaf1 (W:=3000) (d:=17) (sc xs 2) (sc xs 3) (sc xs 4)
 have d2:=d_leaf1 (W:=3000) (d:=17) (sc xs 5) (sc xs 6) (sc xs 7)
 generalize leafL (sc xs 2) (sc xs 3) (sc xs 4)=x at hx d1
 generalize leafL (sc xs 5) (sc xs 6) (sc xs 7)=y at hy d2
 have d3:=d_value1 (W:=3000) (d:=18) (sc xs 8) (sm_of hx) (sm_of hy)
 have hnm:[at_ 0 capsT (sc xs 1),69,84,67,72]=up [at_ 0 namesT (sc xs 1),101,84,99,104]:=by
  show [at_ 0 [65,90] (sc xs 1),69,84,67,72]=_
  rw [cap_ok]; rfl
 rw [den_code (T:=T) (f:=58) (vs:=vf_law) (k:=1) (body:=cf_law) rfl rfl]
 refine go (rf0 (bF (decide_eq_false (by rw [List.length_map]; omega))) ?_)
 refine rs (v:=.bytes [at_ 0 tagsT (sc xs 0),49]) (ev_addb (ev_mk1 (ev_at PV.int 0 tagsT (by decide) rfl (ev_bin (ev_idx rfl (sx h 0 rfl)) rfl rfl) rfl) hTc) rfl le2) ?_
 refine rs (v:=.bytes [at_ 0 namesT (sc xs 1),101,84,99,104]) (ev_addb (ev_mk1 (ev_at PV.int 0 namesT (by decide) rfl (ev_bin (ev_idx rfl (sx h 1 rfl)) rfl rfl) rfl) hNc) rfl le5) ?_
 refine rs (v:=.bytes (up [at_ 0 namesT (sc xs 1),101,84,99,104])) (Eq.trans (ev_addb (ev_mk1 (ev_at PV.int 0 capsT (by decide) rfl (ev_bin (ev_idx rfl (sx h 1 rfl)) rfl rfl) rfl) hcap) rfl le5) (congrArg (fun z=>Res.ok (PV.bytes z)) hnm)) ?_
 refine rs (Eq.trans (to_call3 (ev_idx rfl (sx h 2 rfl)) (ev_idx rfl (sx h 3 rfl)) (ev_idx rfl (sx h 4 rfl))) d1) (rs (Eq.trans (to_call3 (ev_idx rfl (sx h 5 rfl)) (ev_idx rfl (sx h 6 rfl)) (ev_idx rfl (sx h 7 rfl))) d2) (rs (Eq.trans (to_call3 (ev_idx rfl (sx h 8 rfl)) rfl rfl) d3) (rs (Eq.trans (to_call3 (ev_idx rfl (sx h 8 rfl)) rfl rfl) d3) ?_)))
 refine rs (v:=.list (([pairL (sc xs 9) (sc xs 10),pairL (sc xs 11) (sc xs 12),pairL (sc xs 13) (sc xs 14)].take m).map Pr.pvt)) (Eq.trans (ev_take (n:=m) (lst3 (Eq.trans (to_call2 (ev_idx rfl (sx h 9 rfl)) (ev_idx rfl (sx h 10 rfl))) (d_pair1 (d:=18) _ _)) (Eq.trans (to_call2 (ev_idx rfl (sx h 11 rfl)) (ev_idx rfl (sx h 12 rfl))) (d_pair1 (d:=18) _ _)) (Eq.trans (to_call2 (ev_idx rfl (sx h 13 rfl)) (ev_idx rfl (sx h 14 rfl))) (d_pair1 (d:=18) _ _))) (Eq.trans (ev_bin rfl (ev_bin (ev_idx rfl (sx h 15 rfl)) rfl rfl) rfl) (congrArg (fun z=>Res.ok (PV.int z)) hm))) (by rw [List.map_take]; rfl)) ?_
 exact law_A2 h hT hN hx hy hq h0 hl hT2 hTd hNd
theorem law_true (xs:List Int):den T G 3000 20 58 [.list (xs.map PV.int)]=.ok (.bool true):=by
 by_cases h:24≤xs.length
 ·exact law_long h
 ·rw [den_code (T:=T) (f:=58) (vs:=vf_law) (k:=1) (body:=cf_law) rfl rfl]
  exact go (ry (bT (decide_eq_true (by rw [List.length_map]; omega))) (rr rfl))
end L1
end Mine
open PySem PySem.W PyProof.Rows
set_option maxHeartbeats 8000000
namespace Mine.L1
theorem defs : defsOk (viewOf PySem.Challenge.pw_sx_r152_1o) fnames gnames T = true := by decide +kernel
theorem dec : decIs (viewOf PySem.Challenge.pw_sx_r152_1o) := by unfold decIs; kernel_rfl
theorem mem : memIs (viewOf PySem.Challenge.pw_sx_r152_1o) := by unfold memIs; kernel_rfl
theorem looks : (chainsOk (viewOf PySem.Challenge.pw_sx_r152_1o) && opensWell PySem.Challenge.rw_sx_r152_1o.row.prog && (frees PySem.Challenge.rw_sx_r152_1o.row.toRowW && PySem.Challenge.rw_sx_r152_1o.row.within.isEmpty)) = true := by kernel_rfl
end Mine.L1
theorem PySem.Challenge.cw_sx_r152_1o_holds : PySem.Challenge.rw_sx_r152_1o.Holds := by
  refine holds_law Mine.L1.said fun said => ?_
  refine holds_open (q := Mine.viewOf PySem.Challenge.pw_sx_r152_1o) (loose := []) (Xt := Mine.xtOf PySem.Challenge.pw_sx_r152_1o) (XP := XL (Mine.viewOf PySem.Challenge.pw_sx_r152_1o) []) (Yf := (Mine.L1.hookOf Mine.L1.adrs).obs) (Ya := (Mine.L1.hookOf Mine.L1.adrs).val) (YP := (Mine.L1.hookOf Mine.L1.adrs).says) (N := 4194) Mine.L1.left (Hook.of _) (Hook.keeps _) (fun s e => xl_of s (Bool.and_eq_true_iff.mp e).1) XL.keeps (by rfl) (by rfl) (by rfl) (fun s e => recFacts_of (Bool.and_eq_true_iff.mp e).2) rfl said Mine.L1.looks ⟨rfl, rfl, rfl, rfl, rfl, by decide +kernel⟩ ?hw ?hc
  case hw => w_witness2
  intro w s₀ s₁ mg mb G Y fa o pm cd doc dV kV ho hd hcd hD hmg hg args vals as hpre hlay hrd hwl hlo
  obtain ⟨K, KX, hk⟩ := Y
  have hmg' : mg (Str.ofString "law") = some (.ref fa) := hmg
  clear hd hcd hD hmg
  refine Ground.open G ?_
  intro T B D TE TW
  wrow_args hpre hlay hrd hwl hlo
  rename_i xs _ _ _ _ _ _ _ a vs _ hL _ _ _ hI _ hlen _
  refine Mine.L1.run_law (fun xs _ => Mine.L1.law_true xs) T KX hk Mine.L1.defs Mine.L1.dec Mine.L1.mem hmg' hL hI (by omega) (fun s' hst hos hgens => ?_)
  refine GoodW.toG ⟨Or.inl ⟨_, .bool true, [], rfl, fun cls => rfl, ?_, by kernel_rfl, fun _ => ⟨List.nodup_nil, fun a h => by cases h⟩⟩, hst, hos, hgens.trans hg⟩
  exact .bool ..
