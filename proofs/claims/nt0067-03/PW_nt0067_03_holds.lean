import PyProof.Rows.All
import Wide.All
import OpenK.AllK
import Wide.FinOn
import Lean
import PySem.Challenge.RW_nt0067_03
set_option Elab.async false
set_option maxRecDepth 1000000
set_option linter.all false
noncomputable section
open PySem PySem.W
set_option backward.match.sparseCases false
namespace Mine
inductive Ky where
 | i (n:Int)
 | s (x:Str)
 deriving DecidableEq
inductive V where
 | none
 | bool (b:Bool)
 | int (i:Int)
 | str (x:Str)
 | tup (l:List V)
 | lst (l:List V)
 | dic (ks:List Ky) (vs:List V)
 | ins (c:Addr) (ns:List Str) (vs:List V)
 | ref (n:Nat)
 | st (x:Value)
inductive MO where
 | list (l:List V)
 | dict (ks:List Ky) (vs:List V)
 | inst (c:Addr) (ns:List Str) (vs:List V)
structure S where
 sl:List (Option V)
 ob:List (Nat × MO)
 nx:Nat
inductive Fl where
 | next | brk | cont
 | ret (v:V)
noncomputable abbrev SS:=S
noncomputable abbrev M (α:Type):=S->Option (α × S)
noncomputable def lim:Nat:=1048576
noncomputable def bnd {α β:Type} (f:M α) (g:α->M β):M β:=fun s=>match f s with
 | some (a,s')=>g a s'
 | none=>none
noncomputable def ret' {α:Type} (a:α):M α:=fun s=>some (a,s)
noncomputable def lift {α:Type} (a:Option α):M α:=fun s=>match a with
 | some a=>some (a,s)
 | none=>none
noncomputable def olook (n:Nat):List (Nat × MO)->Option MO
 | []=>none
 | (k,o) :: r=>if k = n then some o else olook n r
noncomputable def odrop (n:Nat):List (Nat × MO)->List (Nat × MO)
 | []=>[]
 | (k,o) :: r=>if k = n then odrop n r else (k,o) :: odrop n r
noncomputable def oset (n:Nat) (x:MO):List (Nat × MO)->List (Nat × MO)
 | []=>[]
 | (k,o) :: r=>if k = n then (k,x) :: r else (k,o) :: oset n x r
mutual
noncomputable def nr:V->Bool
 | .tup l=>nrs l
 | .lst l=>nrs l
 | .dic _ vs=>nrs vs
 | .ins _ _ vs=>nrs vs
 | .ref _=>false
 | _=>true
noncomputable def nrs:List V->Bool
 | []=>true
 | v :: r=>nr v && nrs r
end
noncomputable def scal:V->Bool
 | .none=>true
 | .bool _=>true
 | .int _=>true
 | .str _=>true
 | _=>false
noncomputable def scals:List V->Bool
 | []=>true
 | v :: r=>scal v && scals r
noncomputable def alloc' (o:MO):M V:=fun s=>some (.ref s.nx,{ s with ob:=(s.nx,o) :: s.ob,nx:=s.nx + 1 })
noncomputable def mkL (m:Bool) (l:List V):M V:=fun s=>if l.length<=lim then (match m with
 | true=>alloc' (.list l) s
 | false=>some (.lst l,s)) else none
noncomputable def mkD (m:Bool) (ks:List Ky) (vs:List V):M V:=match m with
 | true=>alloc' (.dict ks vs)
 | false=>ret' (.dic ks vs)
noncomputable def moL:MO->Option (List V)
 | .list l=>some l
 | _=>none
noncomputable def lref (n:Nat) (ob:List (Nat × MO)):Option (List V):=(olook n ob).bind moL
noncomputable def items (v:V) (ob:List (Nat × MO)):Option (List V):=match v with
 | .lst l=>some l
 | .tup l=>some l
 | .ref n=>lref n ob
 | _=>none
noncomputable def listOf (v:V) (ob:List (Nat × MO)):Option (List V):=match v with
 | .lst l=>some l
 | .ref n=>lref n ob
 | _=>none
noncomputable def int1 {α:Type} (v:V) (f:Int->Option α):Option α:=match v with
 | .int i=>f i
 | _=>none
noncomputable def lst1 {α:Type} (v:V) (f:List V->Option α):Option α:=match v with
 | .lst l=>f l
 | _=>none
noncomputable def arg1 {α:Type} (l:List V) (f:V->Option α):Option α:=match l with
 | [x]=>f x
 | _=>none
noncomputable def keyOf:V->Option Ky
 | .int i=>some (.i i)
 | .str x=>some (.s x)
 | _=>none
noncomputable def dlook (k:Ky):List Ky->List V->Option V
 | a :: r,v :: t=>if a = k then some v else dlook k r t
 | _,_=>none
noncomputable def dput (k:Ky) (x:V):List Ky->List V->List Ky × List V
 | a :: r,v :: t=>if a = k then (a :: r,x :: t) else let p:=dput k x r t;(a :: p.1,v :: p.2)
 | _,_=>([k],[x])
noncomputable def alook (n:Str):List Str->List V->Option V
 | a :: r,v :: t=>if a = n then some v else alook n r t
 | _,_=>none
noncomputable def aput (n:Str) (x:V):List Str->List V->List Str × List V
 | a :: r,v :: t=>if a = n then (a :: r,x :: t) else let p:=aput n x r t;(a :: p.1,v :: p.2)
 | _,_=>([n],[x])
mutual
noncomputable def toPy:V->Option PyData
 | .none=>some .none
 | .bool b=>some (.bool b)
 | .int i=>some (.int i)
 | .str x=>some (.str x)
 | .tup l=>(toPys l).map .tuple
 | .lst l=>(toPys l).map .list
 | _=>none
noncomputable def toPys:List V->Option (List PyData)
 | []=>some []
 | v :: r=>(toPy v).bind fun d=>(toPys r).bind fun ds=>some (d :: ds)
end
noncomputable def veqD (a b:V):Option Bool:=(toPy a).bind fun d=>(toPy b).bind fun e=>if (SeqAt.shaped d && SeqAt.shaped e) = true then some (PyData.eqv d e) else none
noncomputable def flt1:V->Option PyData
 | .none=>some .none
 | .int i=>some (.int i)
 | .str x=>some (.str x)
 | _=>none
noncomputable def veqS (a b:V):Option Bool:=match a with
 | .none=>(match b with | .tup _=>some false | _=>none)
 | .tup x=>(match b with | .none=>some false | .tup y=>veqD (.tup x) (.tup y) | _=>none)
 | .lst _=>(match b with | .str _=>some false | _=>none)
 | .str _=>(match b with | .lst _=>some false | _=>none)
 | _=>none
noncomputable def veq1 (a b:V):Option Bool:=match flt1 a with
 | some d=>(match flt1 b with
  | some e=>some (PyData.eqv d e)
  | none=>veqS a b)
 | none=>veqS a b
noncomputable def veqL (a b:List V):Option Bool:=match a with
 | []=>some b.isEmpty
 | x :: r=>(match b with
  | []=>some false
  | y :: k=>veqD (.lst (x :: r)) (.lst (y :: k)))
noncomputable def veq (a b:V):Option Bool:=match a with
 | .lst x=>(match b with | .lst y=>veqL x y | b=>veq1 (.lst x) b)
 | .bool x=>(match b with | .bool y=>veqD (.bool x) (.bool y) | b=>veq1 (.bool x) b)
 | a=>veq1 a b
noncomputable def rd (v:V) (ob:List (Nat × MO)):Option V:=match v with
 | .ref n=>(lref n ob).map .lst
 | v=>some v
noncomputable def anyEq (x:V):List V->Option Bool
 | []=>some false
 | y :: r=>(veq1 y x).bind fun a=>(anyEq x r).bind fun b=>some (a || b)
noncomputable def isInMO (x:V):MO->Option Bool
 | .dict ks _=>(keyOf x).map fun k=>ks.contains k
 | .list l=>anyEq x l
 | .inst _ _ _=>none
noncomputable def isIn (x c:V) (ob:List (Nat × MO)):Option Bool:=match c with
 | .dic ks _=>isInMO x (.dict ks [])
 | .ref n=>(olook n ob).bind (isInMO x)
 | .tup l=>anyEq x l
 | .lst l=>anyEq x l
 | _=>none
noncomputable def isNone:V->Option Bool
 | .none=>some true
 | .str _=>some false
 | .int _=>some false
 | .tup _=>some false
 | .lst _=>some false
 | _=>none
noncomputable def eqOb (a b:V) (ob:List (Nat × MO)):Option Bool:=(rd a ob).bind fun x=>(rd b ob).bind fun y=>veq x y
noncomputable def cmpv (op:CmpOp) (a b:V) (ob:List (Nat × MO)):Option Bool:=match op with
 | .Eq=>eqOb a b ob
 | .NotEq=>(eqOb a b ob).map (!·)
 | .Lt=>int1 a fun x=>int1 b fun y=>some (decide (x < y))
 | .LtE=>int1 a fun x=>int1 b fun y=>some (decide (x<=y))
 | .Gt=>int1 a fun x=>int1 b fun y=>some (decide (y < x))
 | .GtE=>int1 a fun x=>int1 b fun y=>some (decide (y<=x))
 | .In=>isIn a b ob
 | .NotIn=>(isIn a b ob).map (!·)
 | .Is=>(match b with | .none=>isNone a | _=>none)
 | .IsNot=>(match b with | .none=>(isNone a).map (!·) | _=>none)
noncomputable def big:Int:=1152921504606846976
noncomputable def arith (op:Operator) (x y:Int):Option Int:=match op with
 | .Add=>some (x + y)
 | .Sub=>some (x - y)
 | .Mult=>if -big < x/\x < big/\-big < y/\y < big then some (x * y) else none
 | .FloorDiv=>if 0 < y/\y < 1000000000 then some (x / y) else none
 | .Mod=>if 0 < y then some (x % y) else none
 | _=>none
noncomputable def binL (m:Bool) (op:Operator) (a b:V):M V:=fun s=>match op with
 | .Add=>(listOf a s.ob).bind fun x=>(listOf b s.ob).bind fun y=>mkL m (x++y) s
 | _=>none
noncomputable def bin (m:Bool) (op:Operator) (a b:V):M V:=fun s=>match int1 a fun x=>int1 b fun y=>some (arith op x y) with
 | some z=>z.map fun z=>(.int z,s)
 | none=>binL m op a b s
noncomputable def place (i:Int) (n:Nat):Option Nat:=
 if 0<=i then (if i < n then some i.toNat else none) else if -(n:Int)<=i then some (i + n).toNat else none
noncomputable def sign (x:Str) (i:Nat):Option V:=(x.cps[i]?).map fun c=>.str ⟨#[c]⟩
noncomputable def subL (l:List V) (i:V):M V:=fun s=>int1 i fun k=>((place k l.length).bind fun j=>l[j]?).map (·,s)
noncomputable def subD (ks:List Ky) (vs:List V) (i:V):M V:=fun s=>((keyOf i).bind fun k=>dlook k ks vs).map (·,s)
noncomputable def subMO (i:V) (s:S):MO->Option (V × S)
 | .list l=>subL l i s
 | .dict ks vs=>subD ks vs i s
 | .inst _ _ _=>none
noncomputable def sub (a i:V):M V:=fun s=>match a with
 | .str x=>int1 i fun k=>if 0<=k/\k < big then (sign x k.toNat).map (·,s) else none
 | .dic ks vs=>subD ks vs i s
 | .tup l=>int1 i fun k=>if 0<=k then (l[k.toNat]?).map (·,s) else none
 | .lst l=>subL l i s
 | .ref n=>(olook n s.ob).bind (subMO i s)
 | _=>none
noncomputable def bound:Option V->Option (Option Nat)
 | none=>some none
 | some v=>int1 v fun k=>if 0<=k/\k < big then some (some k.toNat) else none
noncomputable def cut {α:Type} (l:List α) (lo hi:Option Nat):List α:=
 (match hi with | some h=>l.take h | none=>l).drop (lo.getD 0)
noncomputable def strCut (x:Str) (lo hi:Option Nat):Str:=
 let ix:=Builtin.Str.strSliceIndices (lo.map fun (k:Nat)=>(k:Int)) (hi.map fun (k:Nat)=>(k:Int)) 1 x.length
 if ix.length == x.length then x else ⟨(ix.filterMap (x.cps[·]?)).toArray⟩
noncomputable def slice (m:Bool) (a:V) (lo hi:Option V):M V:=fun s=>(bound lo).bind fun x=>(bound hi).bind fun y=>match a with
 | .str t=>if (strCut t x y).length<=lim then some (.str (strCut t x y),s) else none
 | a=>(listOf a s.ob).bind fun l=>mkL m (cut l x y) s
noncomputable def rev (m:Bool) (a:V):M V:=fun s=>(listOf a s.ob).bind fun l=>mkL m l.reverse s
noncomputable def setMO (n:Nat) (i x:V) (s:S):MO->Option (Unit × S)
 | .list l=>int1 i fun k=>if 0<=k/\k < l.length then some ((),{ s with ob:=oset n (.list (l.set k.toNat x)) s.ob }) else none
 | .dict ks vs=>(keyOf i).bind fun k=>if ks.length<=1000 then some ((),{ s with ob:=oset n (.dict (dput k x ks vs).1 (dput k x ks vs).2) s.ob }) else none
 | .inst _ _ _=>none
noncomputable def setItem (a i x:V):M Unit:=fun s=>match a with
 | .ref n=>(olook n s.ob).bind (setMO n i x s)
 | _=>none
noncomputable def isSt:V->Bool
 | .st _=>true
 | _=>false
noncomputable def noSt (o:Option V):Option V:=o.bind fun v=>if isSt v = true then none else some v
noncomputable def insMO:MO->Option (Addr × List Str × List V)
 | .inst c ns vs=>some (c,ns,vs)
 | _=>none
noncomputable def insOf (a:V) (ob:List (Nat × MO)):Option (Addr × List Str × List V):=match a with
 | .ins c ns vs=>some (c,ns,vs)
 | .ref k=>(olook k ob).bind insMO
 | _=>none
noncomputable def getAttr (a:V) (n:Str):M V:=fun s=>(insOf a s.ob).bind fun p=>(noSt (alook n p.2.1 p.2.2)).map (·,s)
noncomputable def setAttr (aok:Addr->Str->Bool) (a:V) (n:Str) (x:V):M Unit:=fun s=>match a with
 | .ref k=>((olook k s.ob).bind insMO).bind fun p=>if aok p.1 n = true/\p.2.1.length<=100 then some ((),{ s with ob:=oset k (.inst p.1 (aput n x p.2.1 p.2.2).1 (aput n x p.2.1 p.2.2).2) s.ob }) else none
 | _=>none
noncomputable abbrev OB:=List (Nat × MO)
noncomputable def thread (g:V->OB->Option (V × OB)):List V->OB->Option (List V × OB)
 | [],ob=>some ([],ob)
 | v :: r,ob=>(g v ob).bind fun p=>(thread g r p.2).map fun q=>(p.1 :: q.1,q.2)
noncomputable def fzMO (g:V->OB->Option (V × OB)) (ob:OB):MO->Option (V × OB)
 | .list l=>(thread g l ob).map fun p=>(.lst p.1,p.2)
 | .dict ks vs=>(thread g vs ob).map fun p=>(.dic ks p.1,p.2)
 | .inst c ns vs=>(thread g vs ob).map fun p=>(.ins c ns p.1,p.2)
noncomputable def fz:Nat->V->OB->Option (V × OB)
 | 0,_,_=>none
 | f + 1,v,ob=>match v with
  | .ref n=>(olook n ob).bind (fzMO (fz f) (odrop n ob))
  | .tup l=>(thread (fz f) l ob).map fun p=>(.tup p.1,p.2)
  | v=>if nr v = true then some (v,ob) else none
noncomputable def fzs (vs:List V) (ob:OB):Option (List V × OB):=thread (fz 8) vs ob
noncomputable def resl1 (n:Nat) (x:V) (o:Option V):Option V:=match o with
 | some (.ref k)=>if k = n then some x else some (.ref k)
 | o=>o
noncomputable def resl (n:Nat) (x:V) (sl:List (Option V)):List (Option V):=sl.map (resl1 n x)
noncomputable def thaw1 (v x:V) (sl:List (Option V)):List (Option V):=match v with
 | .ref n=>resl n x sl
 | _=>sl
noncomputable def thaws:List V->List V->List (Option V)->List (Option V)
 | v :: r,x :: t,sl=>thaws r t (thaw1 v x sl)
 | _,_,sl=>sl
noncomputable def freeze (vs:List V):M (List V):=fun s=>(fzs vs s.ob).map fun p=>(p.1,{ s with sl:=thaws vs p.1 s.sl,ob:=p.2 })
noncomputable def belV (nx:Nat):V->Bool
 | .ref n=>decide (n < nx)
 | v=>nr v
noncomputable def okMO (nx:Nat):MO->Bool
 | .list l=>l.all (belV nx)
 | .dict _ vs=>vs.all (belV nx)
 | .inst _ _ vs=>vs.all (belV nx)
noncomputable def lowOb (nx:Nat):OB->Option OB
 | []=>some []
 | p :: r=>if p.1 < nx then (if okMO nx p.2 = true then (lowOb nx r).map (p :: ·) else none) else lowOb nx r
noncomputable def tidy (nx:Nat) (p:V × (OB × Nat)):Option (V × (OB × Nat)):=(fz 8 p.1 p.2.1).bind fun q=>(lowOb nx q.2).map fun ob=>(q.1,(ob,nx))
noncomputable def lend (ob:List (Nat × MO)):List V->Option (List V)
 | []=>some []
 | v :: r=>(rd v ob).bind fun x=>(lend ob r).bind fun t=>if nr x = true then some (x :: t) else none
noncomputable abbrev Hp:=OB × Nat
noncomputable abbrev Raw:=Addr->List V->Hp->Option (V × Hp)
noncomputable def eK (v:V):M V:=ret' v
noncomputable def eG (v:Option V):M V:=lift v
noncomputable def eVar (i:Nat):M V:=fun s=>(s.sl[i]?).bind fun o=>o.map (·,s)
noncomputable def eSeq:List (M V)->M (List V)
 | []=>ret' []
 | f :: r=>bnd f fun v=>bnd (eSeq r) fun vs=>ret' (v :: vs)
noncomputable def eBin (m:Bool) (op:Operator) (f g:M V):M V:=bnd f fun a=>bnd g fun b=>bin m op a b
noncomputable def eNeg (f:M V):M V:=bnd f fun a=>fun s=>int1 a fun i=>some (.int (-i),s)
noncomputable def eIf (t:M Bool) (f g:M V):M V:=bnd t fun b=>match b with
 | true=>f
 | false=>g
noncomputable def toB (v:V):M Bool:=match v with
 | .bool b=>ret' b
 | _=>lift none
noncomputable def eBool (op:BoolOp):List (M V)->M V
 | []=>lift none
 | [f]=>f
 | f :: r=>bnd f fun v=>bnd (toB v) fun b=>match op,b with
  | .And,false=>ret' v
  | .Or,true=>ret' v
  | _,_=>eBool op r
noncomputable def eCmp (op:CmpOp) (f g:M V):M V:=bnd f fun a=>bnd g fun b=>fun s=>(cmpv op a b s.ob).map fun r=>(.bool r,s)
noncomputable def eList (m:Bool) (fs:List (M V)):M V:=bnd (eSeq fs) fun vs=>mkL m vs
noncomputable def eTup (fs:List (M V)):M V:=bnd (eSeq fs) fun vs=>if vs.length<=lim then ret' (.tup vs) else lift none
noncomputable def dFill:List V->List V->List Ky->List V->Option (List Ky × List V)
 | [],[],ks,vs=>some (ks,vs)
 | k :: r,v :: t,ks,vs=>(keyOf k).bind fun k=>dFill r t (dput k v ks vs).1 (dput k v ks vs).2
 | _,_,_,_=>none
noncomputable def ePairs:List (M V)->List (M V)->M (List V × List V)
 | [],[]=>ret' ([],[])
 | f :: r,g :: t=>bnd f fun k=>bnd g fun v=>bnd (ePairs r t) fun p=>ret' (k :: p.1,v :: p.2)
 | _,_=>lift none
noncomputable def eDict (m:Bool) (fs gs:List (M V)):M V:=bnd (ePairs fs gs) fun p=>fun s=>(dFill p.1 p.2 [] []).bind fun q=>mkD m q.1 q.2 s
noncomputable def eAttr (n:Str) (f:M V):M V:=bnd f fun a=>getAttr a n
noncomputable def eSub (f g:M V):M V:=bnd f fun a=>bnd g fun i=>sub a i
noncomputable def eOpt:Option (M V)->M (Option V)
 | none=>ret' none
 | some f=>bnd f fun v=>ret' (some v)
noncomputable def eSlice (m:Bool) (f:M V) (lo hi:Option (M V)):M V:=bnd f fun a=>bnd (eOpt lo) fun x=>bnd (eOpt hi) fun y=>slice m a x y
noncomputable def eRev (m:Bool) (f:M V):M V:=bnd f fun a=>rev m a
noncomputable def eLen (f:M V):M V:=bnd f fun a=>fun s=>(items a s.ob).map fun l=>(.int l.length,s)
noncomputable def eListOf (m:Bool) (f:M V):M V:=bnd f fun a=>fun s=>(listOf a s.ob).bind fun l=>mkL m l s
noncomputable def toI:V->Option Int
 | .int i=>some i
 | .bool b=>some (if b then 1 else 0)
 | _=>none
noncomputable def eInt (f:M V):M V:=bnd f fun a=>fun s=>(toI a).map fun i=>(.int i,s)
noncomputable def eMax (f g:M V):M V:=bnd f fun a=>bnd g fun b=>fun s=>int1 a fun x=>int1 b fun y=>some (.int (if x < y then y else x),s)
noncomputable def isInst (t:String) (a:V) (ob:OB):Option Bool:=match a with
 | .bool _=>some (t == "bool")
 | .none=>some false
 | .int _=>some false
 | .str _=>some false
 | .tup _=>some false
 | .lst _=>some (t == "list")
 | .ref n=>(lref n ob).map fun _=>t == "list"
 | _=>none
noncomputable def typeOf:V->Option String
 | .st (.type t)=>some t
 | _=>none
noncomputable def eIs (f g:M V):M V:=bnd f fun a=>bnd g fun b=>fun s=>(typeOf b).bind fun t=>if t = "bool" ∨ t = "list" then (isInst t a s.ob).map fun b=>(.bool b,s) else none
noncomputable abbrev plt (x y:Int × Int):Prop:=x.1 < y.1 ∨ x.1 = y.1/\x.2 < y.2
noncomputable def prOf (v:V):Option (Int × Int):=match v with
 | .tup l=>(match l with
  | [x,y]=>int1 x fun a=>int1 y fun b=>some (a,b)
  | _=>none)
 | _=>none
noncomputable def prsOf:List V->Option (List (Int × Int))
 | []=>some []
 | v :: r=>(prOf v).bind fun p=>(prsOf r).map (p :: ·)
noncomputable def prV (p:Int × Int):V:=.tup [.int p.1,.int p.2]
noncomputable def psort (l:List (Int × Int)):List (Int × Int):=l.mergeSort fun a b=>!decide (plt b a)
noncomputable def sortL (m:Bool) (l:List V):M V:=fun s=>(prsOf l).bind fun ps=>if ps.Nodup/\ps.length < 64 then mkL m ((psort ps).map prV) s else none
noncomputable def eSorted (m:Bool) (f:M V):M V:=bnd f fun a=>fun s=>(listOf a s.ob).bind fun l=>sortL m l s
noncomputable def pureCall (rc:Raw) (a:Addr) (args:List V):Option V:=(rc a args ([],0)).bind fun p=>(fz 8 p.1 p.2.1).map (·.1)
noncomputable def eCallP (rc:Raw) (a:Addr) (fs:List (M V)):M V:=bnd (eSeq fs) fun vs=>bnd (freeze vs) fun xs=>lift (pureCall rc a xs)
noncomputable def eCallL (rc:Raw) (a:Addr) (fs:List (M V)):M V:=bnd (eSeq fs) fun vs=>fun s=>(lend s.ob vs).bind fun xs=>(pureCall rc a xs).bind fun r=>if scal r = true then some (r,s) else none
noncomputable def impCall (rc:Raw) (a:Addr) (vs:List V):M V:=fun s=>(rc a vs (s.ob,s.nx)).map fun p=>(p.1,{ s with ob:=p.2.1,nx:=p.2.2 })
noncomputable def eCallI (rc:Raw) (a:Addr) (fs:List (M V)):M V:=bnd (eSeq fs) fun vs=>impCall rc a vs
noncomputable def isNo:V->Bool
 | .none=>true
 | _=>false
noncomputable def newCall (rc:Raw) (c a:Addr) (args:List V):Option V:=(rc a (.ref 0 :: args) ([(0,.inst c [] [])],1)).bind fun p=>if isNo p.1 = true then (fz 8 (.ref 0) p.2.1).map (·.1) else none
noncomputable def eNewP (rc:Raw) (c a:Addr) (fs:List (M V)):M V:=bnd (eSeq fs) fun vs=>bnd (freeze vs) fun xs=>lift (newCall rc c a xs)
noncomputable def eNewI (rc:Raw) (c a:Addr) (fs:List (M V)):M V:=bnd (eSeq fs) fun vs=>bnd (alloc' (.inst c [] [])) fun x=>bnd (impCall rc a (x :: vs)) fun r=>if isNo r = true then ret' x else lift none
inductive MK where
 | append | extend | pop | index | get
 | other (n:Str)
noncomputable def MK.name:MK->Str
 | .append=>"append"
 | .extend=>"extend"
 | .pop=>"pop"
 | .index=>"index"
 | .get=>"get"
 | .other n=>n
noncomputable def indexOf (x:V):List V->Nat->Option Nat
 | [],_=>none
 | y :: r,k=>(veq1 y x).bind fun b=>match b with
  | true=>some k
  | false=>indexOf x r (k + 1)
noncomputable def listMeth (k:MK) (n:Nat) (l:List V) (args:List V):M V:=fun s=>match k with
 | .append=>arg1 args fun x=>if l.length < lim then some (.none,{ s with ob:=oset n (.list (l++[x])) s.ob }) else none
 | .extend=>arg1 args fun x=>lst1 x fun r=>if l.length + r.length<=lim then some (.none,{ s with ob:=oset n (.list (l++r)) s.ob }) else none
 | .pop=>if args.isEmpty = true then l.getLast?.map fun v=>(v,{ s with ob:=oset n (.list l.dropLast) s.ob }) else none
 | _=>none
noncomputable def dictGet (ks:List Ky) (vs:List V) (args:List V):Option V:=match args with
 | [k]=>(keyOf k).map fun k=>(dlook k ks vs).getD .none
 | [k,d]=>(keyOf k).map fun k=>(dlook k ks vs).getD d
 | _=>none
noncomputable def dictMeth (k:MK) (ks:List Ky) (vs:List V) (args:List V):M V:=fun s=>match k with
 | .get=>(dictGet ks vs args).map (·,s)
 | _=>none
noncomputable def lstMeth (k:MK) (l:List V) (args:List V):M V:=fun s=>match k with
 | .index=>arg1 args fun x=>if anyEq x l = some true then (indexOf x l 0).map fun (j:Nat)=>(.int (j:Int),s) else none
 | _=>none
noncomputable def insMeth (mt:Addr->Str->Option Addr) (k:MK) (c:Addr) (ns:List Str) (g:Addr->Option (V × S)):Option (V × S):=(mt c k.name).bind fun f=>if ns.contains k.name = true then none else g f
noncomputable def methMO (rc:Raw) (mt:Addr->Str->Option Addr) (k:MK) (n:Nat) (args:List V) (s:S):MO->Option (V × S)
 | .list l=>listMeth k n l args s
 | .dict ks vs=>dictMeth k ks vs args s
 | .inst c ns _=>insMeth mt k c ns fun f=>impCall rc f (.ref n :: args) s
noncomputable def methCall (rc:Raw) (mt:Addr->Str->Option Addr) (k:MK) (v:V) (args:List V):M V:=fun s=>match v with
 | .ref n=>(olook n s.ob).bind (methMO rc mt k n args s)
 | .lst l=>lstMeth k l args s
 | .dic ks vs=>dictMeth k ks vs args s
 | .ins c ns vs=>insMeth mt k c ns fun f=>if nrs vs = true then (bnd (freeze args) fun xs=>lift (pureCall rc f (v :: xs))) s else none
 | _=>none
inductive Sh where
 | list | dict
 | inst (c:Addr)
 deriving DecidableEq
noncomputable def shIns (nm:Str) (c:Addr) (ns:List Str):Option Sh:=if ns.contains nm = true then none else some (.inst c)
noncomputable def shMO (nm:Str):MO->Option Sh
 | .list _=>some .list
 | .dict _ _=>some .dict
 | .inst c ns _=>shIns nm c ns
noncomputable def shapeOf (nm:Str) (v:V) (ob:OB):Option Sh:=match v with
 | .ref n=>(olook n ob).bind (shMO nm)
 | .lst _=>some .list
 | .dic _ _=>some .dict
 | .ins c ns _=>shIns nm c ns
 | _=>none
noncomputable def methGo (rc:Raw) (mt:Addr->Str->Option Addr) (k:MK) (v:V) (sh:Sh) (args:List V):M V:=fun s=>if shapeOf k.name v s.ob = some sh then methCall rc mt k v args s else none
noncomputable def eMeth (rc:Raw) (mt:Addr->Str->Option Addr) (k:MK) (f:M V) (fs:List (M V)):M V:=bnd f fun v=>fun s=>(shapeOf k.name v s.ob).bind fun sh=>(bnd (eSeq fs) fun args=>methGo rc mt k v sh args) s
noncomputable def one1 (xs:List V):M V:=match xs with
 | [x]=>ret' x
 | _=>lift none
noncomputable def eFrz (f:M V):M V:=bnd f fun v=>bnd (freeze [v]) one1
noncomputable def tNot (t:M Bool):M Bool:=bnd t fun b=>ret' (!b)
noncomputable def tIf (t u v:M Bool):M Bool:=bnd t fun b=>match b with
 | true=>u
 | false=>v
noncomputable def tVal (f:M V):M Bool:=bnd f toB
noncomputable def tAll (op:BoolOp):List (M Bool)->M Bool
 | []=>ret' (match op with | .And=>true | .Or=>false)
 | t :: r=>bnd t fun b=>match op,b with
  | .And,false=>ret' false
  | .Or,true=>ret' true
  | _,_=>tAll op r
noncomputable def tCmp (op:CmpOp) (f g:M V):M Bool:=bnd f fun a=>bnd g fun b=>fun s=>(cmpv op a b s.ob).map fun r=>(r,s)
noncomputable def tCmp2 (o1 o2:CmpOp) (f g h:M V):M Bool:=bnd f fun a=>bnd g fun b=>fun s=>match cmpv o1 a b s.ob with
 | some true=>(bnd h fun c=>fun s=>(cmpv o2 b c s.ob).map fun r=>(r,s)) s
 | some false=>some (false,s)
 | none=>none
noncomputable abbrev Sq:=List V × Option Nat × Bool
noncomputable abbrev Src:=M Sq
noncomputable def seqOf (v:V) (ob:OB):Option (List V × Option Nat):=match v with
 | .lst l=>some (l,none)
 | .tup l=>some (l,none)
 | .ref n=>(lref n ob).map (·,some n)
 | _=>none
noncomputable def srcSeq (f:M V):Src:=bnd f fun v=>fun s=>(seqOf v s.ob).map fun p=>((p.1,p.2,false),s)
noncomputable def rangeV (a b:Int):List V:=(List.range (b - a).toNat).map fun k=>.int (a + (k:Nat))
noncomputable def small (x:Int):Bool:=decide (-big < x) && decide (x < big)
noncomputable def srcRng (f g:M V):Src:=bnd f fun a=>bnd g fun b=>fun s=>int1 a fun x=>int1 b fun y=>if (small x && small y) = true then some ((rangeV x y,none,false),s) else none
noncomputable def srcRng1 (g:M V):Src:=bnd g fun b=>fun s=>int1 b fun y=>if small y = true then some ((rangeV 0 y,none,false),s) else none
noncomputable def enum (k:Nat):List V->List V
 | []=>[]
 | v :: r=>.tup [.int k,v] :: enum (k + 1) r
noncomputable def lstOf (v:V) (ob:OB):Option (List V × Option Nat):=match v with
 | .lst l=>some (l,none)
 | .ref n=>(lref n ob).map (·,some n)
 | _=>none
noncomputable def srcEnu (f:M V):Src:=bnd f fun v=>fun s=>(lstOf v s.ob).map fun p=>((enum 0 p.1,p.2,true),s)
noncomputable def zips:List V->List V->List V
 | a :: r,b :: t=>.tup [a,b] :: zips r t
 | _,_=>[]
noncomputable def srcZip (f g:M V):Src:=bnd f fun a=>bnd g fun b=>fun s=>lst1 a fun x=>lst1 b fun y=>some ((zips x y,none,true),s)
inductive Tg where
 | one (i:Nat)
 | many (is:List Nat)
noncomputable def dropOld (i:Nat) (v:V) (s:S):OB:=match s.sl[i]? with
 | some (some (.ref n))=>(match v with
  | .ref k=>if k = n then s.ob else odrop n s.ob
  | _=>odrop n s.ob)
 | _=>s.ob
noncomputable def put1 (i:Nat) (v:V):M Unit:=fun s=>if i < s.sl.length then some ((),{ s with sl:=s.sl.set i (some v),ob:=dropOld i v s }) else none
noncomputable def puts:List Nat->List V->M Unit
 | [],[]=>ret' ()
 | i :: r,v :: t=>bnd (put1 i v) fun _=>puts r t
 | _,_=>lift none
noncomputable def tup1 {α:Type} (v:V) (f:List V->M α):M α:=match v with
 | .tup l=>f l
 | _=>lift none
noncomputable def putT (t:Tg) (v:V):M Unit:=match t with
 | .one i=>put1 i v
 | .many is=>tup1 v (puts is)
noncomputable def Tg.fits (t:Tg) (pairs:Bool):Bool:=match t,pairs with
 | .one _,true=>false
 | _,_=>true
noncomputable def inner (cp:List (Option Nat)) (sl:List (Option V)):List (Option V):=cp.map fun o=>o.bind fun i=>sl[i]?.bind fun q=>q.bind fun v=>if nr v = true then some v else none
noncomputable def tests:List (M Bool)->M Bool
 | []=>ret' true
 | t :: r=>bnd t fun b=>match b with
  | true=>tests r
  | false=>ret' false
noncomputable def compGo (t:Tg) (cs:List (M Bool)) (f:M V):List V->M (List V)
 | []=>ret' []
 | v :: r=>bnd (putT t v) fun _=>bnd (tests cs) fun b=>match b with
  | true=>bnd f fun x=>bnd (compGo t cs f r) fun xs=>ret' (x :: xs)
  | false=>compGo t cs f r
noncomputable def compOk (n:Option Nat) (xs:List V):Bool:=match n with
 | none=>nrs xs
 | some _=>scals xs
noncomputable def compRun (cp:List (Option Nat)) (t:Tg) (p:Sq) (cs:List (M Bool)) (f:M V) (sl:List (Option V)):Option (List V):=
 if (nrs p.1 && t.fits p.2.2) = true then (compGo t cs f p.1 ⟨inner cp sl,[],0⟩).bind fun q=>if compOk p.2.1 q.1 = true then some q.1 else none else none
noncomputable def eComp (m:Bool) (cp:List (Option Nat)) (t:Tg) (src:Src) (cs:List (M Bool)) (f:M V):M V:=bnd src fun p=>fun s=>(compRun cp t p cs f s.sl).bind fun xs=>mkL m xs s
noncomputable abbrev T:=M Fl
noncomputable def sNext:T:=ret' .next
noncomputable def sBrk:T:=ret' .brk
noncomputable def sCont:T:=ret' .cont
noncomputable def sSeq (a b:T):T:=bnd a fun r=>match r with
 | .next=>b
 | r=>ret' r
noncomputable def sExp (f:M V):T:=bnd f fun _=>ret' .next
noncomputable def sRet (f:M V):T:=bnd f fun v=>ret' (.ret v)
noncomputable def sAsg (t:Tg) (f:M V):T:=bnd f fun v=>bnd (putT t v) fun _=>ret' .next
noncomputable def sAttr (aok:Addr->Str->Bool) (f:M V) (n:Str) (g:M V):T:=bnd g fun x=>bnd f fun a=>bnd (setAttr aok a n x) fun _=>ret' .next
noncomputable def sSet (f h:M V) (g:M V):T:=bnd g fun x=>bnd f fun a=>bnd h fun i=>bnd (setItem a i x) fun _=>ret' .next
noncomputable def sIf (t:M Bool) (a b:T):T:=bnd t fun c=>match c with
 | true=>a
 | false=>b
noncomputable def wh (t:M Bool) (b:T):Nat->T
 | 0=>lift none
 | k + 1=>bnd t fun c=>match c with
  | true=>bnd b fun r=>(match r with
   | .next=>wh t b k
   | .cont=>wh t b k
   | .brk=>ret' .next
   | .ret v=>ret' (.ret v))
  | false=>ret' .next
noncomputable def turns:Nat:=100000
noncomputable def sWhile (t:M Bool) (b:T):T:=wh t b turns
noncomputable def forL (t:Tg) (b:T):List V->T
 | []=>ret' .next
 | v :: r=>bnd (putT t v) fun _=>bnd b fun x=>match x with
  | .next=>forL t b r
  | .cont=>forL t b r
  | .brk=>ret' .next
  | .ret v=>ret' (.ret v)
noncomputable def thawSrc (p:Sq):M (List V):=match p.2.1 with
 | none=>ret' p.1
 | some n=>fun s=>(lref n s.ob).map fun l=>(p.1,{ s with sl:=resl n (.lst l) s.sl,ob:=odrop n s.ob })
noncomputable def sFor (t:Tg) (src:Src) (b:T):T:=bnd src fun p=>if t.fits p.2.2 then bnd (thawSrc p) fun l=>forL t b l else lift none
noncomputable def sAsgR (is:List Nat) (f:M V):T:=bnd f fun v=>tup1 v fun l=>bnd (puts is.reverse l.reverse) fun _=>ret' .next
inductive FK where
 | pure | lent | imp
structure Cx where
 glob:Str->Option V
 meth:Addr->Str->Option Addr
 init:Addr->Option Addr
 aok:Addr->Str->Bool
 kind:Addr->FK
 mutA:List Str
 names:List (Str × NameKind)
 mu:List Str
 rm:Bool
 rc:Raw
noncomputable def isVar:NameKind->Bool
 | .local=>true
 | .cell=>true
 | .free=>true
 | _=>false
noncomputable def slotIx (x:Str):List (Str × NameKind)->Nat->Option Nat
 | [],_=>none
 | (y,k) :: r,n=>if x = y then (if isVar k then some n else none) else slotIx x r (n + 1)
noncomputable def slotT (x:Str):List (Str × NameKind)->Nat->Option Nat
 | [],_=>none
 | (y,k) :: r,n=>if x = y then (if k = .local ∨ k = .cell then some n else none) else slotT x r (n + 1)
noncomputable def kindIx (x:Str):List (Str × NameKind)->Option NameKind
 | []=>none
 | (y,k) :: r=>if x = y then some k else kindIx x r
noncomputable def glb:Option NameKind->Bool
 | some .globalImplicit=>true
 | _=>false
noncomputable def eName (cx:Cx) (x:Str):M V:=if x = "__debug__" then lift none else match slotIx x cx.names 0 with
 | some i=>eVar i
 | none=>if glb (kindIx x cx.names) = true then eG (cx.glob x) else lift none
noncomputable def constV:Const->Option V
 | .none=>some .none
 | .bool b=>some (.bool b)
 | .int i=>some (.int i)
 | .str x=>some (.str x)
 | _=>none
noncomputable def mkOf (n:Str):MK:=
 if n = "append" then .append else if n = "extend" then .extend else if n = "pop" then .pop else if n = "index" then .index else if n = "get" then .get else .other n
noncomputable def callB (m:Bool) (id:String) (fs:List (M V)):M V:=match fs with
 | [f]=>if id = "len" then eLen f else if id = "sorted" then eSorted m f else lift none
 | [f,g]=>if id = "max" then eMax f g else if id = "isinstance" then eIs f g else lift none
 | _=>lift none
noncomputable def callT (m:Bool) (t:String) (fs:List (M V)):M V:=match fs with
 | [f]=>if t = "list" then eListOf m f else if t = "int" then eInt f else lift none
 | _=>lift none
noncomputable def callR (cx:Cx) (a:Addr) (fs:List (M V)):M V:=match cx.init a with
 | some i=>(match cx.kind a with
  | .pure=>eNewP cx.rc a i fs
  | _=>eNewI cx.rc a i fs)
 | none=>(match cx.kind a with
  | .pure=>eCallP cx.rc a fs
  | .lent=>eCallL cx.rc a fs
  | .imp=>eCallI cx.rc a fs)
noncomputable def callS (cx:Cx) (m:Bool) (x:Value) (fs:List (M V)):M V:=match x with
 | .builtin id=>callB m id fs
 | .type t=>callT m t fs
 | .ref a=>callR cx a fs
 | _=>lift none
noncomputable def callOf (cx:Cx) (m:Bool) (v:Option V) (fs:List (M V)):M V:=match v with
 | some (.st x)=>callS cx m x fs
 | _=>lift none
noncomputable def tgts (names:List (Str × NameKind)):List Expr->Option (List Nat)
 | []=>some []
 | .Name x _ :: r=>(slotT x names 0).bind fun i=>(tgts names r).map (i :: ·)
 | _=>none
noncomputable def tgtOf (names:List (Str × NameKind)):Expr->Option Tg
 | .Name x _=>(slotT x names 0).map .one
 | .Tuple es _ _=>(tgts names es).map .many
 | _=>none
noncomputable def mutT (mu:List Str):Expr->Bool
 | .Name x _=>mu.contains x
 | _=>false
noncomputable def isFree:NameKind->Bool
 | .free=>true
 | _=>false
noncomputable def cpOf (outer:List (Str × NameKind)) (names:List (Str × NameKind)):List (Option Nat):=names.map fun p=>if isFree p.2 = true then slotIx p.1 outer 0 else none
noncomputable def nameOn (q:Str->Bool) (line:Nat):Expr->Option Str
 | .Name id pos=>if q id && pos.line == line then some id else none
 | _=>none
noncomputable def swapXs (names:List (Str × NameKind)) (es:List Expr):List Str:=es.filterMap (nameOn (fun id=>kindIx id names == some .local) ((es.head?.map (·.pos.line)).getD 0))
noncomputable def swapOk (es vs:List Expr) (xs:List Str):Option (List Str):=
 if (!(es.length == 2 || es.length == 3)) = true then none else if (vs.length != es.length) = true then none else if (xs.length != es.length) = true then none else
 if (xs.eraseDups.length != xs.length) = true then none else if vs.all (foldedForSure 8) = true then none else if vs.all (constantsAlone 8) = true then none else some xs
noncomputable def two3 (es:List Expr):Bool:=es.length == 2 || es.length == 3
noncomputable def swapAt (names:List (Str × NameKind)) (es:List Expr) (vs:List Expr):Option (List Str):=swapOk es vs (swapXs names es)
noncomputable def slotsOf (names:List (Str × NameKind)):List Str->Option (List Nat)
 | []=>some []
 | x :: r=>(slotT x names 0).bind fun i=>(slotsOf names r).map (i :: ·)
noncomputable def inCell:Option NameKind->Bool
 | some .cell=>true
 | some .free=>true
 | _=>false
noncomputable def capK (outer:List (Str × NameKind)) (x:Str):NameKind->Bool
 | .free=>inCell (kindIx x outer) && x != "__classdict__"
 | .local=>true
 | .globalImplicit=>true
 | _=>false
noncomputable def capOk (outer:List (Str × NameKind)) (names:List (Str × NameKind)):Bool:=names.all fun p=>capK outer p.1 p.2
noncomputable def isComp:Expr->Bool
 | .ListComp _ _ _ _=>true
 | .SetComp _ _ _ _=>true
 | .DictComp _ _ _ _ _=>true
 | _=>false
noncomputable def isSet:Expr->Bool
 | .Set _ _ _=>true
 | _=>false
noncomputable def globV (cx:Cx):Expr->Option V
 | .Name x _=>if x = "__debug__" then none else if glb (kindIx x cx.names) = true then cx.glob x else none
 | _=>none
noncomputable def kindOfSrc (cx:Cx):Expr->Option String
 | .Call (.Name f p) _ [] _=>(globV cx (.Name f p)).bind typeOf
 | _=>none
noncomputable def isNeg:UnaryOp->Bool
 | .USub=>true
 | _=>false
noncomputable def isOne:Const->Bool
 | .int i=>decide (i = 1)
 | _=>false
noncomputable def oneE:Expr->Bool
 | .Constant c _ _=>isOne c
 | _=>false
noncomputable def negOne:Expr->Bool
 | .UnaryOp op x _=>isNeg op && oneE x
 | _=>false
noncomputable def emptyList:List Expr->Bool
 | [.List [] _]=>true
 | _=>false
noncomputable def muName (mu:List Str):List Expr->Bool
 | [.Name x _]=>mu.contains x
 | _=>false
noncomputable def argsOf (n:Str) (mu:List Str) (as:List Expr) (fs:List (M V)):List (M V):=
 if n = "append" then (if emptyList as = true then [mkL true []] else if muName mu as = true then fs.map eFrz else fs) else fs
noncomputable def isStar:Expr->Bool
 | .Starred _ _=>true
 | _=>false
noncomputable def plain {α:Type} (es:List Expr) (f:M α):M α:=if es.any isStar = true then lift none else f
noncomputable def optM {α β:Type} (o:Option α) (f:α->M β):M β:=match o with
 | some a=>f a
 | none=>lift none
noncomputable def dictC (ks:List (Option Expr)) (vs:List Expr):Bool:=ks.all (·.isSome) && ks.length == vs.length && decide (ks.length<=15)
noncomputable def compC (names:List (Str × NameKind)) (scope:Scope) (i:Expr) (a:Int):Bool:=decide (a = 0) && capOk names scope.names && decide (scope.names.map (·.1)).Nodup && (scope.kind == .function) && !isSet i
noncomputable def isSuper:Expr->Bool
 | .Call (.Name id _) [] [] _=>id == "super"
 | _=>false
noncomputable def callC (ap p:Pos) (o:Expr) (as:List Expr):Bool:=ap.endLine == p.line && !isSuper o && decide (as.length < 20)
mutual
noncomputable def ev:Expr->Cx->Bool->M V
 | .Constant c _ _,_,_=>lift (constV c)
 | .Name x _,cx,_=>eName cx x
 | .BoolOp op vs _,cx,_=>eBool op (evs vs cx)
 | .BinOp l op r _,cx,m=>eBin m op (ev l cx false) (ev r cx false)
 | .UnaryOp .USub x _,cx,_=>eNeg (ev x cx false)
 | .IfExp t b o _,cx,m=>eIf (tr t cx (ev t cx false)) (ev b cx m) (ev o cx m)
 | .Dict ks vs _,cx,m=>if dictC ks vs = true then eDict m (evks ks cx) (evs vs cx) else lift none
 | .List es _,cx,m=>plain es (eList m (evs es cx))
 | .Tuple es _ _,cx,_=>plain es (eTup (evs es cx))
 | .ListComp elt [⟨t,i,ifs,a⟩] scope _,cx,m=>if compC cx.names scope i a = true then
   optM (tgtOf scope.names t) fun tg=>eComp m (cpOf cx.names scope.names) tg (src i cx (ev i cx false)) (trs ifs { cx with names:=scope.names }) (ev elt { cx with names:=scope.names } false)
  else lift none
 | .Compare l [op] [c] _,cx,_=>eCmp op (ev l cx false) (ev c cx false)
 | .Call (.Attribute o n ap) as [] p,cx,_=>if callC ap p o as = true then plain as (eMeth cx.rc cx.meth (mkOf n) (ev o cx false) (argsOf n cx.mu as (evs as cx))) else lift none
 | .Call (.Name x p) as [] _,cx,m=>plain as (callOf cx m (globV cx (.Name x p)) (evs as cx))
 | .Attribute o n _,cx,_=>if isSuper o = true then lift none else eAttr n (ev o cx false)
 | .Subscript o (.Slice lo hi none _) _,cx,m=>eSlice m (ev o cx false) (evo lo cx) (evo hi cx)
 | .Subscript o (.Slice none none (some e) _) _,cx,m=>if negOne e = true then eRev m (ev o cx false) else lift none
 | .Subscript o i _,cx,_=>eSub (ev o cx false) (ev i cx false)
 | _,_,_=>lift none
noncomputable def evs:List Expr->Cx->List (M V)
 | [],_=>[]
 | e :: r,cx=>ev e cx false :: evs r cx
noncomputable def evks:List (Option Expr)->Cx->List (M V)
 | [],_=>[]
 | some e :: r,cx=>ev e cx false :: evks r cx
 | none :: r,cx=>lift none :: evks r cx
noncomputable def evo:Option Expr->Cx->Option (M V)
 | none,_=>none
 | some e,cx=>some (ev e cx false)
noncomputable def tr:Expr->Cx->M V->M Bool
 | .UnaryOp .Not x _,cx,_=>tNot (tr x cx (ev x cx false))
 | .BoolOp op vs _,cx,_=>tAll op (trs vs cx)
 | .IfExp t b o _,cx,_=>tIf (tr t cx (ev t cx false)) (tr b cx (ev b cx false)) (tr o cx (ev o cx false))
 | .Compare l [op] [c] _,cx,_=>tCmp op (ev l cx false) (ev c cx false)
 | .Compare l [o1,o2] [c,d] _,cx,_=>if isSet d = true then lift none else tCmp2 o1 o2 (ev l cx false) (ev c cx false) (ev d cx false)
 | .Compare _ _ _ _,_,_=>lift none
 | _,_,w=>tVal w
noncomputable def trs:List Expr->Cx->List (M Bool)
 | [],_=>[]
 | e :: r,cx=>tr e cx (ev e cx false) :: trs r cx
noncomputable def src:Expr->Cx->M V->Src
 | .Call (.Name f q) [a] [] p,cx,w=>if kindOfSrc cx (.Call (.Name f q) [a] [] p) = some "range" then srcRng1 (ev a cx false) else if kindOfSrc cx (.Call (.Name f q) [a] [] p) = some "enumerate" then srcEnu (ev a cx false) else srcSeq w
 | .Call (.Name f q) [a,b] [] p,cx,w=>if kindOfSrc cx (.Call (.Name f q) [a,b] [] p) = some "range" then srcRng (ev a cx false) (ev b cx false) else if kindOfSrc cx (.Call (.Name f q) [a,b] [] p) = some "zip" then srcZip (ev a cx false) (ev b cx false) else srcSeq w
 | _,_,w=>srcSeq w
end
noncomputable def evm:List Expr->List Bool->Cx->List (M V)
 | e :: r,m :: t,cx=>ev e cx m :: evm r t cx
 | _,_,_=>[]
mutual
noncomputable def ex:Stmt->Cx->T
 | .Expr e _,cx=>if isComp e = true then lift none else sExp (ev e cx false)
 | .Pass _,_=>sNext
 | .Break _,_=>sBrk
 | .Continue _,_=>sCont
 | .Return (some e) _,cx=>sRet (ev e cx cx.rm)
 | .Return none _,_=>sRet (eK .none)
 | .Assign [.Attribute o n _] v _,cx=>sAttr cx.aok (ev o cx false) n (ev v cx (cx.mutA.contains n))
 | .Assign [.Subscript o i _] v _,cx=>sSet (ev o cx false) (ev i cx false) (ev v cx false)
 | .Assign [.Name x p] v _,cx=>optM (tgtOf cx.names (.Name x p)) fun tg=>sAsg tg (ev v cx (cx.mu.contains x))
 | .Assign [.Tuple es k p] (.Tuple vs _ _) _,cx=>if two3 es = true then optM ((swapAt cx.names es vs).bind (slotsOf cx.names)) fun is=>sAsgR is (plain vs (eTup (evm vs (es.map (mutT cx.mu)) cx)))
  else if ¬ vs.length = es.length then lift none else optM (tgtOf cx.names (.Tuple es k p)) fun tg=>sAsg tg (plain vs (eTup (evm vs (es.map (mutT cx.mu)) cx)))
 | .Assign [.Tuple es k p] v _,cx=>if isComp v = true then lift none else optM (tgtOf cx.names (.Tuple es k p)) fun tg=>sAsg tg (ev v cx false)
 | .If t b o _,cx=>sIf (tr t cx (ev t cx false)) (exs b cx) (exs o cx)
 | .While t b [] _,cx=>sWhile (tr t cx (ev t cx false)) (exs b cx)
 | .For t i b [] _,cx=>if isSet i = true then lift none else optM (tgtOf cx.names t) fun tg=>sFor tg (src i cx (ev i cx false)) (exs b cx)
 | _,_=>lift none
noncomputable def exs:List Stmt->Cx->T
 | [],_=>sNext
 | s :: r,cx=>sSeq (ex s cx) (exs r cx)
end
structure Fn where
 params:List Str
 dfl:List V
 names:List (Str × NameKind)
 body:List Stmt
 mu:List Str
 rm:Bool
structure Pg where
 glob:Str->Option V
 meth:Addr->Str->Option Addr
 init:Addr->Option Addr
 aok:Addr->Str->Bool
 kind:Addr->FK
 mutA:List Str
 tid:Addr->Bool
 fn:Addr->Option Fn
noncomputable def Pg.cx (P:Pg) (f:Fn) (rc:Raw):Cx:={ glob:=P.glob,meth:=P.meth,init:=P.init,aok:=P.aok,kind:=P.kind,mutA:=P.mutA,names:=f.names,mu:=f.mu,rm:=f.rm,rc:=rc }
noncomputable def argAt (x:Str):List Str->List V->Option V
 | p :: r,v :: t=>if x = p then some v else argAt x r t
 | _,_=>none
noncomputable def bindS (params:List Str) (args:List V):List (Str × NameKind)->List (Option V)
 | []=>[]
 | (x,k) :: r=>(if isVar k then argAt x params args else none) :: bindS params args r
noncomputable def finF (r:Fl) (s:S):Option (V × Hp):=match r with
 | .ret v=>some (v,(s.ob,s.nx))
 | .next=>some (.none,(s.ob,s.nx))
 | _=>none
noncomputable def fin (o:Option (Fl × S)):Option (V × Hp):=o.bind fun p=>finF p.1 p.2
noncomputable def full (f:Fn) (args:List V):List V:=args++f.dfl.drop (f.dfl.length + args.length - f.params.length)
noncomputable def body (P:Pg) (rc:Raw):Raw:=fun a args hp=>(P.fn a).bind fun f=>if args.length<=f.params.length/\f.params.length<=args.length + f.dfl.length then
  fin (exs f.body (P.cx f rc) ⟨bindS f.params (full f args) f.names,hp.1,hp.2⟩)
 else none
noncomputable def tidied (P:Pg) (rc:Raw):Raw:=fun a args hp=>if P.tid a = true then (rc a args hp).bind (tidy hp.2) else rc a args hp
noncomputable def call (P:Pg):Nat->Raw
 | 0=>fun _ _ _=>none
 | k + 1=>tidied P (body P (call P k))
end Mine
end
noncomputable section
open PySem PySem.W
namespace Mine
theorem no {α:Type} {a:α} {P:Prop} (h:(none:Option α) = some a):P:=nomatch h
theorem nob {P:Prop} (h:false = true):P:=nomatch h
inductive Sp {α β:Type} (a c:α) (b d:β):Prop
 | mk (h:a = c) (k:b = d)
theorem sp {α β:Type} {a c:α} {b d:β} (h:some (a,b) = some (c,d)):Sp a c b d:=⟨congrArg Prod.fst (Option.some.inj h),congrArg Prod.snd (Option.some.inj h)⟩
theorem pd {α β:Type} {a c:α} {b d:β} (h:(a,b) = (c,d)):Sp a c b d:=⟨congrArg Prod.fst h,congrArg Prod.snd h⟩
inductive Bi {α β:Type} (o:Option α) (f:α->Option β) (c:β):Prop
 | mk (a:α) (e:o = some a) (h:f a = some c)
theorem bi {α β:Type} {o:Option α} {f:α->Option β} {c:β} (h:o.bind f = some c):Bi o f c:=by
 cases o with
 | none=>exact no h
 | some a=>exact ⟨a,rfl,h⟩
inductive Mi {α β:Type} (o:Option α) (f:α->β) (c:β):Prop
 | mk (a:α) (e:o = some a) (h:f a = c)
theorem mi {α β:Type} {o:Option α} {f:α->β} {c:β} (h:o.map f = some c):Mi o f c:=by
 cases o with
 | none=>exact no h
 | some a=>exact ⟨a,rfl,Option.some.inj h⟩
inductive Ii {α:Type} (p:Prop) (a:Option α) (c:α):Prop
 | mk (h:p) (e:a = some c)
theorem ii {α:Type} {p:Prop} [Decidable p] {a:Option α} {c:α} (h:(if p then a else none) = some c):Ii p a c:=by
 by_cases q:p
 ·rw [if_pos q] at h;exact ⟨q,h⟩
 ·rw [if_neg q] at h;exact no h
theorem ni {α:Type} {p:Prop} [Decidable p] {a:Option α} {c:α} (h:(if p then none else a) = some c):¬ p/\a = some c:=by
 by_cases q:p
 ·rw [if_pos q] at h;exact no h
 ·rw [if_neg q] at h;exact ⟨q,h⟩
inductive I1 {α:Type} (v:V) (f:Int->Option α) (c:α):Prop
 | mk (i:Int) (e:v = .int i) (h:f i = some c)
theorem i1 {α:Type} {v:V} {f:Int->Option α} {c:α} (h:int1 v f = some c):I1 v f c:=by
 cases v with
 | int i=>exact ⟨i,rfl,h⟩
 | _=>exact no h
inductive L1 {α:Type} (v:V) (f:List V->Option α) (c:α):Prop
 | mk (l:List V) (e:v = .lst l) (h:f l = some c)
theorem l1 {α:Type} {v:V} {f:List V->Option α} {c:α} (h:lst1 v f = some c):L1 v f c:=by
 cases v with
 | lst l=>exact ⟨l,rfl,h⟩
 | _=>exact no h
inductive A1 {α:Type} (l:List V) (f:V->Option α) (c:α):Prop
 | mk (v:V) (e:l = [v]) (h:f v = some c)
theorem a1 {α:Type} {l:List V} {f:V->Option α} {c:α} (h:arg1 l f = some c):A1 l f c:=by
 cases l with
 | nil=>exact no h
 | cons v l=>cases l with
  | nil=>exact ⟨v,rfl,h⟩
  | cons _ _=>exact no h
theorem lref_some {n:Nat} {ob:OB} {l:List V} (h:lref n ob = some l):olook n ob = some (.list l):=by
 obtain ⟨o,e,h⟩:=bi h
 cases o with
 | list k=>cases h;exact e
 | _=>exact no h
theorem insMO_some {n:Nat} {ob:OB} {p:Addr × List Str × List V} (h:(olook n ob).bind insMO = some p):olook n ob = some (.inst p.1 p.2.1 p.2.2):=by
 obtain ⟨o,e,h⟩:=bi h
 cases o with
 | inst c ns vs=>cases h;exact e
 | _=>exact no h
inductive BndI {α β:Type} (f:M α) (g:α->M β) (S S':SS) (b:β):Prop
 | mk (a:α) (S1:SS) (h:f S = some (a,S1)) (k:g a S1 = some (b,S'))
theorem bnd_some {α β:Type} {f:M α} {g:α->M β} {S S':SS} {b:β} (h:bnd f g S = some (b,S')):BndI f g S S' b:=by
 unfold bnd at h
 cases e:f S with
 | none=>rw [e] at h;exact no h
 | some p=>rw [e] at h;exact ⟨p.1,p.2,e,h⟩
theorem lift_some {α:Type} {a:Option α} {b:α} {S S':SS} (h:lift a S = some (b,S')):a = some b/\S = S':=by
 cases a with
 | none=>exact no h
 | some a=>cases h;exact ⟨rfl,rfl⟩
theorem ret_some {α:Type} {a b:α} {S S':SS} (h:ret' a S = some (b,S')):a = b/\S = S':=by
 cases h;exact ⟨rfl,rfl⟩
theorem glb_some {o:Option NameKind} (h:glb o = true):o = some .globalImplicit:=by
 cases o with
 | none=>exact nob h
 | some k=>cases k <;> first | rfl | exact nob h
inductive IM {α:Type} (p:Prop) (f:M α) (S:SS) (c:α × SS):Prop
 | mk (h:p) (e:f S = some c)
theorem im {α:Type} {p:Prop} [Decidable p] {f:M α} {S:SS} {c:α × SS} (h:(if p then f else lift none) S = some c):IM p f S c:=by
 by_cases q:p
 ·rw [if_pos q] at h;exact ⟨q,h⟩
 ·rw [if_neg q] at h;exact no h
inductive IN {α:Type} (p:Prop) (f:M α) (S:SS) (c:α × SS):Prop
 | mk (h:¬ p) (e:f S = some c)
theorem in' {α:Type} {p:Prop} [Decidable p] {f:M α} {S:SS} {c:α × SS} (h:(if p then lift none else f) S = some c):IN p f S c:=by
 by_cases q:p
 ·rw [if_pos q] at h;exact no h
 ·rw [if_neg q] at h;exact ⟨q,h⟩
inductive T1 {α:Type} (v:V) (f:List V->M α) (S:SS) (c:α × SS):Prop
 | mk (l:List V) (e:v = .tup l) (h:f l S = some c)
theorem t1 {α:Type} {v:V} {f:List V->M α} {S:SS} {c:α × SS} (h:tup1 v f S = some c):T1 v f S c:=by
 cases v with
 | tup l=>exact ⟨l,rfl,h⟩
 | _=>exact no h
theorem var_some {i:Nat} {S S':SS} {v:V} (h:eVar i S = some (v,S')):S.sl[i]? = some (some v)/\S = S':=by
 obtain ⟨o,e,h⟩:=bi h
 obtain ⟨w,e2,h⟩:=mi h
 cases h
 exact ⟨e2 ▸ e,rfl⟩
inductive MkI (m:Bool) (l:List V) (S S':SS) (v:V):Prop
 | mk (hl:l.length<=lim) (h:(match m with | true=>alloc' (.list l) S | false=>some (.lst l,S)) = some (v,S'))
theorem mk_some {m:Bool} {l:List V} {S S':SS} {v:V} (h:mkL m l S = some (v,S')):MkI m l S S' v:=by
 obtain ⟨q,e⟩:=ii h
 exact ⟨q,e⟩
end Mine
end
noncomputable section
open PySem PySem.W PySem.Calls PyProof.Rows
namespace Mine
noncomputable def Ky.is:Ky->Value->Bool
 | .i n,v=>Value.isInt n v
 | .s x,v=>Value.isStrOf x v
noncomputable def Ky.hash (w:World):Ky->Int
 | .i n=>hashInt n
 | .s x=>hashStr w x
inductive KyI (k:Ky) (v:Value):Prop
 | i (n:Int) (t:Tok) (e:k = .i n) (h:v = .int n t)
 | s (x:Str) (t:Tok) (e:k = .s x) (h:v = .str x t)
theorem kyI {k:Ky} {v:Value} (h:k.is v = true):KyI k v:=by
 cases k with
 | i n=>obtain ⟨t,h⟩:=Value.isInt_shape h;exact .i n t rfl h
 | s x=>obtain ⟨t,h⟩:=Value.isStrOf_shape h;exact .s x t rfl h
theorem ky_inj {v:Value} {a b:Ky} (ha:a.is v = true) (hb:b.is v = true):a = b:=by
 cases kyI ha with
 | i n t e h=>cases kyI hb with
  | i m u f g=>subst e f;cases h.symm.trans g;rfl
  | s y u f g=>cases h.symm.trans g
 | s x t e h=>cases kyI hb with
  | i m u f g=>cases h.symm.trans g
  | s y u f g=>subst e f;cases h.symm.trans g;rfl
theorem ky_eq {prog:Program} {w:World} {A:Around} {E:Value->Shared->Prop} {s:Shared} {a b:Ky} {u v:Value} {Q:Bool->Shared->Prop} (hu:a.is u = true) (hv:b.is v = true) (h:Q (decide (a = b)) s):wpAny (model prog w) A (eqBool u v) Q E s:=by
 cases kyI hu with
 | i n t e g0=>
  subst e g0
  cases kyI hv with
  | i m t' f g=>
   subst f g
   refine wpAny_eqBool_int ?_
   rw [show (n == m) = decide (Ky.i n = Ky.i m) from decide_eq_decide.mpr ⟨congrArg Ky.i,Ky.i.inj⟩];exact h
  | s y t' f g=>
   subst f g
   exact SeqAt.EqAt.int_str _ _ _ _ _ _ _ _ ((decide_eq_false (fun q:Ky.i n = Ky.s y=>nomatch q)) ▸ h)
 | s x t e g0=>
  subst e g0
  cases kyI hv with
  | i m t' f g=>
   subst f g
   exact SeqAt.EqAt.str_int _ _ _ _ _ _ _ _ ((decide_eq_false (fun q:Ky.s x = Ky.i m=>nomatch q)) ▸ h)
  | s y t' f g=>
   subst f g
   refine wpAny_eqBool_str ?_
   rw [show decide (x = y) = decide (Ky.s x = Ky.s y) from decide_eq_decide.mpr ⟨congrArg Ky.s,Ky.s.inj⟩];exact h
theorem ky_hash {prog:Program} {w:World} {A:Around} {E:Value->Shared->Prop} {s:Shared} {k:Ky} {v:Value} {Q:Int->Shared->Prop} (hv:k.is v = true) (h:Q (k.hash w) { s with toks:=s.toks + 1 }):wpAny (model prog w) A (pyHash v) Q E s:=by
 cases kyI hv with
 | i n t e g=>subst e g;exact wpAny_pyHash_int h
 | s x t e g=>subst e g;exact wpAny_pyHash_str h
noncomputable def kyKind (prog:Program) (w:World):KeyKind prog w Ky where
 is:=Ky.is
 hash:=Ky.hash w
 inj:=fun _ _ _ ha hb=>ky_inj ha hb
 byValue:=fun k v h=>by cases kyI h <;> (subst_vars;rfl)
 pyHash:=ky_hash
 eqBool:=ky_eq
 «strs»:=fun k x t v h=>by
  cases kyI h with
  | i n u e g=>cases g
  | s y u e g=>cases e;cases g;cases v <;> rfl
inductive Tag where
 | no
 | fro (o:Obj)
 | itr (o:Obj)
 | mt (r n:Nat)
 | md (r n:Nat)
 | frm (d:Nat)
noncomputable abbrev TT:=Addr->Tag
structure Ctx where
 prog:Program
 w:World
 K:Frag
 P:Pg
 base:Heap
inductive seqObj (ty:String) (o:Obj) (vs:List Value):Prop
 | mk (n:Nat) (e:o = { cls:=.type ty,data:=.seq vs.toArray n })
inductive dictObj (X:Ctx) (o:Obj) (ks:List Ky) (vs:List Value):Prop
 | mk (l:ks.length = vs.length) (x:o.ExactDict) (es:Array DictEntry) (ep:Nat) (d:o.data = .dict es ep) (k:KeysOf (kyKind X.prog X.w) es) (p:Pairs (kyKind X.prog X.w) es.toList (ks.zip vs)) (n:ks.Nodup)
inductive EsRel:List DictEntry->List Str->List Value->Prop
 | nil:EsRel [] [] []
 | cons {e:DictEntry} {es n ns x xs t}:e.key = .str n t->e.val = x->EsRel es ns xs->EsRel (e :: es) (n :: ns) (x :: xs)
noncomputable def aokAll (X:Ctx) (c:Addr) (ns:List Str):Prop:=(∀ n ∈ ns,X.P.aok c n = true)/\ns.Nodup
inductive SeqR (T:TT) (ty:String) (l:List V) (R:List Value->Prop) (x:Value):Prop
 | mk (z:l.length<=lim) (a:Addr) (o:Obj) (vs:List Value) (e:x = .ref a) (t:T a = .fro o) (q:seqObj ty o vs) (r:R vs)
inductive DicR (X:Ctx) (T:TT) (ks:List Ky) (R:List Value->Prop) (x:Value):Prop
 | mk (a:Addr) (o:Obj) (vs:List Value) (e:x = .ref a) (t:T a = .fro o) (z:(a == sysModules) = false) (q:dictObj X o ks vs) (r:R vs)
inductive InsR (X:Ctx) (T:TT) (c:Addr) (ns:List Str) (R:List Value->Prop) (x:Value):Prop
 | mk (z:aokAll X c ns) (a dx:Addr) (es:List DictEntry) (n:Nat) (xs:List Value) (e:x = .ref a) (t:T a = .fro (instObj c dx)) (u:T dx = .fro (dictOf es n)) (q:EsRel es ns xs) (r:R xs)
inductive RefR (ρ:List Addr) (n:Nat) (x:Value):Prop
 | mk (a:Addr) (e:ρ[n]? = some a) (q:x = .ref a)
inductive ConsR (P:Value->Prop) (R:List Value->Prop) (vs:List Value):Prop
 | mk (x:Value) (xs:List Value) (e:vs = x :: xs) (a:P x) (b:R xs)
mutual
noncomputable def VRel (X:Ctx) (T:TT) (ρ:List Addr):V->Value->Prop
 | .none,x=>x = .none
 | .bool b,x=>x = .bool b
 | .int i,x=>∃ t,x = .int i t
 | .str s,x=>∃ t,x = .str s t
 | .tup l,x=>SeqR T "tuple" l (VRels X T ρ l) x
 | .lst l,x=>SeqR T "list" l (VRels X T ρ l) x
 | .dic ks l,x=>DicR X T ks (VRels X T ρ l) x
 | .ins c ns l,x=>InsR X T c ns (VRels X T ρ l) x
 | .ref n,x=>RefR ρ n x
 | .st v,x=>x = v
noncomputable def VRels (X:Ctx) (T:TT) (ρ:List Addr):List V->List Value->Prop
 | [],vs=>vs = []
 | v :: l,vs=>ConsR (VRel X T ρ v) (VRels X T ρ l) vs
end
inductive OLst (X:Ctx) (T:TT) (ρ:List Addr) (h:Heap) (r n:Nat) (l:List V):Prop
 | mk (z:l.length<=lim) (a:Addr) (o:Obj) (vs:List Value) (e:ρ[n]? = some a) (t:T a = .mt r n) (q:h.get? a = some o) (s:seqObj "list" o vs) (v:VRels X T ρ l vs)
inductive ODic (X:Ctx) (T:TT) (ρ:List Addr) (h:Heap) (r n:Nat) (ks:List Ky) (l:List V):Prop
 | mk (a:Addr) (o:Obj) (vs:List Value) (e:ρ[n]? = some a) (t:T a = .mt r n) (q:h.get? a = some o) (z:(a == sysModules) = false) (s:dictObj X o ks vs) (v:VRels X T ρ l vs)
inductive OIns (X:Ctx) (T:TT) (ρ:List Addr) (h:Heap) (r n:Nat) (c:Addr) (ns:List Str) (l:List V):Prop
 | mk (z:aokAll X c ns) (a dx:Addr) (es:List DictEntry) (k:Nat) (xs:List Value) (e:ρ[n]? = some a) (t:T a = .mt r n) (u:T dx = .md r n) (q:h.get? a = some (instObj c dx)) (q':h.get? dx = some (dictOf es k)) (s:EsRel es ns xs) (v:VRels X T ρ l xs)
noncomputable def ORel (X:Ctx) (T:TT) (ρ:List Addr) (h:Heap) (r n:Nat):MO->Prop
 | .list l=>OLst X T ρ h r n l
 | .dict ks l=>ODic X T ρ h r n ks l
 | .inst c ns l=>OIns X T ρ h r n c ns l
structure WRel (X:Ctx) (T:TT) (h:Heap):Prop where
 fro:∀ a o,T a = .fro o->h.get? a = some o
 itr:∀ a o,T a = .itr o->h.get? a = some o
 live:∀ a,T a ≠ .no->∃ o,h.get? a = some o
 base:∀ a o,X.base.get? a = some o->T a = .fro o
inductive LocR (X:Ctx) (T:TT) (ρ:List Addr) (env:Env) (ov:Option (Option V)) (x:Str) (k:NameKind) (m:Str->Option Value):Prop
 | mk (q:k = .local) (b:env.kindOf x = some .local) (c:∀ v,ov = some (some v)->∃ y,m x = some y/\VRel X T ρ v y)
inductive CelR (X:Ctx) (d:Nat) (T:TT) (ρ:List Addr) (env:Env) (ov:Option (Option V)) (h:Heap) (x:Str) (k:NameKind):Prop
 | mk (a:k ≠ .local) (b:env.kindOf x = some .cell ∨ (env.kindOf x = some .free/\(x == ("__classdict__" : Str)) = false)) (c:Addr) (vo:Option Value) (e:Nat) (h1:env.cells.lookup x = some c) (h2:T c = .frm e) (h3:e<=d)
   (h4:k = .cell->env.kindOf x = some .cell/\e = d) (h5:h.IsCell c vo) (h6:∀ v,ov = some (some v)->∃ y,vo = some y/\VRel X T ρ v y)
inductive NsR (X:Ctx) (d:Nat) (T:TT) (ρ:List Addr) (env:Env) (names:List (Str × NameKind)) (sl:List (Option V)) (h:Heap):Prop
 | mk (m:Str->Option Value) (n:h.Ns env.locals m) (a:∀ i x k,slotIx x names 0 = some i->kindIx x names = some k->LocR X T ρ env sl[i]? x k m ∨ CelR X d T ρ env sl[i]? h x k)
structure FRel (X:Ctx) (d:Nat) (T:TT) (ρ:List Addr) (env:Env) (names:List (Str × NameKind)) (sl:List (Option V)) (h:Heap):Prop where
 kind:env.scope.kind = .function
 globals:env.globals = mainGlobals
 builtins:env.builtins = builtinsNs
 len:sl.length = names.length
 loc:T env.locals = .frm d
 ns:NsR X d T ρ env names sl h
 apart:∀ x y c,env.cells.lookup x = some c->env.cells.lookup y = some c->x = y
 cl:∀ x c,env.cells.lookup x = some c->c ≠ env.locals
 glob:∀ x,slotIx x names 0 = none->kindIx x names = some .globalImplicit->env.kindOf x = some .globalImplicit
structure ORels (X:Ctx) (r:Nat) (T:TT) (ρ:List Addr) (ob:OB) (nx:Nat) (h:Heap):Prop where
 len:ρ.length = nx
 obj:∀ n o,olook n ob = some o->ORel X T ρ h r n o
structure St (X:Ctx) (d r:Nat) (T:TT) (ρ:List Addr) (env:Env) (names:List (Str × NameKind)) (S:S) (h:Heap):Prop where
 w:WRel X T h
 f:FRel X d T ρ env names S.sl h
 o:ORels X r T ρ S.ob S.nx h
structure Ext (d r:Nat) (T:TT) (h:Heap) (T':TT) (h':Heap):Prop where
 fro:∀ a o,T a = .fro o->T' a = .fro o
 itr:∀ a o,T a = .itr o->T' a = .itr o
 frm:∀ a e,T a = .frm e->e<=d->T' a = .frm e
 frmK:∀ a e o,T a = .frm e->e < d->h.get? a = some o->h'.get? a = some o
 mu:∀ a e n,T a = .mt e n->e < r->T' a = .mt e n
 muK:∀ a e n o,T a = .mt e n->e < r->h.get? a = some o->h'.get? a = some o
 md:∀ a e n,T a = .md e n->e < r->T' a = .md e n
 mdK:∀ a e n o,T a = .md e n->e < r->h.get? a = some o->h'.get? a = some o
theorem Ext.refl {d r:Nat} {T:TT} {h:Heap}:Ext d r T h T h:=
 ⟨fun _ _ e=>e,fun _ _ e=>e,fun _ _ e _=>e,fun _ _ _ _ _ e=>e,fun _ _ _ e _=>e,fun _ _ _ _ _ _ e=>e,fun _ _ _ e _=>e,fun _ _ _ _ _ _ e=>e⟩
theorem Ext.trans {d r:Nat} {T T1 T2:TT} {h h1 h2:Heap} (a:Ext d r T h T1 h1) (b:Ext d r T1 h1 T2 h2):Ext d r T h T2 h2 where
 fro x o e:=b.fro x o (a.fro x o e)
 itr x o e:=b.itr x o (a.itr x o e)
 frm x e q l:=b.frm x e (a.frm x e q l) l
 frmK x e o q l k:=b.frmK x e o (a.frm x e q (Nat.le_of_lt l)) l (a.frmK x e o q l k)
 mu x e n q l:=b.mu x e n (a.mu x e n q l) l
 muK x e n o q l k:=b.muK x e n o (a.mu x e n q l) l (a.muK x e n o q l k)
 md x e n q l:=b.md x e n (a.md x e n q l) l
 mdK x e n o q l k:=b.mdK x e n o (a.md x e n q l) l (a.mdK x e n o q l k)
theorem Ext.up {d r d' r':Nat} {T T':TT} {h h':Heap} (a:Ext d' r' T h T' h') (hd:d<=d') (hr:r<=r'):Ext d r T h T' h' where
 fro:=a.fro
 itr:=a.itr
 frm x e q l:=a.frm x e q (Nat.le_trans l hd)
 frmK x e o q l k:=a.frmK x e o q (Nat.lt_of_lt_of_le l hd) k
 mu x e n q l:=a.mu x e n q (Nat.lt_of_lt_of_le l hr)
 muK x e n o q l k:=a.muK x e n o q (Nat.lt_of_lt_of_le l hr) k
 md x e n q l:=a.md x e n q (Nat.lt_of_lt_of_le l hr)
 mdK x e n o q l k:=a.mdK x e n o q (Nat.lt_of_lt_of_le l hr) k
noncomputable def Grows (T T':TT):Prop:=∀ a o,T a = .fro o->T' a = .fro o
theorem look_prefix {ρ ρ':List Addr} (p:ρ <+: ρ') {n:Nat} {a:Addr} (e:ρ[n]? = some a):ρ'[n]? = some a:=by
 obtain ⟨t,rfl⟩:=p
 rw [List.getElem?_append_left ((List.getElem?_eq_some_iff.mp e).1)];exact e
mutual
theorem VRel.mono {X:Ctx} {T T':TT} {ρ ρ':List Addr} (g:Grows T T') (p:ρ <+: ρ'):∀ (v:V) {x:Value},VRel X T ρ v x->VRel X T' ρ' v x
 | .none,_,h=>h
 | .bool _,_,h=>h
 | .int _,_,h=>h
 | .str _,_,h=>h
 | .st _,_,h=>h
 | .ref _,_,⟨a,e,q⟩=>⟨a,look_prefix p e,q⟩
 | .tup l,_,⟨z,a,o,vs,e,t,q,r⟩=>⟨z,a,o,vs,e,g _ _ t,q,VRels.mono g p l r⟩
 | .lst l,_,⟨z,a,o,vs,e,t,q,r⟩=>⟨z,a,o,vs,e,g _ _ t,q,VRels.mono g p l r⟩
 | .dic _ l,_,⟨a,o,vs,e,t,z,q,r⟩=>⟨a,o,vs,e,g _ _ t,z,q,VRels.mono g p l r⟩
 | .ins _ _ l,_,⟨z,a,dx,es,n,xs,e,t,u,q,r⟩=>⟨z,a,dx,es,n,xs,e,g _ _ t,g _ _ u,q,VRels.mono g p l r⟩
theorem VRels.mono {X:Ctx} {T T':TT} {ρ ρ':List Addr} (g:Grows T T') (p:ρ <+: ρ'):∀ (l:List V) {xs:List Value},VRels X T ρ l xs->VRels X T' ρ' l xs
 | [],_,h=>h
 | v :: l,_,⟨x,xs,e,a,b⟩=>⟨x,xs,e,VRel.mono g p v a,VRels.mono g p l b⟩
end
mutual
theorem VRel.any {X:Ctx} {T:TT} {ρ ρ':List Addr}:∀ (v:V) {x:Value},nr v = true->VRel X T ρ v x->VRel X T ρ' v x
 | .none,_,_,h=>h
 | .bool _,_,_,h=>h
 | .int _,_,_,h=>h
 | .str _,_,_,h=>h
 | .st _,_,_,h=>h
 | .ref _,_,n,_=>nomatch (show false = true from n)
 | .tup l,_,n,⟨z,a,o,vs,e,t,q,r⟩=>⟨z,a,o,vs,e,t,q,VRels.any l n r⟩
 | .lst l,_,n,⟨z,a,o,vs,e,t,q,r⟩=>⟨z,a,o,vs,e,t,q,VRels.any l n r⟩
 | .dic _ l,_,n,⟨a,o,vs,e,t,z,q,r⟩=>⟨a,o,vs,e,t,z,q,VRels.any l n r⟩
 | .ins _ _ l,_,n,⟨z,a,dx,es,k,xs,e,t,u,q,r⟩=>⟨z,a,dx,es,k,xs,e,t,u,q,VRels.any l n r⟩
theorem VRels.any {X:Ctx} {T:TT} {ρ ρ':List Addr}:∀ (l:List V) {xs:List Value},nrs l = true->VRels X T ρ l xs->VRels X T ρ' l xs
 | [],_,_,h=>h
 | v :: l,_,n,⟨x,xs,e,a,b⟩=>by
  have n:=Bool.and_eq_true_iff.mp n
  exact ⟨x,xs,e,VRel.any v n.1 a,VRels.any l n.2 b⟩
end
theorem VRels.length {X:Ctx} {T:TT} {ρ:List Addr}:∀ (l:List V) {xs:List Value},VRels X T ρ l xs->xs.length = l.length
 | [],_,h=>by rw [show _ = [] from h];rfl
 | _ :: l,_,⟨x,xs,e,_,b⟩=>by rw [e,List.length_cons,List.length_cons,VRels.length l b]
theorem VRels.append {X:Ctx} {T:TT} {ρ:List Addr}:∀ (l k:List V) {xs ys:List Value},VRels X T ρ l xs->VRels X T ρ k ys->VRels X T ρ (l++k) (xs++ys)
 | [],_,_,_,h,g=>by rw [show _ = [] from h];exact g
 | _ :: l,k,_,_,⟨x,xs,e,a,b⟩,g=>⟨x,xs++_,by rw [e];rfl,a,VRels.append l k b g⟩
theorem VRels.get {X:Ctx} {T:TT} {ρ:List Addr}:∀ (l:List V) {xs:List Value},VRels X T ρ l xs->∀ (i:Nat) (v:V),l[i]? = some v->∃ x,xs[i]? = some x/\VRel X T ρ v x
 | [],_,_,i,v,h=>by simp at h
 | u :: l,_,⟨x,xs,e,a,b⟩,0,v,h=>by
  simp at h;subst h;exact ⟨x,by rw [e];rfl,a⟩
 | u :: l,_,⟨x,xs,e,a,b⟩,i + 1,v,h=>by
  obtain ⟨y,p,q⟩:=VRels.get l b i v (by simpa using h)
  exact ⟨y,by rw [e];simpa using p,q⟩
theorem WRel.baseGet {X:Ctx} {T:TT} {h:Heap} (W:WRel X T h):∀ a o,X.base.get? a = some o->h.get? a = some o:=fun a o e=>W.fro a o (W.base a o e)
theorem WRel.free {X:Ctx} {T:TT} {h:Heap} (W:WRel X T h) {a:Addr} (e:h.get? a = none):T a = .no:=by
 cases q:T a with
 | no=>rfl
 | _=>obtain ⟨o,ho⟩:=W.live a (by rw [q];intro z;cases z);rw [e] at ho;cases ho
theorem get_size (h:Heap):h.get? h.objs.size = none:=Heap.get?_none_of_le (Nat.le_refl _)
theorem WRel.fresh {X:Ctx} {T:TT} {h:Heap} (W:WRel X T h):T h.objs.size = .no:=W.free (get_size h)
noncomputable def Keeps' (T:TT) (h h':Heap):Prop:=∀ b o,T b ≠ .no->h.get? b = some o->h'.get? b = some o
theorem WRel.keep {X:Ctx} {T:TT} {h h':Heap} (W:WRel X T h) (k:Keeps' T h h'):WRel X T h' where
 fro a o e:=k a o (by rw [e];intro z;cases z) (W.fro a o e)
 itr a o e:=k a o (by rw [e];intro z;cases z) (W.itr a o e)
 live a q:=let ⟨o,e⟩:=W.live a q;⟨o,k a o q e⟩
 base:=W.base
theorem ORel.mono {X:Ctx} {T T':TT} {ρ ρ':List Addr} {h h':Heap} {r n:Nat} {o:MO} (g:Grows T T') (p:ρ <+: ρ') (tm:∀ a,T a = .mt r n->T' a = .mt r n) (td:∀ a,T a = .md r n->T' a = .md r n)
  (k:∀ a x,(T a = .mt r n ∨ T a = .md r n)->h.get? a = some x->h'.get? a = some x) (H:ORel X T ρ h r n o):ORel X T' ρ' h' r n o:=by
 cases o with
 | list l=>obtain ⟨z,a,o,vs,e,t,q,s,v⟩:=H;exact ⟨z,a,o,vs,look_prefix p e,tm a t,k _ _ (.inl t) q,s,VRels.mono g p l v⟩
 | dict ks l=>obtain ⟨a,o,vs,e,t,q,z,s,v⟩:=H;exact ⟨a,o,vs,look_prefix p e,tm a t,k _ _ (.inl t) q,z,s,VRels.mono g p l v⟩
 | inst c ns l=>obtain ⟨z,a,dx,es,m,xs,e,t,u,q,q',s,v⟩:=H;exact ⟨z,a,dx,es,m,xs,look_prefix p e,tm a t,td _ u,k _ _ (.inl t) q,k _ _ (.inr u) q',s,VRels.mono g p l v⟩
theorem FRel.mono {X:Ctx} {d:Nat} {T T':TT} {ρ ρ':List Addr} {env:Env} {names sl} {h h':Heap} (g:Grows T T') (p:ρ <+: ρ') (tf:∀ a e,T a = .frm e->e<=d->T' a = .frm e)
  (k:∀ a e x,T a = .frm e->e<=d->h.get? a = some x->h'.get? a = some x) (H:FRel X d T ρ env names sl h):FRel X d T' ρ' env names sl h' where
 kind:=H.kind
 globals:=H.globals
 builtins:=H.builtins
 len:=H.len
 loc:=tf _ _ H.loc (Nat.le_refl _)
 ns:=by
  obtain ⟨m,⟨o,es,ep,ho,q⟩,hm⟩:=H.ns
  refine ⟨m,⟨o,es,ep,k _ _ _ H.loc (Nat.le_refl _) ho,q⟩,fun i x kd hi hk=>?_⟩
  rcases hm i x kd hi hk with ⟨a,b,c⟩ | ⟨a,b,c,vo,e,h1,h2,h3,h4,⟨oc,h5,h5'⟩,h6⟩
  ·exact .inl ⟨a,b,fun v hv=>let ⟨y,y1,y2⟩:=c v hv;⟨y,y1,VRel.mono g p v y2⟩⟩
  ·exact .inr ⟨a,b,c,vo,e,h1,tf _ _ h2 h3,h3,h4,⟨oc,k _ _ _ h2 h3 h5,h5'⟩,fun v hv=>let ⟨y,y1,y2⟩:=h6 v hv;⟨y,y1,VRel.mono g p v y2⟩⟩
 apart:=H.apart
 cl:=H.cl
 glob:=H.glob
theorem St.keep {X:Ctx} {d r:Nat} {T:TT} {ρ:List Addr} {env:Env} {names} {S:S} {h h':Heap} (H:St X d r T ρ env names S h) (k:Keeps' T h h'):St X d r T ρ env names S h' where
 w:=H.w.keep k
 f:=H.f.mono (fun _ _ e=>e) (List.prefix_refl _) (fun _ _ e _=>e) fun a e x t _=>k a x (by rw [t];intro z;cases z)
 o:=⟨H.o.len,fun n o e=>(H.o.obj n o e).mono (fun _ _ e=>e) (List.prefix_refl _) (fun _ e=>e) (fun _ e=>e) fun a x t=>k a x (by rcases t with t | t <;> rw [t] <;> (intro z;cases z))⟩
theorem Ext.keep {d r:Nat} {T:TT} {h h':Heap} (k:Keeps' T h h'):Ext d r T h T h' where
 fro _ _ e:=e
 itr _ _ e:=e
 frm _ _ e _:=e
 frmK a e o t _:=k a o (by rw [t];intro z;cases z)
 mu _ _ _ e _:=e
 muK a e n o t _:=k a o (by rw [t];intro z;cases z)
 md _ _ _ e _:=e
 mdK a e n o t _:=k a o (by rw [t];intro z;cases z)
theorem Keeps'.push {X:Ctx} {T:TT} {h:Heap} (_W:WRel X T h) (o:Obj):Keeps' T h (h.push o):=fun _ _ _ e=>Heap.get?_push_of_some _ e
theorem Keeps'.trans {T:TT} {h h1 h2:Heap} (a:Keeps' T h h1) (b:Keeps' T h1 h2):Keeps' T h h2:=fun x o t e=>b x o t (a x o t e)
theorem Keeps'.of {T:TT} {h h':Heap} (k:∀ b o,h.get? b = some o->h'.get? b = some o):Keeps' T h h':=fun b o _ e=>k b o e
theorem Keeps'.extBut {T:TT} {h h':Heap} {a:Addr} (t:T a = .no) (k:Heap.ExtBut a h h'):Keeps' T h h':=fun b o q e=>k b o (fun z=>q (z ▸ t)) e
noncomputable def tset (T:TT) (a:Addr) (t:Tag):TT:=fun b=>if b = a then t else T b
theorem tset_self {T:TT} {a:Addr} {t:Tag}:tset T a t a = t:=by simp [tset]
theorem tset_ne {T:TT} {a b:Addr} {t:Tag} (h:b ≠ a):tset T a t b = T b:=by simp [tset,h]
theorem tset_of {T:TT} {a b:Addr} {t u:Tag} (e:T a = .no) (h:T b = u) (hu:u ≠ .no):tset T a t b = u:=by
 rw [tset_ne,h];rintro rfl;exact hu (h.symm.trans e)
theorem Grows.tset {T:TT} {a:Addr} {t:Tag} (e:T a = .no):Grows T (tset T a t):=fun _ _ h=>tset_of e h (by intro z;cases z)
theorem Ext.tset {d r:Nat} {T:TT} {h h':Heap} {a:Addr} {t:Tag} (e:T a = .no) (k:Keeps' T h h'):Ext d r T h (tset T a t) h' where
 fro _ _ q:=tset_of e q (by intro z;cases z)
 itr _ _ q:=tset_of e q (by intro z;cases z)
 frm _ _ q _:=tset_of e q (by intro z;cases z)
 frmK:=(Ext.keep k (d:=d) (r:=r)).frmK
 mu _ _ _ q _:=tset_of e q (by intro z;cases z)
 muK:=(Ext.keep k (d:=d) (r:=r)).muK
 md _ _ _ q _:=tset_of e q (by intro z;cases z)
 mdK:=(Ext.keep k (d:=d) (r:=r)).mdK
theorem WRel.tag {X:Ctx} {T:TT} {h h':Heap} {a:Addr} {t:Tag} {o:Obj} (W:WRel X T h) (e:T a = .no) (k:Keeps' T h h') (ho:h'.get? a = some o)
  (hf:∀ o',t = .fro o'->o' = o) (hi:∀ o',t = .itr o'->o' = o):WRel X (tset T a t) h' where
 fro b x q:=by
  by_cases z:b = a
  ·subst z;rw [tset_self] at q;rw [hf x q];exact ho
  ·rw [tset_ne z] at q;exact (W.keep k).fro b x q
 itr b x q:=by
  by_cases z:b = a
  ·subst z;rw [tset_self] at q;rw [hi x q];exact ho
  ·rw [tset_ne z] at q;exact (W.keep k).itr b x q
 live b q:=by
  by_cases z:b = a
  ·subst z;exact ⟨o,ho⟩
  ·rw [tset_ne z] at q;exact (W.keep k).live b q
 base b x q:=tset_of e (W.base b x q) (by intro z;cases z)
theorem FRel.tag {X:Ctx} {d:Nat} {T:TT} {ρ ρ':List Addr} {env:Env} {names sl} {h h':Heap} {a:Addr} {t:Tag} (H:FRel X d T ρ env names sl h) (p:ρ <+: ρ') (e:T a = .no) (k:Keeps' T h h'):FRel X d (tset T a t) ρ' env names sl h':=
 H.mono (Grows.tset e) p (fun _ _ q _=>tset_of e q (by intro z;cases z)) fun b _ x q _=>k b x (by rw [q];intro z;cases z)
theorem ORels.tag {X:Ctx} {r:Nat} {T:TT} {ρ:List Addr} {ob nx} {h h':Heap} {a:Addr} {t:Tag} (H:ORels X r T ρ ob nx h) (e:T a = .no) (k:Keeps' T h h'):ORels X r (tset T a t) ρ ob nx h':=
 ⟨H.len,fun n o q=>(H.obj n o q).mono (Grows.tset e) (List.prefix_refl _) (fun _ q=>tset_of e q (by intro z;cases z)) (fun _ q=>tset_of e q (by intro z;cases z))
  fun b x q=>k b x (by rcases q with q | q <;> rw [q] <;> (intro z;cases z))⟩
theorem St.newF {X:Ctx} {d r:Nat} {T:TT} {ρ:List Addr} {env:Env} {names} {S:S} {h h':Heap} {a:Addr} {o:Obj} (H:St X d r T ρ env names S h) (e:T a = .no) (k:Keeps' T h h') (ho:h'.get? a = some o) :
  St X d r (tset T a (.fro o)) ρ env names S h':=
 ⟨H.w.tag e k ho (fun o' q=>by cases q;rfl) (fun o' q=>by cases q),H.f.tag (List.prefix_refl _) e k,H.o.tag e k⟩
theorem St.newI {X:Ctx} {d r:Nat} {T:TT} {ρ:List Addr} {env:Env} {names} {S:S} {h h':Heap} {a:Addr} {o:Obj} (H:St X d r T ρ env names S h) (e:T a = .no) (k:Keeps' T h h') (ho:h'.get? a = some o) :
  St X d r (tset T a (.itr o)) ρ env names S h':=
 ⟨H.w.tag e k ho (fun o' q=>by cases q) (fun o' q=>by cases q;rfl),H.f.tag (List.prefix_refl _) e k,H.o.tag e k⟩
theorem olook_cons {n k:Nat} {o:MO} {ob:OB}:olook n ((k,o) :: ob) = if k = n then some o else olook n ob:=rfl
theorem olook_oset_self {n:Nat} {o x:MO}:∀ {ob:OB},olook n ob = some o->olook n (oset n x ob) = some x
 | [],h=>by cases h
 | (k,y) :: ob,h=>by
  unfold oset
  rw [olook_cons] at h
  by_cases z:k = n
  ·rw [if_pos z,olook_cons,if_pos z]
  ·rw [if_neg z] at h;rw [if_neg z,olook_cons,if_neg z];exact olook_oset_self h
theorem olook_oset_ne {n m:Nat} {x:MO} (z:m ≠ n):∀ {ob:OB},olook m (oset n x ob) = olook m ob
 | []=>rfl
 | (k,y) :: ob=>by
  unfold oset
  by_cases q:k = n
  ·rw [if_pos q,olook_cons,olook_cons,if_neg (fun e=>z (e.symm.trans q)),if_neg (fun e=>z (e.symm.trans q))]
  ·rw [if_neg q,olook_cons,olook_cons,olook_oset_ne z]
theorem olook_odrop {n m:Nat}:∀ {ob:OB} {o:MO},olook m (odrop n ob) = some o->m ≠ n/\olook m ob = some o
 | [],_,h=>by cases h
 | (k,y) :: ob,o,h=>by
  unfold odrop at h
  by_cases q:k = n
  ·rw [if_pos q] at h
   obtain ⟨a,b⟩:=olook_odrop h
   exact ⟨a,by rw [olook_cons,if_neg (fun e=>a (e.symm.trans q))];exact b⟩
  ·rw [if_neg q,olook_cons] at h
   by_cases z:k = m
   ·rw [if_pos z] at h;exact ⟨fun e=>q (z.trans e),by rw [olook_cons,if_pos z];exact h⟩
   ·rw [if_neg z] at h
    obtain ⟨a,b⟩:=olook_odrop h
    exact ⟨a,by rw [olook_cons,if_neg z];exact b⟩
theorem ORels.drop {X:Ctx} {r:Nat} {T:TT} {ρ:List Addr} {ob nx} {h:Heap} (H:ORels X r T ρ ob nx h) (n:Nat):ORels X r T ρ (odrop n ob) nx h:=
 ⟨H.len,fun m o e=>H.obj m o (olook_odrop e).2⟩
theorem ORels.lt {X:Ctx} {r:Nat} {T:TT} {ρ:List Addr} {ob nx} {h:Heap} (H:ORels X r T ρ ob nx h) {n:Nat} {o:MO} (e:olook n ob = some o):n < nx:=by
 have:=H.obj n o e
 rw [← H.len]
 cases o with
 | list l=>obtain ⟨_,_,_,_,e,_,_,_,_⟩:=this;exact (List.getElem?_eq_some_iff.mp e).1
 | dict ks l=>obtain ⟨_,_,_,e,_,_,_,_,_⟩:=this;exact (List.getElem?_eq_some_iff.mp e).1
 | inst c ns l=>obtain ⟨_,_,_,_,_,_,e,_,_,_,_,_,_⟩:=this;exact (List.getElem?_eq_some_iff.mp e).1
theorem ORels.newM {X:Ctx} {r:Nat} {T:TT} {ρ:List Addr} {ob nx} {h h':Heap} {a:Addr} {x:MO} (H:ORels X r T ρ ob nx h) (e:T a = .no) (k:Keeps' T h h')
  (hx:ORel X (tset T a (.mt r nx)) (ρ++[a]) h' r nx x):ORels X r (tset T a (.mt r nx)) (ρ++[a]) ((nx,x) :: ob) (nx + 1) h':=
 ⟨by rw [List.length_append,H.len];rfl,fun n o q=>by
  rw [olook_cons] at q
  by_cases z:nx = n
  ·rw [if_pos z] at q;cases q;subst z;exact hx
  ·rw [if_neg z] at q
   exact (H.obj n o q).mono (Grows.tset e) (List.prefix_append _ _) (fun _ q=>tset_of e q (by intro z;cases z)) (fun _ q=>tset_of e q (by intro z;cases z))
    fun b x q=>k b x (by rcases q with q | q <;> rw [q] <;> (intro z;cases z))⟩
theorem St.newM {X:Ctx} {d r:Nat} {T:TT} {ρ:List Addr} {env:Env} {names} {S:S} {h h':Heap} {a:Addr} {o:Obj} {x:MO} (H:St X d r T ρ env names S h) (e:T a = .no) (k:Keeps' T h h') (ho:h'.get? a = some o)
  (hx:ORel X (tset T a (.mt r S.nx)) (ρ++[a]) h' r S.nx x):St X d r (tset T a (.mt r S.nx)) (ρ++[a]) env names { S with ob:=(S.nx,x) :: S.ob,nx:=S.nx + 1 } h':=
 ⟨H.w.tag e k ho (fun o' q=>by cases q) (fun o' q=>by cases q),H.f.tag (List.prefix_append _ _) e k,H.o.newM e k hx⟩
theorem St.upd {X:Ctx} {d r:Nat} {T:TT} {ρ:List Addr} {env:Env} {names} {S:S} {h h':Heap} {a:Addr} {n:Nat} {x:MO} (H:St X d r T ρ env names S h) (t:T a = .mt r n ∨ T a = .md r n)
  (k:∀ b o,b ≠ a->h.get? b = some o->h'.get? b = some o) (ho:∃ o,h'.get? a = some o) (hin:∃ o,olook n S.ob = some o) (hx:ORel X T ρ h' r n x) :
  St X d r T ρ env names { S with ob:=oset n x S.ob } h' where
 w:={
  fro:=fun b o q=>k b o (by rintro rfl;rcases t with t | t <;> rw [t] at q <;> cases q) (H.w.fro b o q)
  itr:=fun b o q=>k b o (by rintro rfl;rcases t with t | t <;> rw [t] at q <;> cases q) (H.w.itr b o q)
  live:=fun b q=>by
   by_cases z:b = a
   ·subst z;exact ho
   ·obtain ⟨o,e⟩:=H.w.live b q;exact ⟨o,k b o z e⟩
  base:=H.w.base }
 f:=H.f.mono (fun _ _ e=>e) (List.prefix_refl _) (fun _ _ e _=>e) fun b e o q _=>k b o (by rintro rfl;rcases t with t | t <;> rw [t] at q <;> cases q)
 o:=⟨H.o.len,fun m o q=>by
  by_cases z:m = n
  ·subst z
   obtain ⟨o',e'⟩:=hin
   rw [olook_oset_self e'] at q;cases q;exact hx
  ·rw [olook_oset_ne z] at q
   refine (H.o.obj m o q).mono (fun _ _ e=>e) (List.prefix_refl _) (fun _ e=>e) (fun _ e=>e) fun b y p=>k b y ?_
   rintro rfl
   rcases t with t | t <;> rcases p with p | p <;> rw [t] at p <;> cases p <;> exact z rfl⟩
theorem Ext.upd {d r:Nat} {T:TT} {h h':Heap} {a:Addr} {n:Nat} (t:T a = .mt r n ∨ T a = .md r n) (k:∀ b o,b ≠ a->h.get? b = some o->h'.get? b = some o):Ext d r T h T h' where
 fro _ _ e:=e
 itr _ _ e:=e
 frm _ _ e _:=e
 frmK b e o q _:=k b o (by rintro rfl;rcases t with t | t <;> rw [t] at q <;> cases q)
 mu _ _ _ e _:=e
 muK b e m o q l:=k b o (by rintro rfl;rcases t with t | t <;> rw [t] at q <;> cases q;exact absurd l (Nat.lt_irrefl _))
 md _ _ _ e _:=e
 mdK b e m o q l:=k b o (by rintro rfl;rcases t with t | t <;> rw [t] at q <;> cases q;exact absurd l (Nat.lt_irrefl _))
noncomputable def Room (A:Around) (k:Nat):Prop:=A.depth + 4 * k + 20<=recursionLimit/\A.units + 20 * k + 120<=cLine/\A.handled = none
noncomputable def SimAt (X:Ctx) (d r:Nat) (env:Env) (names:List (Str × NameKind)) (A:Around) (T:TT) (ρ:List Addr) (s:Shared) (S:S) {α β:Type} (t:Sem β) (f:M α) (R:TT->List Addr->α->β->Prop):Prop:=
 ∀ v S',f S = some (v,S')->∀ Q:β->Shared->Prop,
  (∀ T' ρ' h' tk' y,Ext d r T s.heap T' h'->ρ <+: ρ'->St X d r T' ρ' env names S' h'->R T' ρ' v y->Q y { s with heap:=h',toks:=tk' }) ->
  wpAny (model X.prog X.w) A t Q (fun _ _=>False) s
noncomputable def Sim (X:Ctx) (d r:Nat) (env:Env) (names:List (Str × NameKind)) (A:Around) {α β:Type} (t:Sem β) (f:M α) (R:TT->List Addr->α->β->Prop):Prop:=
 ∀ T ρ s S,St X d r T ρ env names S s.heap->SimAt X d r env names A T ρ s S t f R
noncomputable abbrev RV (X:Ctx):TT->List Addr->V->Value->Prop:=fun T ρ v y=>VRel X T ρ v y
noncomputable abbrev RB:TT->List Addr->Bool->Bool->Prop:=fun _ _ a b=>a = b
noncomputable abbrev RU:TT->List Addr->Unit->Unit->Prop:=fun _ _ _ _=>True
inductive RF (X:Ctx) (T:TT) (ρ:List Addr):Fl->Flow->Prop
 | next:RF X T ρ .next .next
 | brk:RF X T ρ .brk .brk
 | cont:RF X T ρ .cont .cont
 | ret (v:V) (y:Value) (h:VRel X T ρ v y):RF X T ρ (.ret v) (.ret y)
structure BF (X:Ctx):Prop where
 kin:X.K.In X.base
 g:∃ mg,X.base.Ns mainGlobals mg
 b:∃ mb,X.base.Ns builtinsNs mb/\∀ x:Str,x ≠ "__name__" -> mb x = bootBuiltins x
 nolimit:X.base.NoLimit
 glob:∀ x v,X.P.glob x = some v->∃ y,(nsIn X.K mainGlobals x = some (some y) ∨ (nsIn X.K mainGlobals x = some none/\bootBuiltins x = some y/\x ≠ "__name__")) /\
  ∀ T ρ,(∀ a o,X.base.get? a = some o->T a = .fro o)->VRel X T ρ v y
section
variable {X:Ctx} {d r:Nat} {env:Env} {names:List (Str × NameKind)} {A:Around}
theorem sim_lift_none {α β:Type} {t:Sem β} {R:TT->List Addr->α->β->Prop}:Sim X d r env names A t (lift none:M α) R:=fun _ _ _ _ _ v S' e=>by cases e
inductive SlotI (x:Str) (names:List (Str × NameKind)) (n i:Nat):Prop
 | mk (a:n<=i) (b:i < n + names.length) (k:NameKind) (e:kindIx x names = some k) (q:isVar k = true)
theorem slotIx_lt {x:Str} {i:Nat}:∀ {names:List (Str × NameKind)} {n:Nat},slotIx x names n = some i->SlotI x names n i:=by
 intro names
 induction names with
 | nil=>intro n h;exact no h
 | cons p r ih=>
  intro n h
  by_cases z:x = p.1
  ·have h':(if isVar p.2 = true then some n else none) = some i:=(if_pos z).symm.trans h
   obtain ⟨q,e⟩:=ii h'
   cases e
   exact ⟨Nat.le_refl _,Nat.lt_add_of_pos_right (Nat.succ_pos _),p.2,if_pos z,q⟩
  ·have h':slotIx x r (n + 1) = some i:=(if_neg z).symm.trans h
   obtain ⟨a,b,k,c,q⟩:=ih h'
   exact ⟨Nat.le_of_succ_le a,by rw [List.length_cons];omega,k,(if_neg z).trans c,q⟩
section
variable {T:TT} {ρ:List Addr} {s:Shared} {v:V} {x:Str} {pos:Pos} {Q:Value->Shared->Prop} {E:Value->Shared->Prop}
theorem load_slot {sl:List (Option V)} (F:FRel X d T ρ env names sl s.heap) (hd:(x == ("__debug__" : Str)) = false) {i:Nat} (hi:slotIx x names 0 = some i) (hv:sl[i]? = some (some v)) (fin:∀ y,VRel X T ρ v y->Q y s) :
  wpAny (model X.prog X.w) A (eval (.Name x pos) env) Q E s:=by
 obtain ⟨m,hm,hs⟩:=F.ns
 obtain ⟨_,_,k,hk,_⟩:=slotIx_lt hi
 refine wpAny_Name ?_ hd
 rcases hs i x k hi hk with ⟨_,b,c⟩ | ⟨_,b,c,vo,f,h1,_,_,_,h5,h6⟩
 ·obtain ⟨y,y1,y2⟩:=c v hv
  exact wpAny_loadName_local F.kind b hm y1 (fin y y2)
 ·obtain ⟨y,rfl,y2⟩:=h6 v hv
  rcases b with b | ⟨b,nb⟩
  ·exact wpAny_loadName_cell F.kind b h1 h5 (fin y y2)
  ·exact wpAny_loadName_free F.kind b h1 h5 (fin y y2) nb
theorem load_glob (B:BF X) {sl:List (Option V)} (W:WRel X T s.heap) (F:FRel X d T ρ env names sl s.heap) (hd:(x == ("__debug__" : Str)) = false) (hi:slotIx x names 0 = none) (hk:kindIx x names = some .globalImplicit) (e1:X.P.glob x = some v) (fin:∀ y,VRel X T ρ v y->Q y s) :
  wpAny (model X.prog X.w) A (eval (.Name x pos) env) Q E s:=by
 obtain ⟨y,hy,rel⟩:=B.glob x v e1
 obtain ⟨mg,hmg⟩:=B.g
 obtain ⟨mb,hmb,hbb⟩:=B.b
 refine Name_function_global F.kind (F.glob x hi hk) ?_ hd
 have rv:=fin y (rel T ρ W.base)
 rcases hy with hy | ⟨hy,hb,hne⟩
 ·exact loadGlobal_global (by rw [F.globals];exact hmg.keeps W.baseGet) (mg_of B.kin hmg hy) rv
 ·exact loadGlobal_builtin (by rw [F.globals];exact hmg.keeps W.baseGet) (mg_none_of B.kin hmg hy) (by rw [F.builtins];exact hmb.keeps W.baseGet) ((hbb x hne).trans hb) rv
end
theorem sim_name (B:BF X) {glob:Str->Option V} (hg:glob = X.P.glob) {x:Str} {pos:Pos} {cx:Cx} (hn:cx.names = names) (hgl:cx.glob = glob):Sim X d r env names A (eval (.Name x pos) env) (eName cx x) (RV X):=by
 intro T ρ s S H v S' e Q hQ
 obtain ⟨hd,e⟩:=in' e
 have hd':(x == ("__debug__" : Str)) = false:=beq_eq_false_iff_ne.mpr hd
 rw [hn] at e
 have fin:S = S'->∀ y,VRel X T ρ v y->Q y s:=fun e y h=>hQ T ρ s.heap s.toks y Ext.refl (List.prefix_refl _) (by rw [← e];exact H) h
 generalize hi:slotIx x names 0 = o at e
 cases o with
 | some i=>
  obtain ⟨hv,z⟩:=var_some e
  exact load_slot H.f hd' hi hv (fin z)
 | none=>
  obtain ⟨hk,e⟩:=im e
  obtain ⟨e1,z⟩:=lift_some e
  rw [hgl,hg] at e1
  exact load_glob B H.w H.f hd' hi (glb_some hk) e1 (fin z)
theorem sim_const {c:Const} {k:Nat} {pos:Pos}:Sim X d r env names A (eval (.Constant c k pos) env) (lift (constV c)) (RV X):=by
 intro T ρ s S H v S' e Q hQ
 obtain ⟨e1,rfl⟩:=lift_some e
 have fin:∀ {tk y},VRel X T ρ v y->Q y { s with toks:=tk }:=fun {tk y} h=>hQ T ρ s.heap tk y Ext.refl (List.prefix_refl _) H h
 cases c with
 | none=>cases e1;exact wpAny_Constant_none (fin (tk:=s.toks) rfl)
 | bool b=>cases e1;exact wpAny_Constant_bool (fin (tk:=s.toks) rfl)
 | int i=>cases e1;exact wpAny_Constant_int (fin ⟨_,rfl⟩)
 | str x=>cases e1;exact wpAny_Constant_str (fin ⟨_,rfl⟩)
 | _=>exact no e1
theorem sizeLine_lim:lim<=sizeLine:=by rw [sizeLine_eq];decide
theorem base_lt {T:TT} {h:Heap} (B:BF X) (W:WRel X T h):(h.objs.size == sysModules) = false:=by
 obtain ⟨mg,o,es,ep,ho,_⟩:=B.g
 have:=Heap.lt_size (W.baseGet _ _ ho)
 rw [beq_eq_false_iff_ne]
 intro z
 rw [z] at this
 revert this
 decide
theorem get_last {ρ:List Addr} {n:Nat} {a:Addr} (h:ρ.length = n):(ρ++[a])[n]? = some a:=by subst h;exact List.getElem?_concat_length
inductive NewI (X:Ctx) (d r:Nat) (env:Env) (names:List (Str × NameKind)) (T:TT) (ρ:List Addr) (h h':Heap) (S':SS) (v:V) (a:Addr):Prop
 | mk (T':TT) (ρ':List Addr) (e:Ext d r T h T' h') (p:ρ <+: ρ') (s:St X d r T' ρ' env names S' h') (q:VRel X T' ρ' v (.ref a))
theorem mkL_post {T:TT} {ρ:List Addr} {h h':Heap} {S S':SS} (H:St X d r T ρ env names S h) {m:Bool} {l:List V} {vs:List Value} {v:V} {c:Nat} {a:Addr} (hv:VRels X T ρ l vs) (e:mkL m l S = some (v,S'))
  (fr:T a = .no) (kp:Keeps' T h h') (ho:h'.get? a = some { cls:=.type "list",data:=.seq vs.toArray c }):NewI X d r env names T ρ h h' S' v a:=by
 obtain ⟨hl,e⟩:=mk_some e
 cases m with
 | false=>
  cases e
  exact ⟨_,ρ,Ext.tset fr kp,List.prefix_refl _,H.newF fr kp ho,hl,_,_,vs,rfl,tset_self,⟨_,rfl⟩,VRels.mono (Grows.tset fr) (List.prefix_refl _) l hv⟩
 | true=>
  cases e
  exact ⟨_,_,Ext.tset fr kp,List.prefix_append _ _,H.newM fr kp ho ⟨hl,_,_,vs,get_last H.o.len,tset_self,ho,⟨_,rfl⟩,VRels.mono (Grows.tset fr) (List.prefix_append _ _) l hv⟩,⟨_,get_last H.o.len,rfl⟩⟩
end
end Mine
end
noncomputable section
open PySem PySem.W PySem.Calls PyProof.Rows PySem.SeqAt
namespace Mine
section
variable {X:Ctx} {d r:Nat} {env:Env} {names:List (Str × NameKind)} {A:Around}
mutual
theorem toPy_reads {T:TT} {ρ:List Addr} {h:Heap} (W:WRel X T h):∀ (v:V) {x:Value} {p:PyData},VRel X T ρ v x->toPy v = some p->∃ as,Reads h x p as
 | .none,_,_,e,q=>by cases q;rw [show _ = Value.none from e];exact ⟨_,.none⟩
 | .bool b,_,_,e,q=>by cases q;rw [show _ = Value.bool b from e];exact ⟨_,.bool b⟩
 | .int i,_,_,⟨t,e⟩,q=>by cases q;rw [e];exact ⟨_,.int i t⟩
 | .str i,_,_,⟨t,e⟩,q=>by cases q;rw [e];exact ⟨_,.str i t⟩
 | .tup l,_,_,⟨_,a,o,vs,e,t,⟨n,q'⟩,b⟩,q=>by
  obtain ⟨ps,q1,q2⟩:=mi q
  obtain ⟨as,ra⟩:=toPys_reads W l b q1
  rw [e,← q2]
  subst q'
  exact ⟨_,.tuple (W.fro _ _ t) rfl rfl ra⟩
 | .lst l,_,_,⟨_,a,o,vs,e,t,⟨n,q'⟩,b⟩,q=>by
  obtain ⟨ps,q1,q2⟩:=mi q
  obtain ⟨as,ra⟩:=toPys_reads W l b q1
  rw [e,← q2]
  subst q'
  exact ⟨_,.list (W.fro _ _ t) rfl rfl ra⟩
 | .dic _ _,_,_,_,q=>no q
 | .ins _ _ _,_,_,_,q=>no q
 | .ref _,_,_,_,q=>no q
 | .st _,_,_,_,q=>no q
theorem toPys_reads {T:TT} {ρ:List Addr} {h:Heap} (W:WRel X T h):∀ (l:List V) {xs:List Value} {ps:List PyData},VRels X T ρ l xs->toPys l = some ps->∃ as,ReadsAll h xs ps as
 | [],_,_,e,q=>by cases q;rw [show _ = [] from e];exact ⟨_,.nil⟩
 | v :: l,_,_,⟨x,xs,e,a,b⟩,q=>by
  obtain ⟨p,h1,q⟩:=bi q
  obtain ⟨ps,h2,q⟩:=bi q
  cases q
  obtain ⟨_,ra⟩:=toPy_reads W v a h1
  obtain ⟨_,rb⟩:=toPys_reads W l b h2
  rw [e]
  exact ⟨_,.cons ra rb⟩
end
inductive ListAt (X:Ctx) (T:TT) (ρ:List Addr) (h:Heap) (l:List V) (x:Value):Prop
 | mk (z:l.length<=lim) (a:Addr) (o:Obj) (vs:List Value) (e:x = .ref a) (q:h.get? a = some o) (s:seqObj "list" o vs) (v:VRels X T ρ l vs)
noncomputable def VAt (X:Ctx) (T:TT) (ρ:List Addr) (h:Heap):V->Value->Prop
 | .lst l,x=>ListAt X T ρ h l x
 | v,x=>VRel X T ρ v x
inductive ListI (X:Ctx) (T:TT) (ρ:List Addr) (h:Heap) (l:List V) (x:Value):Prop
 | mk (a:Addr) (vs:List Value) (e:x = .ref a) (i:h.IsList a vs.toArray) (v:VRels X T ρ l vs) (n:vs.length = l.length) (z:l.length<=lim)
theorem ListAt.isList {T:TT} {ρ:List Addr} {h:Heap} {l:List V} {x:Value} (H:ListAt X T ρ h l x):ListI X T ρ h l x:=by
 obtain ⟨z,a,o,vs,e,q,⟨n,s⟩,v⟩:=H
 subst s
 exact ⟨a,vs,e,⟨_,q,rfl,n,rfl⟩,v,VRels.length l v,z⟩
theorem VRel.at {T:TT} {ρ:List Addr} {h:Heap} (W:WRel X T h) {v:V} {x:Value} (H:VRel X T ρ v x):VAt X T ρ h v x:=by
 cases v with
 | lst l=>obtain ⟨z,a,o,vs,e,t,q,b⟩:=H;exact ⟨z,a,o,vs,e,W.fro _ _ t,q,b⟩
 | _=>exact H
theorem ref_at {T:TT} {ρ:List Addr} {S:SS} {h:Heap} (H:St X d r T ρ env names S h) {n:Nat} {x:Value} {l:List V} (ra:VRel X T ρ (.ref n) x) (e:lref n S.ob = some l):ListAt X T ρ h l x:=by
 obtain ⟨b,e1,e2⟩:=ra
 obtain ⟨z,a',o',vs,q1,q2,q3,q4,q5⟩:=H.o.obj n _ (lref_some e)
 rw [e1] at q1;cases q1
 exact ⟨z,b,o',vs,e2,q3,q4,q5⟩
theorem listOf_at {T:TT} {ρ:List Addr} {S:SS} {h:Heap} (H:St X d r T ρ env names S h) {a:V} {x:Value} {l:List V} (ra:VRel X T ρ a x) (e:listOf a S.ob = some l):ListAt X T ρ h l x:=by
 cases a with
 | lst k=>cases e;exact ra.at H.w
 | ref n=>exact ref_at H ra e
 | _=>exact no e
theorem rd_at {T:TT} {ρ:List Addr} {S:SS} {h:Heap} (H:St X d r T ρ env names S h) {a b:V} {x:Value} (ra:VRel X T ρ a x) (e:rd a S.ob = some b):VAt X T ρ h b x:=by
 have go:a = b->VAt X T ρ h b x:=fun e=>by rw [← e];exact ra.at H.w
 cases a with
 | ref n=>
  obtain ⟨l,q,e⟩:=mi e
  rw [← e]
  exact ref_at H ra q
 | _=>exact go (Option.some.inj e)
structure EqFacts (A:Around) (s:Shared) (x y:Value) (b:Bool):Prop where
 rc:RcAt A s x y b
 ne:RcNeAt A s x y (!b)
theorem eqFacts_reads {s:Shared} {x y:Value} {p q:PyData} {as bs} (rx:Reads s.heap x p as) (ry:Reads s.heap y q bs) (hp:shaped p = true) (hq:shaped q = true) (hu:A.units + 64 < cLine):EqFacts A s x y (PyData.eqv p q):=
 ⟨rcAt_reads rx ry (canLay_of_shaped hp) (canLay_of_shaped hq) (room_of_shaped hp hu),
 fun _ _ _ _ h=>compareNe_reads rx ry (canLay_of_shaped hp) (canLay_of_shaped hq) (room_of_shaped hp hu) h⟩
inductive TupI (X:Ctx) (T:TT) (ρ:List Addr) (h:Heap) (l:List V) (x:Value):Prop
 | mk (a:Addr) (vs:List Value) (e:x = .ref a) (i:h.IsTuple a vs.toArray) (v:VRels X T ρ l vs)
theorem isTuple_of {T:TT} {ρ:List Addr} {h:Heap} (W:WRel X T h) {l:List V} {x:Value} (H:VRel X T ρ (.tup l) x):TupI X T ρ h l x:=by
 obtain ⟨_,a,o,vs,e,t,⟨n,q⟩,b⟩:=H
 subst q
 exact ⟨a,vs,e,⟨_,W.fro _ _ t,rfl,n,rfl⟩,b⟩
inductive DatI (a b:V) (c:Bool):Prop
 | mk (p q:PyData) (h1:toPy a = some p) (h2:toPy b = some q) (h3:shaped p = true) (h4:shaped q = true) (e:c = PyData.eqv p q)
theorem veqD_some {a b:V} {c:Bool} (h:veqD a b = some c):DatI a b c:=by
 obtain ⟨p,h1,h⟩:=bi h
 obtain ⟨q,h2,h⟩:=bi h
 obtain ⟨z,h⟩:=ii h
 cases h
 exact ⟨p,q,h1,h2,(Bool.and_eq_true_iff.mp z).1,(Bool.and_eq_true_iff.mp z).2,rfl⟩
inductive Fla:V->PyData->Prop
 | n:Fla .none .none
 | i (i:Int):Fla (.int i) (.int i)
 | s (x:Str):Fla (.str x) (.str x)
theorem flat_some {v:V} {p:PyData} (h:flt1 v = some p):Fla v p:=by
 cases v with
 | none=>cases h;exact .n
 | int i=>cases h;exact .i i
 | str x=>cases h;exact .s x
 | _=>exact no h
structure Eqs (A:Around) (s:Shared) (x y:Value) (c:Bool):Prop where
 f:EqFacts A s x y c
 e:EqAt A s x y c
theorem fla_eq {T:TT} {ρ:List Addr} {s:Shared} {a b:V} {x y:Value} {p q:PyData} (ra:VAt X T ρ s.heap a x) (rb:VAt X T ρ s.heap b y) (ha:Fla a p) (hb:Fla b q):Eqs A s x y (PyData.eqv p q):=by
 cases ha with
 | n=>
  rw [show x = .none from ra]
  cases hb with
  | n=>rw [show y = .none from rb];exact ⟨⟨.none_none,.none_none⟩,.same _⟩
  | i i=>obtain ⟨u,e⟩:=rb;rw [e];exact ⟨⟨.none_int _ _,.none_int _ _⟩,.none_int _ _⟩
  | s i=>obtain ⟨u,e⟩:=rb;rw [e];exact ⟨⟨.none_str _ _,.none_str _ _⟩,.none_str _ _⟩
 | i i=>
  obtain ⟨t,e⟩:=ra;rw [e]
  cases hb with
  | n=>rw [show y = .none from rb];exact ⟨⟨.int_none _ _,.int_none _ _⟩,.int_none _ _⟩
  | i i=>obtain ⟨u,e⟩:=rb;rw [e];exact ⟨⟨.int_int _ _ _ _,.int_int _ _ _ _⟩,.int_int _ _ _ _⟩
  | s i=>obtain ⟨u,e⟩:=rb;rw [e];exact ⟨⟨.int_str _ _ _ _,.int_str _ _ _ _⟩,.int_str _ _ _ _⟩
 | s x=>
  obtain ⟨t,e⟩:=ra;rw [e]
  cases hb with
  | n=>rw [show y = .none from rb];exact ⟨⟨.str_none _ _,.str_none _ _⟩,.str_none _ _⟩
  | i i=>obtain ⟨u,e⟩:=rb;rw [e];exact ⟨⟨.str_int _ _ _ _,.str_int _ _ _ _⟩,.str_int _ _ _ _⟩
  | s i=>obtain ⟨u,e⟩:=rb;rw [e];exact ⟨⟨.str_str _ _ _ _,.str_str _ _ _ _⟩,.str_str _ _ _ _⟩
inductive VeqS:V->V->Bool->Prop
 | nt (l:List V):VeqS .none (.tup l) false
 | tn (l:List V):VeqS (.tup l) .none false
 | ls (l:List V) (x:Str):VeqS (.lst l) (.str x) false
 | sl (x:Str) (l:List V):VeqS (.str x) (.lst l) false
 | tt (l k:List V) (c:Bool) (h:veqD (.tup l) (.tup k) = some c):VeqS (.tup l) (.tup k) c
theorem veqS_some {a b:V} {c:Bool} (h:veqS a b = some c):VeqS a b c:=by
 cases a with
 | none=>cases b with
  | tup l=>cases h;exact .nt l
  | _=>exact no h
 | tup l=>cases b with
  | tup k=>exact .tt l k c h
  | none=>cases h;exact .tn l
  | _=>exact no h
 | lst l=>cases b with
  | str x=>cases h;exact .ls l x
  | _=>exact no h
 | str x=>cases b with
  | lst l=>cases h;exact .sl x l
  | _=>exact no h
 | _=>exact no h
inductive Veq1 (a b:V) (c:Bool):Prop
 | f (p q:PyData) (ha:Fla a p) (hb:Fla b q) (e:c = PyData.eqv p q)
 | s (h:VeqS a b c)
theorem veq1_some {a b:V} {c:Bool} (h:veq1 a b = some c):Veq1 a b c:=by
 unfold veq1 at h
 cases h1:flt1 a with
 | none=>rw [h1] at h;exact .s (veqS_some h)
 | some p=>
  rw [h1] at h
  dsimp only at h
  cases h2:flt1 b with
  | none=>rw [h2] at h;exact .s (veqS_some h)
  | some q=>rw [h2] at h;cases h;exact .f p q (flat_some h1) (flat_some h2) rfl
theorem reads_eqs {s:Shared} {x y:Value} {p q:PyData} {as bs:List Addr} (rx:Reads s.heap x p as) (ry:Reads s.heap y q bs) (hp:shaped p = true) (hq:shaped q = true) (hu:A.units + 64 < cLine):Eqs A s x y (PyData.eqv p q):=
 ⟨eqFacts_reads rx ry hp hq hu,eqAt_reads _ _ _ _ _ _ _ _ rx ry (canLay_of_shaped hp) (canLay_of_shaped hq) (room_of_shaped hp hu)⟩
theorem veqS_eqs {T:TT} {ρ:List Addr} {s:Shared} (W:WRel X T s.heap) (hu:A.units + 64 < cLine) {a b:V} {x y:Value} {c:Bool} (ra:VAt X T ρ s.heap a x) (rb:VAt X T ρ s.heap b y) (h:VeqS a b c):Eqs A s x y c:=by
 have hu':A.units < cLine:=Nat.lt_of_le_of_lt (Nat.le_add_right _ _) hu
 cases h with
 | nt l=>rw [show x = .none from ra];obtain ⟨_,_,e,q,_⟩:=isTuple_of W rb;rw [e];exact ⟨⟨.none_tuple q hu',.none_tuple q hu'⟩,.none_tuple q hu'⟩
 | tn l=>rw [show y = .none from rb];obtain ⟨_,_,e,q,_⟩:=isTuple_of W ra;rw [e];exact ⟨⟨.tuple_none q hu',.tuple_none q hu'⟩,.tuple_none q hu'⟩
 | ls l k=>obtain ⟨_,_,e,q,_,_,_⟩:=ListAt.isList ra;obtain ⟨u,f⟩:=rb;rw [e,f];exact ⟨⟨.list_str _ _ q hu',.list_str _ _ q hu'⟩,.list_str _ _ q hu'⟩
 | sl k l=>obtain ⟨_,_,e,q,_,_,_⟩:=ListAt.isList rb;obtain ⟨u,f⟩:=ra;rw [e,f];exact ⟨⟨.str_list _ _ q hu',.str_list _ _ q hu'⟩,.str_list _ _ q hu'⟩
 | tt l k c h=>
  obtain ⟨p,q,h1,h2,h3,h4,e⟩:=veqD_some h
  obtain ⟨_,rx⟩:=toPy_reads W _ ra h1
  obtain ⟨_,ry⟩:=toPy_reads W _ rb h2
  rw [e]
  exact reads_eqs rx ry h3 h4 hu
theorem veq1_eqAt {T:TT} {ρ:List Addr} {s:Shared} (W:WRel X T s.heap) (hu:A.units + 64 < cLine) {a b:V} {x y:Value} {c:Bool} (ra:VAt X T ρ s.heap a x) (rb:VAt X T ρ s.heap b y) (h:veq1 a b = some c):Eqs A s x y c:=by
 cases veq1_some h with
 | f p q ha hb e=>rw [e];exact fla_eq ra rb ha hb
 | s h=>exact veqS_eqs W hu ra rb h
theorem listAt_reads {T:TT} {ρ:List Addr} {h:Heap} (W:WRel X T h) {l:List V} {x:Value} {p:PyData} (H:ListAt X T ρ h l x) (e:toPy (.lst l) = some p):∃ as,Reads h x p as:=by
 obtain ⟨_,a,o,vs,e1,q,⟨n,s⟩,b⟩:=H
 obtain ⟨ps,q1,q2⟩:=mi e
 obtain ⟨as,ra⟩:=toPys_reads W l b q1
 rw [e1,← q2]
 subst s
 exact ⟨_,.list q rfl rfl ra⟩
theorem eq_lens {s:Shared} {p q:Addr} {vs ws:List Value} {b:Bool} (hp:s.heap.IsList p vs.toArray) (hq:s.heap.IsList q ws.toArray) (hu:A.units < cLine) (h0:vs = [] ∨ ws = []) (hb:b = decide (vs.length = ws.length)):EqFacts A s (.ref p) (.ref q) b:=by
 subst hb
 by_cases hl:vs.length = ws.length
 ·rw [decide_eq_true hl]
  have hv:vs = []:=by
   rcases h0 with h | h
   ·exact h
   ·rw [h] at hl;exact List.length_eq_zero_iff.mp hl
  subst hv
  have em:∀ j (h1:j < (#[]:Array Value).size) (h2:j < ws.toArray.size),EqAt A.in1 s (#[]:Array Value)[j] ws.toArray[j] true:=fun j h1 _=>absurd h1 (Nat.not_lt_zero j)
  have hz:(#[]:Array Value).size = ws.toArray.size:=hl
  exact ⟨RcAt.lists (e:=fun _=>true) hp hq hz hu em,RcNeAt.lists (e:=fun _=>true) hp hq hz hu em⟩
 ·rw [decide_eq_false hl]
  have hz:(vs.toArray.size != ws.toArray.size) = true:=bne_iff_ne.mpr hl
  exact ⟨RcAt.lists_lengths hp hq hz hu,RcNeAt.lists_lengths hp hq hz hu⟩
theorem veqL_eq {T:TT} {ρ:List Addr} {s:Shared} (W:WRel X T s.heap) (hu:A.units + 64 < cLine) {la lb:List V} {x y:Value} {c:Bool} (ra:ListAt X T ρ s.heap la x) (rb:ListAt X T ρ s.heap lb y) (h:veqL la lb = some c):EqFacts A s x y c:=by
 have hu':A.units < cLine:=Nat.lt_of_le_of_lt (Nat.le_add_right _ _) hu
 have dat:veqD (.lst la) (.lst lb) = some c->EqFacts A s x y c:=fun h=>by
  obtain ⟨p',q',h1,h2,h3,h4,e⟩:=veqD_some h
  obtain ⟨_,rx⟩:=listAt_reads W ra h1
  obtain ⟨_,ry⟩:=listAt_reads W rb h2
  rw [e]
  exact eqFacts_reads rx ry h3 h4 hu
 obtain ⟨p,vs,e,hp,rp,lp,_⟩:=ListAt.isList ra
 obtain ⟨q,ws,f,hq,rq,lq,_⟩:=ListAt.isList rb
 cases la with
 | nil=>
  cases h
  have hv:vs = []:=rp
  rw [e,f]
  exact eq_lens hp hq hu' (.inl hv) (by rw [lp,lq];cases lb <;> rfl)
 | cons a la=>
  cases lb with
  | nil=>
   cases h
   rw [e,f]
   exact eq_lens hp hq hu' (.inr rq) (by rw [lp,lq];rfl)
  | cons b lb=>exact dat h
theorem veq_eq {T:TT} {ρ:List Addr} {s:Shared} (W:WRel X T s.heap) (hu:A.units + 64 < cLine) {a b:V} {x y:Value} {c:Bool} (ra:VAt X T ρ s.heap a x) (rb:VAt X T ρ s.heap b y) (h:veq a b = some c):EqFacts A s x y c:=by
 have one:veq1 a b = some c->EqFacts A s x y c:=fun h=>(veq1_eqAt W hu ra rb h).f
 cases a with
 | lst la=>cases b with
  | lst lb=>exact veqL_eq W hu ra rb h
  | _=>exact one h
 | bool p=>cases b with
  | bool q=>
   obtain ⟨p,q,h1,h2,h3,h4,e⟩:=veqD_some h
   obtain ⟨_,rx⟩:=toPy_reads W _ ra h1
   obtain ⟨_,ry⟩:=toPy_reads W _ rb h2
   rw [e]
   exact eqFacts_reads rx ry h3 h4 hu
  | _=>exact one h
 | _=>exact one h
end
section
variable {X:Ctx} {d r:Nat} {env:Env} {names:List (Str × NameKind)} {A:Around}
theorem Room.units {k:Nat} (h:Room A k):A.units + 120<=cLine:=by have:=h.2.1;omega
inductive DictAt (X:Ctx) (T:TT) (ρ:List Addr) (h:Heap) (ks:List Ky) (l:List V) (x:Value):Prop
 | mk (a:Addr) (o:Obj) (vs:List Value) (e:x = .ref a) (q:h.get? a = some o) (z:(a == sysModules) = false) (d:dictObj X o ks vs) (v:VRels X T ρ l vs)
theorem DictAt.of_dic {T:TT} {ρ:List Addr} {h:Heap} (W:WRel X T h) {ks:List Ky} {l:List V} {x:Value} (H:VRel X T ρ (.dic ks l) x):DictAt X T ρ h ks l x:=by
 obtain ⟨a,o,vs,e,t,z,q,b⟩:=H
 exact ⟨a,o,vs,e,W.fro _ _ t,z,q,b⟩
theorem DictAt.of_ref {T:TT} {ρ:List Addr} {S:SS} {h:Heap} (H:St X d r T ρ env names S h) {n:Nat} {x:Value} {ks:List Ky} {l:List V} (ra:VRel X T ρ (.ref n) x) (e:olook n S.ob = some (.dict ks l)):DictAt X T ρ h ks l x:=by
 obtain ⟨b,e1,e2⟩:=ra
 obtain ⟨a',o',vs,q1,q2,q3,z,q4,q5⟩:=H.o.obj n _ e
 rw [e1] at q1;cases q1
 exact ⟨b,o',vs,e2,q3,z,q4,q5⟩
theorem zip_fst {α β:Type}:∀ {ks:List α} {vs:List β},ks.length = vs.length->(ks.zip vs).map (·.1) = ks
 | [],_,_=>by simp
 | k :: ks,[],h=>by simp at h
 | k :: ks,v :: vs,h=>by simp only [List.zip_cons_cons,List.map_cons];rw [zip_fst (by simpa using h)]
inductive DictI (X:Ctx) (T:TT) (ρ:List Addr) (h:Heap) (ks:List Ky) (l:List V) (x:Value):Prop
 | mk (a:Addr) (vs:List Value) (e:x = .ref a) (z:(a == sysModules) = false) (d:h.DictOf (kyKind X.prog X.w) a (ks.zip vs)) (n:ks.length = vs.length) (v:VRels X T ρ l vs)
theorem DictAt.dictOf {T:TT} {ρ:List Addr} {h:Heap} {ks:List Ky} {l:List V} {x:Value} (H:DictAt X T ρ h ks l x):DictI X T ρ h ks l x:=by
 obtain ⟨a,o,vs,e,q,z,⟨hl,h1,es,ep,h2,h3,h4,h5⟩,b⟩:=H
 exact ⟨a,vs,e,z,⟨o,es,ep,q,h1,h2,h3,h4,by rw [zip_fst hl];exact h5⟩,hl,b⟩
theorem key_is {T:TT} {ρ:List Addr} {v:V} {x:Value} {k:Ky} (hr:VRel X T ρ v x) (e:keyOf v = some k):(kyKind X.prog X.w).is k x = true:=by
 cases v with
 | int i=>obtain ⟨t,h⟩:=hr;rw [h,← Option.some.inj e];exact beq_self_eq_true i
 | str i=>obtain ⟨t,h⟩:=hr;rw [h,← Option.some.inj e];exact beq_self_eq_true i
 | _=>exact no e
theorem valueAt_dlook {T:TT} {ρ:List Addr} (k:Ky):∀ {ks:List Ky} {l:List V} {vs:List Value},ks.length = vs.length->VRels X T ρ l vs ->
  match dlook k ks l with
  | some v=>∃ x,valueAt (ks.zip vs) k = some x/\VRel X T ρ v x
  | none=>valueAt (ks.zip vs) k = none
 | [],l,vs,h,_=>by simp [dlook,valueAt]
 | a :: ks,l,[],h,_=>by simp at h
 | a :: ks,[],x :: vs,h,q=>by cases q
 | a :: ks,v :: l,x :: vs,h,⟨x',xs,e,p,q⟩=>by
  cases e
  unfold dlook valueAt
  by_cases z:a = k
  ·rw [if_pos z];exact ⟨x,by simp [z],p⟩
  ·rw [if_neg z]
   have ih:=valueAt_dlook k (ks:=ks) (l:=l) (vs:=vs) (by simpa using h) q
   simpa [z,valueAt] using ih
theorem valueAt_isSome (k:Ky):∀ {ks:List Ky} {vs:List Value},ks.length = vs.length->(valueAt (ks.zip vs) k).isSome = ks.contains k
 | [],vs,h=>by simp [valueAt]
 | a :: ks,[],h=>by simp at h
 | a :: ks,x :: vs,h=>by
  have ih:=valueAt_isSome k (ks:=ks) (vs:=vs) (by simpa using h)
  unfold valueAt at ih ⊢
  by_cases z:a = k
  ·simp [z]
  ·have z':(k == a) = false:=by rw [beq_eq_false_iff_ne];exact fun e=>z e.symm
   simp only [List.zip_cons_cons,List.find?_cons,z,decide_false,List.contains_cons,z',Bool.false_or]
   exact ih
noncomputable def alone:Value->Option V
 | .none=>some .none
 | .int i _=>some (.int i)
 | .str x _=>some (.str x)
 | _=>none
noncomputable def SeqZ (T:TT) (ty:String) (z:Value):Prop:=∃ a o vs,z = .ref a/\T a = .fro o/\seqObj ty o vs
inductive KindI (T:TT) (y:V) (z:Value):Prop
 | f (e:alone z = some y)
 | t (l:List V) (e:y = .tup l) (h:SeqZ T "tuple" z)
 | l (l:List V) (e:y = .lst l) (h:SeqZ T "list" z)
theorem kind_of {T:TT} {ρ:List Addr} {y x:V} {z:Value} {b:Bool} (hy:VRel X T ρ y z) (h:veq1 y x = some b):KindI T y z:=by
 cases veq1_some h with
 | f p q ha hb e=>
  cases ha with
  | n=>rw [show z = .none from hy];exact .f rfl
  | i i=>obtain ⟨t,e⟩:=hy;rw [e];exact .f rfl
  | s i=>obtain ⟨t,e⟩:=hy;rw [e];exact .f rfl
 | s h=>
  cases h with
  | nt l=>rw [show z = .none from hy];exact .f rfl
  | sl i l=>obtain ⟨t,e⟩:=hy;rw [e];exact .f rfl
  | tn l=>obtain ⟨_,a,o,vs,e,t,q,_⟩:=hy;exact .t l rfl ⟨a,o,vs,e,t,q⟩
  | tt l k c h=>obtain ⟨_,a,o,vs,e,t,q,_⟩:=hy;exact .t l rfl ⟨a,o,vs,e,t,q⟩
  | ls l x=>obtain ⟨_,a,o,vs,e,t,q,_⟩:=hy;exact .l l rfl ⟨a,o,vs,e,t,q⟩
theorem seqZ_not {T:TT} {z:Value} (h:SeqZ T "tuple" z) (k:SeqZ T "list" z):False:=by
 obtain ⟨a,o,vs,e,t,⟨n,q⟩⟩:=h
 obtain ⟨a',o',vs',e',t',⟨n',q'⟩⟩:=k
 cases e.symm.trans e'
 cases t.symm.trans t'
 exact absurd (show Value.type "tuple" = Value.type "list" from congrArg Obj.cls (q.symm.trans q')) (by decide)
theorem seqZ_ref {T:TT} {ty:String} {z:Value} (h:SeqZ T ty z):alone z = none:=by
 obtain ⟨a,o,vs,e,_,_⟩:=h;rw [e];rfl
theorem veqD_fun {T:TT} {ρ:List Addr} {h₀:Heap} (W:WRel X T h₀) {y y' x:V} {z:Value} {b b':Bool} (hy:VRel X T ρ y z) (hy':VRel X T ρ y' z) (h:veqD y x = some b) (h':veqD y' x = some b'):b = b':=by
 obtain ⟨p,q,h1,h2,h3,_,e⟩:=veqD_some h
 obtain ⟨p',q',h1',h2',_,_,e'⟩:=veqD_some h'
 obtain ⟨_,r1⟩:=toPy_reads W _ hy h1
 obtain ⟨_,r2⟩:=toPy_reads W _ hy' h1'
 rw [e,e',Option.some.inj (h2.symm.trans h2'),Reads.unique _ _ _ _ _ (canLay_of_shaped h3) r1 r2]
theorem veq1_fun {T:TT} {ρ:List Addr} {h₀:Heap} (W:WRel X T h₀) {y y' x:V} {z:Value} {b b':Bool} (hy:VRel X T ρ y z) (hy':VRel X T ρ y' z) (h:veq1 y x = some b) (h':veq1 y' x = some b'):b = b':=by
 cases kind_of hy h with
 | f e=>
  cases kind_of hy' h' with
  | f e'=>rw [Option.some.inj (e.symm.trans e')] at h;exact Option.some.inj (h.symm.trans h')
  | t l' e' g=>exact no ((seqZ_ref g).symm.trans e)
  | l l' e' g=>exact no ((seqZ_ref g).symm.trans e)
 | t l e g=>
  cases kind_of hy' h' with
  | f e'=>exact no ((seqZ_ref g).symm.trans e')
  | l l' e' g'=>exact (seqZ_not g g').elim
  | t l' e' g'=>
   subst e e'
   cases x with
   | none=>exact Option.some.inj (h.symm.trans h')
   | tup k=>exact veqD_fun W hy hy' h h'
   | _=>exact no h
 | l l e g=>
  cases kind_of hy' h' with
  | f e'=>exact no ((seqZ_ref g).symm.trans e')
  | t l' e' g'=>exact (seqZ_not g' g).elim
  | l l' e' g'=>
   subst e e'
   cases x with
   | str k=>exact Option.some.inj (h.symm.trans h')
   | _=>exact no h
open Classical in
noncomputable def eqTo (X:Ctx) (T:TT) (ρ:List Addr) (x:V) (z:Value):Bool:=decide (∃ y,VRel X T ρ y z/\veq1 y x = some true)
theorem eqTo_eq {T:TT} {ρ:List Addr} {h₀:Heap} (W:WRel X T h₀) {y x:V} {z:Value} {b:Bool} (hy:VRel X T ρ y z) (h:veq1 y x = some b):eqTo X T ρ x z = b:=by
 unfold eqTo
 cases b with
 | true=>exact @decide_eq_true _ (Classical.propDecidable _) ⟨y,hy,h⟩
 | false=>exact @decide_eq_false _ (Classical.propDecidable _) fun ⟨y',hy',h'⟩=>by have:=veq1_fun W hy hy' h h';cases this
inductive AnyI (X:Ctx) (A:Around) (T:TT) (ρ:List Addr) (s:Shared) (x:V) (xv:Value) (vs:List Value) (c:Bool):Prop
 | mk (h:∀ y ∈ vs,EqAt A.in1 s y xv (eqTo X T ρ x y)) (e:vs.any (eqTo X T ρ x) = c)
theorem anyEq_any {T:TT} {ρ:List Addr} {s:Shared} (W:WRel X T s.heap) (hu:A.in1.units + 64 < cLine) {x:V} {xv:Value} (rx:VRel X T ρ x xv):∀ {l:List V} {vs:List Value} {c:Bool},VRels X T ρ l vs->anyEq x l = some c->AnyI X A T ρ s x xv vs c:=by
 intro l
 induction l with
 | nil=>intro vs c rv h;rw [show vs = [] from rv];exact ⟨(fun _ hy=>nomatch hy),Option.some.inj h⟩
 | cons y l ih=>
  intro vs c rv h
  obtain ⟨yv,ys,e,ry,rl⟩:=rv
  obtain ⟨b,h1,h⟩:=bi h
  obtain ⟨b',h2,h⟩:=bi h
  obtain ⟨hf,hc⟩:=ih rl h2
  have E1:=(veq1_eqAt (A:=A.in1) W hu (ry.at W) (rx.at W) h1).e
  have q:=eqTo_eq W ry h1
  refine ⟨fun z hz=>?_,by rw [e,List.any_cons,hc,q];exact Option.some.inj h⟩
  rw [e] at hz
  rcases List.mem_cons.mp hz with hz | hz
  ·rw [hz,q];exact E1
  ·exact hf z hz
theorem int_of {T:TT} {ρ:List Addr} {a:V} {x:Value} {i:Int} (ha:a = .int i) (h:VRel X T ρ a x):∃ t,x = .int i t:=by rw [ha] at h;exact h
structure InW (X:Ctx) (A:Around) (s:Shared) (x y:Value) (b:Bool):Prop where
 i:∀ {E} {Q:Value->Shared->Prop},(∀ tk,Q (.bool b) { s with toks:=tk })->wpAny (model X.prog X.w) A (compareOp .In x y) Q E s
 n:∀ {E} {Q:Value->Shared->Prop},(∀ tk,Q (.bool (!b)) { s with toks:=tk })->wpAny (model X.prog X.w) A (compareOp .NotIn x y) Q E s
theorem in_dict {T:TT} {ρ:List Addr} {s:Shared} {a:V} {x y:Value} {b:Bool} {ks:List Ky} {l:List V} (ra:VRel X T ρ a x) (D:DictAt X T ρ s.heap ks l y) (h:(keyOf a).map (fun k=>ks.contains k) = some b):InW X A s x y b:=by
 obtain ⟨k,hk,e⟩:=mi h
 obtain ⟨p,vs,f,z,D',hl,_⟩:=D.dictOf
 subst e f
 have hkey:=key_is (X:=X) ra hk
 exact ⟨fun hQ=>wpAny_in_of hkey z D'.mapOf (by rw [valueAt_isSome k hl];exact hQ _),fun hQ=>wpAny_notIn_of hkey z D'.mapOf (by rw [valueAt_isSome k hl];exact hQ _)⟩
theorem any_arr {p:Value->Bool} {l:List Value}:l.toArray.any p = l.any p:=List.any_toArray
theorem mem_arr {y:Value} {l:List Value} (h:y ∈ l.toArray):y ∈ l:=List.mem_toArray.mp h
theorem in_list {T:TT} {ρ:List Addr} {s:Shared} (W:WRel X T s.heap) (hu:A.in1.units + 64 < cLine) {a:V} {x y:Value} {b:Bool} {l:List V} (ra:VRel X T ρ a x) (L:ListAt X T ρ s.heap l y) (h:anyEq a l = some b):InW X A s x y b:=by
 obtain ⟨p,vs,e,hp,rv,_,_⟩:=L.isList
 obtain ⟨h1,f⟩:=anyEq_any W hu ra rv h
 subst e
 refine ⟨fun hQ=>in_listAt (eqTo X T ρ a) hp (fun y hy=>h1 y (mem_arr hy)) ?_,fun hQ=>notIn_listAt (eqTo X T ρ a) hp (fun y hy=>h1 y (mem_arr hy)) ?_⟩
 ·rw [any_arr,f];exact hQ s.toks
 ·rw [any_arr,f];exact hQ s.toks
theorem in_tup {T:TT} {ρ:List Addr} {s:Shared} (W:WRel X T s.heap) (hu:A.in1.units + 64 < cLine) {a:V} {x y:Value} {b:Bool} {l:List V} (ra:VRel X T ρ a x) (rc:VRel X T ρ (.tup l) y) (h:anyEq a l = some b):InW X A s x y b:=by
 obtain ⟨p,vs,e,hp,rv⟩:=isTuple_of W rc
 obtain ⟨h1,f⟩:=anyEq_any W hu ra rv h
 subst e
 refine ⟨fun hQ=>in_tupleAt (eqTo X T ρ a) hp (fun y hy=>h1 y (mem_arr hy)) ?_,fun hQ=>notIn_tupleAt (eqTo X T ρ a) hp (fun y hy=>h1 y (mem_arr hy)) ?_⟩
 ·rw [any_arr,f];exact hQ s.toks
 ·rw [any_arr,f];exact hQ s.toks
theorem isIn_wp {T:TT} {ρ:List Addr} {s:Shared} {S:SS} (H:St X d r T ρ env names S s.heap) (hu:A.in1.units + 64 < cLine) {a c:V} {x y:Value} {b:Bool} (ra:VRel X T ρ a x) (rc:VRel X T ρ c y) (h:isIn a c S.ob = some b):InW X A s x y b:=by
 cases c with
 | tup l=>exact in_tup H.w hu ra rc h
 | lst l=>exact in_list H.w hu ra (rc.at H.w) h
 | dic ks l=>exact in_dict ra (.of_dic H.w rc) h
 | ref n=>
  obtain ⟨o,ho,h⟩:=bi h
  cases o with
  | list l=>exact in_list H.w hu ra (ref_at H rc (by unfold lref;rw [ho];rfl)) h
  | dict ks l=>exact in_dict ra (.of_ref H rc ho) h
  | inst c ns l=>exact no h
 | _=>exact no h
theorem eqOb_facts {T:TT} {ρ:List Addr} {s:Shared} {S:SS} (H:St X d r T ρ env names S s.heap) (hu:A.units + 64 < cLine) {a c:V} {x y:Value} {b:Bool} (ra:VRel X T ρ a x) (rc:VRel X T ρ c y) (h:eqOb a c S.ob = some b):EqFacts A s x y b:=by
 obtain ⟨p,h1,h⟩:=bi h
 obtain ⟨q,h2,h⟩:=bi h
 exact veq_eq H.w hu (rd_at H ra h1) (rd_at H rc h2) h
inductive Ints (X:Ctx) (T:TT) (ρ:List Addr) (x y:Value) (f:Int->Int->Bool) (b:Bool):Prop
 | mk (i j:Int) (t u:Tok) (e:x = .int i t) (k:y = .int j u) (h:f i j = b)
theorem ints_of {T:TT} {ρ:List Addr} {a c:V} {x y:Value} {f:Int->Int->Bool} {b:Bool} (ra:VRel X T ρ a x) (rc:VRel X T ρ c y) (h:(int1 a fun i=>int1 c fun j=>some (f i j)) = some b):Ints X T ρ x y f b:=by
 obtain ⟨i,e,h⟩:=i1 h
 obtain ⟨j,k,h⟩:=i1 h
 obtain ⟨t,e⟩:=int_of e ra
 obtain ⟨u,k⟩:=int_of k rc
 exact ⟨i,j,t,u,e,k,Option.some.inj h⟩
theorem is_plain {T:TT} {ρ:List Addr} {a:V} {x:Value} {b:Bool} (ra:VRel X T ρ a x) (h:isNone a = some b):plainIs x .none = true/\(x == Value.none) = b:=by
 cases a with
 | none=>rw [show x = .none from ra];exact ⟨rfl,Option.some.inj h⟩
 | int i=>obtain ⟨t,e⟩:=ra;rw [e];exact ⟨rfl,Option.some.inj h⟩
 | str i=>obtain ⟨t,e⟩:=ra;rw [e];exact ⟨rfl,Option.some.inj h⟩
 | tup i=>obtain ⟨_,p,o,vs,e,_,_,_⟩:=ra;rw [e];exact ⟨rfl,Option.some.inj h⟩
 | lst i=>obtain ⟨_,p,o,vs,e,_,_,_⟩:=ra;rw [e];exact ⟨rfl,Option.some.inj h⟩
 | _=>exact no h
theorem cmp_wp {T:TT} {ρ:List Addr} {s:Shared} {S:SS} (H:St X d r T ρ env names S s.heap) (hu:A.units + 120<=cLine) {op:CmpOp} {a c:V} {x y:Value} {b:Bool} (ra:VRel X T ρ a x) (rc:VRel X T ρ c y) (h:cmpv op a c S.ob = some b)
  {E:Value->Shared->Prop} {Q:Value->Shared->Prop} (hQ:∀ tk,Q (.bool b) { s with toks:=tk }):wpAny (model X.prog X.w) A (compareOp op x y) Q E s:=by
 have hu2:A.units + 64 < cLine:=by omega
 have hu1:A.in1.units + 64 < cLine:=by rw [Around.in1_units];omega
 have hQ0:Q (.bool b) s:=hQ s.toks
 cases op with
 | Eq=>exact cmp_ofEq ((eqOb_facts H hu2 ra rc h).rc _ _ _ _ hQ0)
 | NotEq=>
  obtain ⟨b',h3,e⟩:=mi h
  subst e
  exact cmp_ofNotEq ((eqOb_facts H hu2 ra rc h3).ne _ _ _ _ hQ0)
 | In=>exact (isIn_wp H hu1 ra rc h).i hQ
 | NotIn=>
  obtain ⟨b',h3,e⟩:=mi h
  subst e
  exact (isIn_wp H hu1 ra rc h3).n hQ
 | Lt=>obtain ⟨i,j,t,u,e,k,z⟩:=ints_of ra rc h;subst e k z;exact PyProof.Rows.lt_int hQ0
 | LtE=>obtain ⟨i,j,t,u,e,k,z⟩:=ints_of ra rc h;subst e k z;exact PyProof.Rows.le_int hQ0
 | Gt=>obtain ⟨i,j,t,u,e,k,z⟩:=ints_of ra rc h;subst e k z;exact PyProof.Rows.gt_int hQ0
 | GtE=>obtain ⟨i,j,t,u,e,k,z⟩:=ints_of ra rc h;subst e k z;exact PyProof.Rows.ge_int hQ0
 | Is=>
  cases c with
  | none=>
   rw [show y = .none from rc]
   obtain ⟨h1,h2⟩:=is_plain ra h
   exact wpAny_is_plain h1 (by rw [h2];exact hQ0)
  | _=>exact no h
 | IsNot=>
  cases c with
  | none=>
   rw [show y = .none from rc]
   obtain ⟨b',h3,e⟩:=mi h
   obtain ⟨h1,h2⟩:=is_plain ra h3
   exact wpAny_isNot_plain h1 (by rw [h2,e];exact hQ0)
  | _=>exact no h
end
section
variable {X:Ctx} {d r:Nat} {env:Env} {names:List (Str × NameKind)} {A:Around}
noncomputable def Cont (X:Ctx) (d r:Nat) (env:Env) (names:List (Str × NameKind)) (T:TT) (ρ:List Addr) (s:Shared) (S':SS) {α β:Type} (R:TT->List Addr->α->β->Prop) (v:α) (Q:β->Shared->Prop):Prop:=
 ∀ T' ρ' h' tk' y,Ext d r T s.heap T' h'->ρ <+: ρ'->St X d r T' ρ' env names S' h'->R T' ρ' v y->Q y { s with heap:=h',toks:=tk' }
theorem Cont.here {T:TT} {ρ:List Addr} {s:Shared} {S:SS} {α β:Type} {R:TT->List Addr->α->β->Prop} {v:α} {Q:β->Shared->Prop} (c:Cont X d r env names T ρ s S R v Q) (H:St X d r T ρ env names S s.heap) {y:β} {tk:Nat} (hr:R T ρ v y) :
  Q y { s with toks:=tk }:=c T ρ s.heap tk y Ext.refl (List.prefix_refl _) H hr
theorem Cont.mkL {T:TT} {ρ:List Addr} {s:Shared} {S S':SS} (H:St X d r T ρ env names S s.heap) {m:Bool} {l:List V} {vs:List Value} {v:V} {c tk:Nat} {h':Heap} {a:Addr} {Q:Value->Shared->Prop} (hQ:Cont X d r env names T ρ s S' (RV X) v Q)
  (hv:VRels X T ρ l vs) (e:mkL m l S = some (v,S')) (fr:T a = .no) (kp:Keeps' T s.heap h') (ho:h'.get? a = some { cls:=.type "list",data:=.seq vs.toArray c }):Q (.ref a) { s with heap:=h',toks:=tk }:=by
 obtain ⟨T',ρ',e1,e2,e3,e4⟩:=mkL_post H hv e fr kp ho
 exact hQ T' ρ' h' tk _ e1 e2 e3 e4
theorem Cont.same {T:TT} {ρ:List Addr} {s:Shared} {S S':SS} {v w:V} {Q:Value->Shared->Prop} (c:Cont X d r env names T ρ s S' (RV X) v Q) (H:St X d r T ρ env names S s.heap) (e:(w,S) = (v,S')) {y:Value} {tk:Nat} (hr:VRel X T ρ w y):Q y { s with toks:=tk }:=by
 cases e
 exact c.here H hr
theorem bits_small {x:Int} (h1:-big < x) (h2:x < big):x.natAbs < 2 ^ 60:=by unfold big at h1 h2;omega
theorem mul_small {x y:Int} (h1:-big < x) (h2:x < big):IntMulOk x y:=by
 refine IntMulOk.of_left ?_
 unfold Builtin.Int.intBits
 by_cases q:(x == 0) = true
 ·rw [if_pos q];exact Nat.le_of_ble_eq_true rfl
 ·rw [if_neg q]
  have:=(Nat.log2_lt (fun z=>q (beq_iff_eq.mpr (Int.natAbs_eq_zero.mp z)))).mpr (bits_small h1 h2)
  exact Nat.le_trans (Nat.succ_le_of_lt this) (Nat.le_of_ble_eq_true rfl)
theorem bin_int {x y z:Int} {t u:Tok} {op:Operator} {s:Shared} {E Q:Value->Shared->Prop} (h:arith op x y = some z) (fin:Q (.int z s.toks) { s with toks:=s.toks + 1 }):wpAny (model X.prog X.w) A (binaryOp op (.int x t) (.int y u)) Q E s:=by
 cases op with
 | Add=>rw [← Option.some.inj h] at fin;exact PyProof.Rows.add_int fin
 | Sub=>rw [← Option.some.inj h] at fin;exact PyProof.Rows.sub_int fin
 | Mult=>
  obtain ⟨⟨h1,h2,h3,h4⟩,h⟩:=ii h
  rw [← Option.some.inj h] at fin
  exact PyProof.Rows.mul_int fin (mul_small h1 h2)
 | FloorDiv=>
  obtain ⟨⟨h1,h2⟩,h⟩:=ii h
  rw [← Option.some.inj h] at fin
  refine PyProof.Rows.floordiv_int (Int.ne_of_gt h1) ?_ (.inl (PyProof.noPylong_small (by omega)))
  rw [Int.fdiv_eq_ediv_of_nonneg _ (Int.le_of_lt h1)];exact fin
 | Mod=>
  obtain ⟨h1,h⟩:=ii h
  rw [← Option.some.inj h] at fin
  refine PyProof.Rows.mod_int (Int.ne_of_gt h1) ?_
  rw [Int.fmod_eq_emod_of_nonneg _ (Int.le_of_lt h1)];exact fin
 | _=>exact no h
theorem len_lim {T:TT} {ρ:List Addr} {l:List V} {vs:List Value} (h:VRels X T ρ l vs) (hl:l.length<=lim):vs.length<=sizeLine:=VRels.length l h ▸ Nat.le_trans hl sizeLine_lim
theorem bin_list {T:TT} {ρ:List Addr} {s:Shared} {S S':SS} (H:St X d r T ρ env names S s.heap) {m:Bool} {p q:List V} {x y:Value} {v:V} {E Q:Value->Shared->Prop} (hQ:Cont X d r env names T ρ s S' (RV X) v Q) (La:ListAt X T ρ s.heap p x) (Lb:ListAt X T ρ s.heap q y)
  (e:mkL m (p++q) S = some (v,S')):wpAny (model X.prog X.w) A (binaryOp .Add x y) Q E s:=by
 obtain ⟨_,a1,o1,vs,e1,g1,⟨n1,f1⟩,r1⟩:=La
 obtain ⟨_,a2,o2,ws,e2,g2,⟨n2,f2⟩,r2⟩:=Lb
 subst e1 f1 e2 f2
 have r3:=VRels.append p q r1 r2
 refine concat_meets ⟨_,g1,rfl⟩ ⟨_,g2,rfl⟩ noFill_list_add seq_list_add PySem.F.slot_list_add PySem.F.entry_list_add (PySem.F.args_list_add_2 _ _) (list_addW a1 a2 vs.toArray ws.toArray n1 n2 none none #[] #[] ?_) ⟨g1,g2,?_⟩
 ·have:=len_lim r3 (mk_some e).1
  rwa [List.length_append] at this
 ·rw [show vs.toArray++ws.toArray = (vs++ws).toArray from List.append_toArray _ _]
  exact Cont.mkL (tk:=s.toks) H hQ r3 e H.w.fresh (Keeps'.push H.w _) (Heap.get?_push_size _ rfl)
theorem sim_bin {T:TT} {ρ:List Addr} {s:Shared} {S:SS} (H:St X d r T ρ env names S s.heap) {m:Bool} {op:Operator} {a b:V} {x y:Value} (ra:VRel X T ρ a x) (rb:VRel X T ρ b y) :
  SimAt X d r env names A T ρ s S (binaryOp op x y) (bin m op a b) (RV X):=by
 intro v S' e Q hQ
 unfold bin at e
 generalize h:(int1 a fun x=>int1 b fun y=>some (arith op x y)) = o at e
 cases o with
 | none=>
  cases op with
  | Add=>
   obtain ⟨p,h1,e⟩:=bi e
   obtain ⟨q,h2,e⟩:=bi e
   exact bin_list H hQ (listOf_at H ra h1) (listOf_at H rb h2) e
  | _=>exact no e
 | some z=>
  obtain ⟨i,ea,h⟩:=i1 h
  obtain ⟨j,eb,h⟩:=i1 h
  obtain ⟨w,hw,e⟩:=mi e
  obtain ⟨t,ea⟩:=int_of ea ra
  obtain ⟨u,eb⟩:=int_of eb rb
  rw [ea,eb]
  exact bin_int ((Option.some.inj h).trans hw) (Cont.same (tk:=s.toks + 1) hQ H e ⟨_,rfl⟩)
inductive PlaceI (k:Int) (n j:Nat):Prop
 | p (a:j < n) (h:0<=k) (e:k.toNat = j)
 | m (a:j < n) (h:k < 0) (l:-(n:Int)<=k) (e:(k + n).toNat = j)
theorem place_some {k:Int} {n j:Nat} (h:place k n = some j):PlaceI k n j:=by
 unfold place at h
 by_cases h0:0<=k
 ·rw [if_pos h0] at h
  obtain ⟨q,h⟩:=ii h
  exact .p (by rw [← Option.some.inj h];omega) h0 (Option.some.inj h)
 ·rw [if_neg h0] at h
  obtain ⟨q,h⟩:=ii h
  exact .m (by rw [← Option.some.inj h];omega) (Int.not_le.mp h0) q (Option.some.inj h)
theorem lim_fits {n:Nat} {k:Int} (h:n<=lim) (l:k < n):k < 2 ^ 63:=by unfold lim at h;omega
theorem getArr {l:List Value} {i:Nat} {y:Value} (h:l[i]? = some y):l.toArray[i]? = some y:=(List.getElem?_toArray).trans h
theorem list_item {T:TT} {ρ:List Addr} {s:Shared} {l:List V} {x:Value} (L:ListAt X T ρ s.heap l x) {k:Int} {t:Tok} {v:V} (e:(place k l.length).bind (fun j=>l[j]?) = some v)
  {value slice:Expr} (hs:subscripted slice false x (.int k t) = operate [x,.int k t] (getItem x (.int k t))) {E:Value->Shared->Prop} {Q:Value->Shared->Prop} (hQ:∀ y,VRel X T ρ v y->Q y s):wpAny (model X.prog X.w) A (subscriptTail value slice x (.int k t)) Q E s:=by
 obtain ⟨a,vs,f,hl,rv,len,lm⟩:=L.isList
 obtain ⟨j,hj,hv⟩:=bi e
 obtain ⟨y,hy,ry⟩:=VRels.get l rv j v hv
 subst f
 refine tail_any hl.typeIs slot_list_getitem.lookup ?_ hs
 have e2:(vs.toArray.size:Int) = l.length:=congrArg Nat.cast len
 cases place_some hj with
 | p lt h0 h1=>exact wpAny_getItem_list hl h0 (lim_fits lm (by omega)) (by rw [h1];exact getArr hy) (hQ y ry)
 | m lt h0 h1 h2=>
  unfold lim at lm
  exact wpAny_getItem_list_neg hl h0 (by omega) (by omega) (by rw [e2,h2];exact getArr hy) (hQ y ry)
theorem dict_item {T:TT} {ρ:List Addr} {s:Shared} {ks:List Ky} {l:List V} {x:Value} (D:DictAt X T ρ s.heap ks l x) {i v:V} {y:Value} (ri:VRel X T ρ i y) (e:(keyOf i).bind (fun k=>dlook k ks l) = some v)
  {value slice:Expr} (hs:subscripted slice false x y = operate [x,y] (getItem x y)) {E:Value->Shared->Prop} {Q:Value->Shared->Prop} (hQ:∀ z tk,VRel X T ρ v z->Q z { s with toks:=tk }):wpAny (model X.prog X.w) A (subscriptTail value slice x y) Q E s:=by
 obtain ⟨a,vs,f,z,D',hl,rv⟩:=D.dictOf
 obtain ⟨k,hk,hv⟩:=bi e
 have q:=valueAt_dlook (X:=X) (T:=T) (ρ:=ρ) k hl rv
 rw [hv] at q
 obtain ⟨w,h1,h2⟩:=q
 subst f
 exact tail_any D'.typeIs PySem.F.slot_dict_getitem.lookup (wpAny_getItem_of (key_is ri hk) D'.mapOf h1 (hQ w _ h2)) hs
theorem seqIx {k:Int} {n:Nat} (h0:0<=k) (hn:k < n):seqIndex? k n = some k.toNat:=by
 unfold seqIndex?
 have h1:¬ k < 0:=Int.not_lt.mpr h0
 simp only [h1,if_false,h0,hn,decide_true,Bool.and_self,if_true]
section
variable {T:TT} {ρ:List Addr} {s:Shared} {S S':SS} {v:V} {y:Value} {value slice:Expr} {Q E:Value->Shared->Prop}
theorem sub_str (H:St X d r T ρ env names S s.heap) {b:V} {p:Str} {t:Tok} (rb:VRel X T ρ b y) (hs:∀ x y,subscripted slice false x y = operate [x,y] (getItem x y)) (e:sub (.str p) b S = some (v,S')) (hQ:Cont X d r env names T ρ s S' (RV X) v Q) :
  wpAny (model X.prog X.w) A (subscriptTail value slice (.str p t) y) Q E s:=by
 obtain ⟨k,ek,e⟩:=i1 e
 obtain ⟨⟨h0,h9⟩,e⟩:=ii e
 obtain ⟨w,hw,e⟩:=mi e
 obtain ⟨c,hc,e'⟩:=mi hw
 obtain ⟨u,eu⟩:=int_of ek rb
 subst eu e'
 have hlt:k.toNat < p.cps.size:=(Array.getElem?_eq_some_iff.mp hc).1
 have hk:k < p.length:=by unfold PySem.Str.length;omega
 refine tail_any (typeIs_str s p t) PySem.F.slot_str_getitem.lookup (PyProof.Rows.getItem_str (c:=c) ?_ ?_ (Cont.same hQ H e ⟨_,rfl⟩)) (hs _ _)
 ·rw [decide_eq_false (by omega),decide_eq_false (by unfold big at h9;omega)];rfl
 ·rw [seqIx h0 hk];exact hc
theorem sub_tup (H:St X d r T ρ env names S s.heap) {l:List V} {b:V} {x:Value} (ra:VRel X T ρ (.tup l) x) (rb:VRel X T ρ b y) (hs:∀ x y,subscripted slice false x y = operate [x,y] (getItem x y)) (e:sub (.tup l) b S = some (v,S')) (hQ:Cont X d r env names T ρ s S' (RV X) v Q) :
  wpAny (model X.prog X.w) A (subscriptTail value slice x y) Q E s:=by
 obtain ⟨k,ek,e⟩:=i1 e
 obtain ⟨h0,e⟩:=ii e
 obtain ⟨w,hw,e⟩:=mi e
 obtain ⟨u,eu⟩:=int_of ek rb
 obtain ⟨lm,p,o,vs,f,ht,⟨n,g⟩,rv⟩:=ra
 obtain ⟨z,hz,rz⟩:=VRels.get l rv _ _ hw
 subst eu f g
 have ho:=H.w.fro _ _ ht
 have hlt:k.toNat < vs.length:=(List.getElem?_eq_some_iff.mp hz).1
 have hk:k < vs.length:=by omega
 have hf:=lim_fits (VRels.length l rv ▸ lm) hk
 exact tail_any ⟨_,ho,rfl⟩ PySem.F.slot_tuple_getitem.lookup (PyProof.Rows.getItem_tuple (t:=p) (items:=vs.toArray) (j:=k.toNat) ⟨_,ho,rfl,_,rfl⟩ (by omega) hf (seqIx h0 hk) (getArr hz) (Cont.same (tk:=s.toks) hQ H e rz)) (hs _ _)
theorem sub_list (H:St X d r T ρ env names S s.heap) {l:List V} {b:V} {x:Value} (L:ListAt X T ρ s.heap l x) (rb:VRel X T ρ b y) (hs:∀ x y,subscripted slice false x y = operate [x,y] (getItem x y)) (e:subL l b S = some (v,S')) (hQ:Cont X d r env names T ρ s S' (RV X) v Q) :
  wpAny (model X.prog X.w) A (subscriptTail value slice x y) Q E s:=by
 obtain ⟨k,ek,e⟩:=i1 e
 obtain ⟨w,hw,e⟩:=mi e
 obtain ⟨u,eu⟩:=int_of ek rb
 subst eu
 exact list_item L hw (hs _ _) fun z h=>Cont.same (tk:=s.toks) hQ H e h
theorem sub_dict (H:St X d r T ρ env names S s.heap) {ks:List Ky} {l:List V} {b:V} {x:Value} (D:DictAt X T ρ s.heap ks l x) (rb:VRel X T ρ b y) (hs:∀ x y,subscripted slice false x y = operate [x,y] (getItem x y)) (e:subD ks l b S = some (v,S')) (hQ:Cont X d r env names T ρ s S' (RV X) v Q) :
  wpAny (model X.prog X.w) A (subscriptTail value slice x y) Q E s:=by
 obtain ⟨w,hw,e⟩:=mi e
 exact dict_item D rb hw (hs _ _) fun z tk h=>Cont.same hQ H e h
end
theorem sim_sub {T:TT} {ρ:List Addr} {s:Shared} {S:SS} (H:St X d r T ρ env names S s.heap) {a b:V} {x y:Value} (ra:VRel X T ρ a x) (rb:VRel X T ρ b y) {value slice:Expr}
  (hs:∀ x y,subscripted slice false x y = operate [x,y] (getItem x y)):SimAt X d r env names A T ρ s S (subscriptTail value slice x y) (sub a b) (RV X):=by
 intro v S' e Q hQ
 cases a with
 | str p=>obtain ⟨t,f⟩:=ra;rw [f];exact sub_str H rb hs e hQ
 | dic ks l=>exact sub_dict H (.of_dic H.w ra) rb hs e hQ
 | tup l=>exact sub_tup H ra rb hs e hQ
 | lst l=>exact sub_list H (ra.at H.w) rb hs e hQ
 | ref n=>
  obtain ⟨o,ho,e⟩:=bi e
  cases o with
  | list l=>exact sub_list H (ref_at H ra (by unfold lref;rw [ho];rfl)) rb hs e hQ
  | dict ks l=>exact sub_dict H (.of_ref H ra ho) rb hs e hQ
  | inst c ns l=>exact no e
 | _=>exact no e
theorem VRels.take {T:TT} {ρ:List Addr}:∀ (n:Nat) (l:List V) {xs:List Value},VRels X T ρ l xs->VRels X T ρ (l.take n) (xs.take n)
 | 0,_,_,_=>by rw [List.take_zero,List.take_zero];rfl
 | n + 1,[],_,h=>by rw [show _ = [] from h];rfl
 | n + 1,v :: l,_,⟨x,xs,e,a,b⟩=>⟨x,xs.take n,by rw [e];rfl,a,VRels.take n l b⟩
theorem VRels.drop {T:TT} {ρ:List Addr}:∀ (n:Nat) (l:List V) {xs:List Value},VRels X T ρ l xs->VRels X T ρ (l.drop n) (xs.drop n)
 | 0,_,_,h=>h
 | n + 1,[],_,h=>by rw [show _ = [] from h];rfl
 | n + 1,v :: l,_,⟨x,xs,e,a,b⟩=>by rw [e];exact VRels.drop n l b
theorem VRels.cut {T:TT} {ρ:List Addr} {l:List V} {xs:List Value} (lo hi:Option Nat) (h:VRels X T ρ l xs):VRels X T ρ (cut l lo hi) (cut xs lo hi):=by
 unfold Mine.cut
 cases hi with
 | none=>exact VRels.drop _ _ h
 | some k=>exact VRels.drop _ _ (VRels.take _ _ h)
theorem VRels.reverse {T:TT} {ρ:List Addr}:∀ (l:List V) {xs:List Value},VRels X T ρ l xs->VRels X T ρ l.reverse xs.reverse
 | [],_,h=>by rw [show _ = [] from h];rfl
 | v :: l,_,⟨x,xs,e,a,b⟩=>by rw [e,List.reverse_cons,List.reverse_cons];exact VRels.append _ _ (VRels.reverse l b) ⟨x,[],rfl,a,rfl⟩
theorem clip_nat {a n:Nat}:max 0 (min (a:Int) n) = ((min a n:Nat):Int):=by
 rcases Nat.le_total a n with h | h
 ·rw [Nat.min_eq_left h,Int.min_eq_left (Int.ofNat_le.mpr h),Int.max_eq_right (Int.natCast_nonneg a)]
 ·rw [Nat.min_eq_right h,Int.min_eq_right (Int.ofNat_le.mpr h),Int.max_eq_right (Int.natCast_nonneg n)]
theorem clip_some {a n:Nat}:(if (1:Int) > 0 then max 0 (min (if (a:Int) < 0 then (a:Int) + n else a) n) else max (-1) (min (if (a:Int) < 0 then (a:Int) + n else a) ((n:Int) - 1))) = ((min a n:Nat):Int):=by
 rw [if_pos (show (1:Int) > 0 from by decide),if_neg (Int.not_lt.mpr (Int.natCast_nonneg a)),clip_nat]
theorem kms_clip {n:Nat} {lo hi:Option Nat}:sliceBounds (lo.map (fun (k:Nat)=>(k:Int))) (hi.map (fun (k:Nat)=>(k:Int))) none n = (((min (lo.getD 0) n:Nat):Int),((min (hi.getD n) n:Nat):Int),1):=by
 refine Prod.ext ?_ (Prod.ext ?_ rfl)
 ·cases lo with
  | none=>show (0:Int) = ((min 0 n:Nat):Int);rw [Nat.zero_min];rfl
  | some a=>exact clip_some
 ·cases hi with
  | none=>show (n:Int) = ((min n n:Nat):Int);rw [Nat.min_self]
  | some a=>exact clip_some
theorem cut_pick {α:Type} (l:List α) (lo hi:Option Nat):(l.drop (min (lo.getD 0) l.length)).take (min (hi.getD l.length) l.length - min (lo.getD 0) l.length) = cut l lo hi:=by
 generalize hk:lo.getD 0 = k
 have dm:∀ n,List.drop (min k n) (List.take n l) = List.drop k (List.take n l):=fun n=>by
  by_cases h:k<=n
  ·rw [Nat.min_eq_left h]
  ·rw [Nat.min_eq_right (by omega),List.drop_eq_nil_of_le (List.length_take_le _ _),List.drop_eq_nil_of_le (Nat.le_trans (List.length_take_le _ _) (by omega))]
 have tk:∀ (n m:Nat),List.take (n - m) (List.drop m l) = List.drop m (List.take n l):=fun n m=>(List.drop_take ..).symm
 rw [tk]
 have dl:List.drop (min k l.length) = fun q:List α=>List.drop (min k l.length) q:=rfl
 unfold cut
 rw [hk]
 cases hi with
 | none=>
  have:=dm l.length
  rw [List.take_length] at this
  rw [Option.getD_none,Nat.min_self,List.take_length]
  exact this
 | some h=>
  rw [Option.getD_some]
  show List.drop (min k l.length) (List.take (min h l.length) l) = List.drop k (List.take h l)
  have e1:List.take (min h l.length) l = List.take h l:=by
   by_cases q:h<=l.length
   ·rw [Nat.min_eq_left q]
   ·rw [Nat.min_eq_right (by omega),List.take_length,List.take_of_length_le (by omega)]
  rw [e1]
  by_cases q:k<=l.length
  ·rw [Nat.min_eq_left q]
  ·rw [Nat.min_eq_right (by omega),List.drop_eq_nil_of_le (List.length_take_le' _ _),List.drop_eq_nil_of_le (Nat.le_trans (List.length_take_le' _ _) (by omega))]
theorem slicePick_cut (items:List Value) (lo hi:Option Nat):slicePick items.toArray (lo.map fun (k:Nat)=>(k:Int)) (hi.map fun (k:Nat)=>(k:Int)) none = (cut items lo hi).toArray:=by
 rw [kmk_pick_nat _ (kms_clip (n:=items.toArray.size)),← cut_pick]
 simp
noncomputable def ROpt (X:Ctx):TT->List Addr->Option V->Value->Prop:=fun T ρ v x=>match v with | none=>x = .none | some v=>VRel X T ρ v x
inductive PartI (x:Value) (n:Option Nat):Prop
 | mk (p:Option (Int × Tok)) (e:x = partValue p) (h:p.map (·.1) = n.map fun (k:Nat)=>(k:Int)) (i:IsPart x (n.map fun (k:Nat)=>(k:Int)))
theorem part_of {T:TT} {ρ:List Addr} {v:Option V} {x:Value} {n:Option Nat} (hr:ROpt X T ρ v x) (e:bound v = some n):PartI x n:=by
 cases v with
 | none=>
  have hr:x = .none:=hr
  rw [← Option.some.inj e]
  exact ⟨none,hr,rfl,hr ▸ .none⟩
 | some v=>
  obtain ⟨k,ek,e⟩:=i1 e
  obtain ⟨⟨h0,_⟩,e⟩:=ii e
  obtain ⟨t,et⟩:=int_of ek hr
  have hk:some k = (some k.toNat).map (fun (k:Nat)=>(k:Int)):=congrArg some (Int.toNat_of_nonneg h0).symm
  rw [← Option.some.inj e,et]
  exact ⟨some (k,t),rfl,hk,hk ▸ .int k t⟩
theorem slice_list {T:TT} {ρ:List Addr} {s:Shared} {S S':SS} (H:St X d r T ρ env names S s.heap) {m:Bool} {k:List V} {nlo nhi:Option Nat} {x l u:Value} {v:V} (L:ListAt X T ρ s.heap k x) (pl:PartI l nlo) (pu:PartI u nhi)
  {sl:Addr} (hsl:s.heap.IsSliceOf sl l u .none) {value:Expr} {e1 e2:Option Expr} {p:Pos} (hs:∀ o i,subscripted (.Slice e1 e2 none p) false o i = operate [i,o] (getItem o i)) (e:mkL m (cut k nlo nhi) S = some (v,S')) {E Q:Value->Shared->Prop}
  (hQ:Cont X d r env names T ρ s S' (RV X) v Q):wpAny (model X.prog X.w) A (subscriptTail value (.Slice e1 e2 none p) x (.ref sl)) Q E s:=by
 obtain ⟨_,_,_,pl⟩:=pl
 obtain ⟨_,_,_,pu⟩:=pu
 obtain ⟨q,vs,f,hl,rv,len,lm⟩:=L.isList
 subst f
 refine tail_any hl.typeIs slot_list_getitem.lookup (wpAny_getItem_list_slice hl hsl pl pu .none (fun q=>nomatch q) ?_ (by rw [List.size_toArray,len];exact Nat.le_trans lm sizeLine_lim)) (hs _ _)
 rw [slicePick_cut]
 exact Cont.mkL (tk:=s.toks) H hQ (VRels.cut nlo nhi rv) e H.w.fresh (Keeps'.push H.w _) (Heap.get?_push_size _ rfl)
theorem slice_str {T:TT} {ρ:List Addr} {s:Shared} {S S':SS} (H:St X d r T ρ env names S s.heap) {t:Str} {tk:Tok} {nlo nhi:Option Nat} {l u:Value} {v:V} (pl:PartI l nlo) (pu:PartI u nhi)
  {sl:Addr} (hsl:s.heap.IsSliceOf sl l u .none) {value:Expr} {e1 e2:Option Expr} {p:Pos} (hs:∀ o i,subscripted (.Slice e1 e2 none p) false o i = operate [i,o] (getItem o i)) (hlen:(strCut t nlo nhi).length<=lim) (e:(V.str (strCut t nlo nhi),S) = (v,S')) {E Q:Value->Shared->Prop}
  (hQ:Cont X d r env names T ρ s S' (RV X) v Q):wpAny (model X.prog X.w) A (subscriptTail value (.Slice e1 e2 none p) (.str t tk) (.ref sl)) Q E s:=by
 obtain ⟨pl',el,hl,_⟩:=pl
 obtain ⟨pu',eu,hu,_⟩:=pu
 refine tail_any (typeIs_str s t tk) PySem.F.slot_str_getitem.lookup (wpAny_getItem_str_slice (l:=pl') (u:=pu') (st:=none) ?_ rfl ?_) (hs _ _)
 ·obtain ⟨o,ho,hc,hd⟩:=hsl
  exact ⟨o,ho,hc,by rw [hd,el,eu];rfl⟩
 ·have fin:∀ {tk tk'},Q (.str (strCut t nlo nhi) tk) { s with toks:=tk' }:=fun {tk tk'}=>Cont.same hQ H e ⟨tk,rfl⟩
  unfold sliceMade slicePicked
  rw [hl,hu]
  unfold strCut at hlen fin
  dsimp only [Option.map_none,Option.getD_none] at hlen fin ⊢
  by_cases z:((Builtin.Str.strSliceIndices (nlo.map fun (k:Nat)=>(k:Int)) (nhi.map fun (k:Nat)=>(k:Int)) 1 t.length).length == t.length) = true
  ·rw [if_pos z] at fin hlen
   rw [if_pos (by rw [z];rfl)]
   exact fin (tk':=s.toks)
  ·rw [if_neg z] at fin hlen
   rw [if_neg (fun q=>z (Bool.and_eq_true_iff.mp q).2)]
   exact ⟨Nat.le_trans hlen sizeLine_lim,fin⟩
theorem sim_slice {T:TT} {ρ:List Addr} {s:Shared} {S:SS} (H:St X d r T ρ env names S s.heap) {m:Bool} {a:V} {lo hi:Option V} {x l u:Value} (ra:VRel X T ρ a x) (rl:ROpt X T ρ lo l) (ru:ROpt X T ρ hi u)
  {sl:Addr} (hsl:s.heap.IsSliceOf sl l u .none) {value:Expr} {e1 e2:Option Expr} {p:Pos} (hs:∀ o i,subscripted (.Slice e1 e2 none p) false o i = operate [i,o] (getItem o i)) :
  SimAt X d r env names A T ρ s S (subscriptTail value (.Slice e1 e2 none p) x (.ref sl)) (slice m a lo hi) (RV X):=by
 intro v S' e Q hQ
 obtain ⟨nlo,h1,e⟩:=bi e
 obtain ⟨nhi,h2,e⟩:=bi e
 have pl:=part_of rl h1
 have pu:=part_of ru h2
 have list:((listOf a S.ob).bind fun l=>mkL m (cut l nlo nhi) S) = some (v,S')->wpAny (model X.prog X.w) A (subscriptTail value (.Slice e1 e2 none p) x (.ref sl)) Q (fun _ _=>False) s:=fun e=>by
  obtain ⟨k,hk,e⟩:=bi e
  exact slice_list H (listOf_at H ra hk) pl pu hsl hs e hQ
 cases a with
 | str t=>
  obtain ⟨hlen,e⟩:=ii e
  obtain ⟨tk,f⟩:=ra
  rw [f]
  exact slice_str H pl pu hsl hs hlen (Option.some.inj e) hQ
 | _=>exact list e
theorem sim_rev {T:TT} {ρ:List Addr} {s:Shared} {S:SS} (H:St X d r T ρ env names S s.heap) {m:Bool} {a:V} {x:Value} (ra:VRel X T ρ a x) {k:Value} (hk:IsPart k (some (-1)))
  {sl:Addr} (hsl:s.heap.IsSliceOf sl .none .none k) {value slice:Expr} (hs:∀ o i,subscripted slice false o i = operate [o,i] (getItem o i)) :
  SimAt X d r env names A T ρ s S (subscriptTail value slice x (.ref sl)) (rev m a) (RV X):=by
 intro v S' e Q hQ
 have W:=H.w
 obtain ⟨l,h1,e⟩:=bi e
 obtain ⟨q,vs,f,hl,rv,len,lm⟩:=(listOf_at H ra h1).isList
 subst f
 refine tail_any hl.typeIs slot_list_getitem.lookup (wpAny_getItem_list_slice hl hsl .none .none hk (by simp) ?_ (by rw [List.size_toArray,len];exact Nat.le_trans lm sizeLine_lim)) (hs _ _)
 rw [krv_pick]
 exact Cont.mkL (tk:=s.toks) H hQ (VRels.reverse l rv) e W.fresh (Keeps'.push W _) (by simpa using Heap.get?_push_size _ rfl)
end
theorem mapSeq_exact (f:Array Value->Array Value) (its:Array Value) (n:Nat):∃ n',Obj.mapSeq f { cls:=.type "list",data:=.seq its n } = { cls:=.type "list",data:=.seq (f its) n' }:=by
 unfold Obj.mapSeq
 exact ⟨_,rfl⟩
section
variable {prog:Program} {w:World} {A:Around} {E:Value->Shared->Prop} {s:Shared}
theorem setItem_exact {l:Addr} {items:Array Value} {n:Nat} {k:Int} {t:Tok} {v:Value} {Q:Unit->Shared->Prop} (ho:s.heap.get? l = some { cls:=.type "list",data:=.seq items n })
  (h0:0<=k) (hfit:k < 2 ^ 63) (hn:k < items.size)
  (hQ:Q () { s with heap:=s.heap.update l (Obj.mapSeq (·.setIfInBounds k.toNat v))}) :
  wpAny (model prog w) A (PySem.setItem (.ref l) (.int k t) v) Q E s:=by
 have hl:s.heap.IsList l items:=⟨_,ho,rfl,_,rfl⟩
 have hd:({ cls:=.type "list",data:=.seq items n }:Obj).data = .seq items n:=rfl
 unfold PySem.setItem
 try with_reducible refine wpAny_holding ?_
 first | refine wpAny_bind (wpAny_pure ?_) | skip
 refine wpAny_bind (wpAny_sequenceKey hl.typeIs (by decide) ?_)
 refine wpAny_bind (wpAny_callSpecial?_slot (name:=Str.ofString "__setitem__") hl.typeIs slot_list_setitem
  (wpAny_call_entry slot_list_setitem hl.typeIs entry_list_setitem ?_ (args_list_setitem _ _ _)))
 show wpAny _ _ (Builtin.List.listSubscript? (.int k t) >>= _) _ _ s
 refine wpAny_bind (wpAny_listSubscript_int (fitsIndex_of h0 hfit) ?_)
 clear hfit
 obtain ⟨j,rfl⟩:=Int.eq_ofNat_of_zero_le h0
 have hj:j < items.size:=by omega
 have hx':items[j]? = some items[j]:=Array.getElem?_eq_getElem hj
 show wpAny _ _ ((seqItemAt l j >>= fun r=>pure (r.map (j,·))) >>= _) _ _ s
 refine wpAny_bind (wpAny_bind (wpAny_seqItemAt ho hd (wpAny_pure ?_)))
 rw [hx']
 show wpAny _ _ (setSeqItemAt l j v >>= _) _ _ s
 refine wpAny_bind (wpAny_setSeqItemAt ho hd ?_)
 first
  | exact wpAny_bind (wpAny_pure (wpAny_pure ⟨.none,rfl,wpAny_pure hQ⟩))
  | exact wpAny_pure ⟨.none,rfl,wpAny_pure hQ⟩
end
section
variable {X:Ctx} {d r:Nat} {env:Env} {names:List (Str × NameKind)} {A:Around}
theorem VRels.set {T:TT} {ρ:List Addr} {v:V} {x:Value} (hv:VRel X T ρ v x):∀ (n:Nat) (l:List V) {xs:List Value},VRels X T ρ l xs->VRels X T ρ (l.set n v) (xs.set n x)
 | _,[],_,h=>by rw [show _ = [] from h];rfl
 | 0,u :: l,_,⟨y,ys,e,a,b⟩=>by rw [e];exact ⟨x,ys,rfl,hv,b⟩
 | n + 1,u :: l,_,⟨y,ys,e,a,b⟩=>by rw [e];exact ⟨y,ys.set n x,rfl,a,VRels.set hv n l b⟩
inductive UpdI (X:Ctx) (d r:Nat) (env:Env) (names:List (Str × NameKind)) (T:TT) (ρ:List Addr) (h:Heap) (S:SS) (n:Nat) (l l':List V) (f:Array Value->Array Value) (x:Value):Prop
 | mk (a:Addr) (vs:List Value) (k:Nat) (e:x = .ref a) (g:h.get? a = some { cls:=.type "list",data:=.seq vs.toArray k }) (rv:VRels X T ρ l vs) (z:l.length<=lim) (ex:Ext d r T h T (h.update a (Obj.mapSeq f)))
  (st:St X d r T ρ env names { S with ob:=oset n (.list l') S.ob } (h.update a (Obj.mapSeq f)))
theorem list_upd {T:TT} {ρ:List Addr} {h:Heap} {S:SS} (H:St X d r T ρ env names S h) {n:Nat} {l l':List V} {x:Value} (rx:VRel X T ρ (.ref n) x) (ho:olook n S.ob = some (.list l)) (hl:l'.length<=lim) {vs':List Value->List Value} {f:Array Value->Array Value}
  (hf:∀ vs,VRels X T ρ l vs->f vs.toArray = (vs' vs).toArray) (hv:∀ vs,VRels X T ρ l vs->VRels X T ρ l' (vs' vs)):UpdI X d r env names T ρ h S n l l' f x:=by
 obtain ⟨a,e1,e2⟩:=rx
 obtain ⟨z,a',o,vs,q1,q2,q3,⟨k,e3⟩,q5⟩:=H.o.obj n _ ho
 cases Option.some.inj (e1.symm.trans q1)
 rw [e3] at q3
 obtain ⟨k',hk'⟩:=mapSeq_exact f vs.toArray k
 have hnew:(h.update a (Obj.mapSeq f)).get? a = some { cls:=.type "list",data:=.seq (vs' vs).toArray k' }:=by
  rw [Heap.get?_update_self _ q3 (by rw [hk'];rfl),hk',hf vs q5]
 have kp:∀ b o,b ≠ a->h.get? b = some o->(h.update a (Obj.mapSeq f)).get? b = some o:=fun b o hb e=>(Heap.get?_update_ne _ _ _ _ hb).trans e
 exact ⟨a,vs,k,e2,q3,q5,z,Ext.upd (.inl q2) kp,H.upd (.inl q2) kp ⟨_,hnew⟩ ⟨_,ho⟩ ⟨hl,a,_,vs' vs,e1,q2,hnew,⟨k',rfl⟩,hv vs q5⟩⟩
inductive DobI (X:Ctx) (h:Heap) (a:Addr) (ks:List Ky) (vs:List Value):Prop
 | mk (o:Obj) (e:h.get? a = some o) (d:dictObj X o ks vs)
theorem DictOf_obj {h:Heap} {a:Addr} {ks:List Ky} {vs:List Value} (D:h.DictOf (kyKind X.prog X.w) a (ks.zip vs)) (hl:ks.length = vs.length):DobI X h a ks vs:=by
 obtain ⟨o,es,ep,q,h1,h2,h3,h4,h5⟩:=D
 exact ⟨o,q,hl,h1,es,ep,h2,h3,h4,by rw [zip_fst hl] at h5;exact h5⟩
inductive PutI (X:Ctx) (T:TT) (ρ:List Addr) (k:Ky) (x:Value) (ks:List Ky) (vs:List Value) (p:List Ky × List V):Prop
 | mk (vs':List Value) (e:stored (ks.zip vs) k x = p.1.zip vs') (n:p.1.length = vs'.length) (r:VRels X T ρ p.2 vs')
theorem stored_eq {k:Ky} {x y:Value} {ps:List (Ky × Value)} (h:∀ p ∈ ps,p.1 ≠ k):stored ((k,y) :: ps) k x = (k,x) :: ps:=by
 unfold stored
 rw [List.any_cons,decide_eq_true rfl,Bool.true_or,if_pos rfl,List.map_cons,if_pos rfl]
 exact congrArg ((k,x) :: ·) ((List.map_congr_left (fun p hp=>if_neg (h p hp))).trans (List.map_id _))
theorem stored_ne {a k:Ky} {x y:Value} {ps:List (Ky × Value)} (h:a ≠ k):stored ((a,y) :: ps) k x = (a,y) :: stored ps k x:=by
 unfold stored
 rw [List.any_cons,decide_eq_false h,Bool.false_or]
 by_cases q:(ps.any fun p=>decide (p.1 = k)) = true
 ·rw [if_pos q,if_pos q,List.map_cons,if_neg h]
 ·rw [if_neg q,if_neg q];rfl
theorem dput_stored {T:TT} {ρ:List Addr} {k:Ky} {v:V} {x:Value} (hv:VRel X T ρ v x):∀ {ks:List Ky} {l:List V} {vs:List Value},ks.length = vs.length->ks.Nodup->VRels X T ρ l vs->PutI X T ρ k x ks vs (dput k v ks l):=by
 intro ks
 induction ks with
 | nil=>
  intro l vs h _ q
  cases vs with
  | nil=>exact ⟨[x],rfl,rfl,x,[],rfl,hv,rfl⟩
  | cons _ _=>exact absurd h.symm (Nat.succ_ne_zero _)
 | cons a ks ih=>
  intro l vs h nd q
  cases l with
  | nil=>rw [show vs = [] from q] at h;exact absurd h (Nat.succ_ne_zero _)
  | cons u l=>
   obtain ⟨y,ys,e,p,q⟩:=q
   subst e
   have nd':=List.nodup_cons.mp nd
   have hl:=Nat.succ.inj h
   by_cases z:a = k
   ·rw [show dput k v (a :: ks) (u :: l) = (a :: ks,v :: l) from if_pos z]
    subst z
    exact ⟨x :: ys,stored_eq fun p hp e=>nd'.1 (e ▸ (List.of_mem_zip hp).1),h,x,ys,rfl,hv,q⟩
   ·obtain ⟨vs',h1,h2,h3⟩:=ih hl nd'.2 q
    rw [show dput k v (a :: ks) (u :: l) = (a :: (dput k v ks l).1,u :: (dput k v ks l).2) from if_neg z]
    exact ⟨y :: vs',(stored_ne z).trans (congrArg ((a,y) :: ·) h1),congrArg Nat.succ h2,y,vs',rfl,p,h3⟩
theorem dput_len {k:Ky} {v:V}:∀ {ks:List Ky} {l:List V},(dput k v ks l).1.length<=ks.length + 1
 | [],l=>by cases l <;> simp [dput]
 | a :: ks,[]=>by simp [dput]
 | a :: ks,u :: l=>by
  unfold dput
  split
  ·simp
  ·simpa using dput_len (k:=k) (v:=v) (ks:=ks) (l:=l)
theorem set_arr {n:Nat} {x:Value} {vs:List Value}:vs.toArray.setIfInBounds n x = (vs.set n x).toArray:=List.setIfInBounds_toArray _ _ _
theorem set_list {T:TT} {ρ:List Addr} {s:Shared} {S:SS} (H:St X d r T ρ env names S s.heap) {n:Nat} {l:List V} {k:Int} {t:Tok} {v:V} {x z:Value} (ra:VRel X T ρ (.ref n) x) (ho:olook n S.ob = some (.list l)) (rv:VRel X T ρ v z) (hk:0<=k/\k < l.length) {E:Value->Shared->Prop} {Q:Unit->Shared->Prop}
  (hQ:Cont X d r env names T ρ s { S with ob:=oset n (.list (l.set k.toNat v)) S.ob } RU () Q):wpAny (model X.prog X.w) A (PySem.setItem x (.int k t) z) Q E s:=by
 obtain ⟨b,vs,c,e,hb,rvs,lm,ex,st⟩:=list_upd H ra ho (l':=l.set k.toNat v) (by rw [List.length_set];exact (H.o.obj n _ ho).1) (vs':=fun vs=>vs.set k.toNat z) (f:=(·.setIfInBounds k.toNat z)) (fun vs hvs=>set_arr) (fun vs hvs=>VRels.set rv _ l hvs)
 subst e
 have hn:k < (vs.toArray.size:Int):=by rw [List.size_toArray,VRels.length l rvs];exact hk.2
 exact setItem_exact hb hk.1 (lim_fits lm hk.2) hn (hQ T ρ _ s.toks () ex (List.prefix_refl _) st trivial)
theorem set_dict {T:TT} {ρ:List Addr} {s:Shared} {S:SS} (H:St X d r T ρ env names S s.heap) {n:Nat} {ks:List Ky} {l:List V} {k:Ky} {i v:V} {x y z:Value} (ra:VRel X T ρ (.ref n) x) (ho:olook n S.ob = some (.dict ks l)) (ri:VRel X T ρ i y) (hk:keyOf i = some k) (rv:VRel X T ρ v z) (hlen:ks.length<=1000)
  {Q:Unit->Shared->Prop} (hQ:Cont X d r env names T ρ s { S with ob:=oset n (.dict (dput k v ks l).1 (dput k v ks l).2) S.ob } RU () Q):wpAny (model X.prog X.w) A (PySem.setItem x y z) Q (fun _ _=>False) s:=by
 obtain ⟨b,e1,e2⟩:=ra
 obtain ⟨b',o,vs,q1,q2,q3,q4,⟨hl,h1,es,ep,h2,h3,h4,h5⟩,q6⟩:=H.o.obj n _ ho
 cases Option.some.inj (e1.symm.trans q1)
 subst e2
 have D:s.heap.DictOf (kyKind X.prog X.w) b (ks.zip vs):=⟨o,es,ep,q3,h1,h2,h3,h4,by rw [zip_fst hl];exact h5⟩
 refine wpAny_setItem_pairs (key_is ri hk) D (fun h' D' hs'=>?_) ?_
 ·obtain ⟨vs',w1,w2,w3⟩:=dput_stored (k:=k) rv hl h5 q6
  rw [w1] at D'
  obtain ⟨o',ho',hd'⟩:=DictOf_obj D' w2
  have kp:∀ c o,c ≠ b->s.heap.get? c = some o->h'.get? c = some o:=fun c o hc e=>(hs'.2 c hc).trans e
  exact hQ T ρ _ _ () (Ext.upd (.inl q2) kp) (List.prefix_refl _) (H.upd (.inl q2) kp ⟨_,ho'⟩ ⟨_,ho⟩ ⟨b,o',vs',e1,q2,ho',q4,hd',w3⟩) trivial
 ·rw [List.length_zip,sizeLine_eq];omega
theorem sim_setItem {T:TT} {ρ:List Addr} {s:Shared} {S:SS} (H:St X d r T ρ env names S s.heap) {a i v:V} {x y z:Value} (ra:VRel X T ρ a x) (ri:VRel X T ρ i y) (rv:VRel X T ρ v z) :
  SimAt X d r env names A T ρ s S (PySem.setItem x y z) (setItem a i v) RU:=by
 intro u S' e Q hQ
 cases a with
 | ref n=>
  obtain ⟨o,ho,e⟩:=bi e
  cases o with
  | list l=>
   obtain ⟨k,hk,e⟩:=i1 e
   obtain ⟨h0,e⟩:=ii e
   obtain ⟨t,hy⟩:=int_of hk ri
   obtain ⟨_,e⟩:=sp e
   rw [hy]
   exact set_list H ra ho rv h0 (e ▸ hQ)
  | dict ks l=>
   obtain ⟨k,hk,e⟩:=bi e
   obtain ⟨h0,e⟩:=ii e
   obtain ⟨_,e⟩:=sp e
   exact set_dict H ra ho ri hk rv h0 (e ▸ hQ)
  | inst c ns l=>exact no e
 | _=>exact no e
theorem push_arr {y:Value} {vs:List Value}:vs.toArray.push y = (vs++[y]).toArray:=List.push_toArray _ _
theorem sim_append {T:TT} {ρ:List Addr} {s:Shared} {S:SS} (H:St X d r T ρ env names S s.heap) {n:Nat} {l:List V} {v:V} {x y:Value} (ra:VRel X T ρ (.ref n) x) (ho:olook n S.ob = some (.list l)) (rv:VRel X T ρ v y) :
  SimAt X d r env names A T ρ s S (PySem.call (.builtin "list.append") [x,y]) (listMeth .append n l [v]) (RV X):=by
 intro u S' e Q hQ
 obtain ⟨hl,e⟩:=ii e
 obtain ⟨e,e'⟩:=sp e
 subst e e'
 obtain ⟨b,vs,c,e,hb,rvs,lm,ex,st⟩:=list_upd H ra ho (l':=l++[v]) (by rw [List.length_append];exact hl) (vs':=fun vs=>vs++[y]) (f:=(·.push y)) (fun vs hvs=>push_arr) (fun vs hvs=>VRels.append _ _ hvs ⟨y,[],rfl,rv,rfl⟩)
 subst e
 exact call_meets PySem.F.slot_list_append ⟨_,hb,rfl⟩ PySem.F.entry_list_append (PySem.F.args_list_append_2 _ _) (list_append b vs.toArray c y (by rw [List.size_toArray,VRels.length l rvs];exact Nat.le_of_lt (Nat.lt_of_lt_of_le hl sizeLine_lim))) ⟨hb,hQ T ρ _ s.toks _ ex (List.prefix_refl _) st rfl⟩
theorem sim_extend {T:TT} {ρ:List Addr} {s:Shared} {S:SS} (H:St X d r T ρ env names S s.heap) {n:Nat} {l:List V} {v:V} {x y:Value} (ra:VRel X T ρ (.ref n) x) (ho:olook n S.ob = some (.list l)) (rv:VRel X T ρ v y) :
  SimAt X d r env names A T ρ s S (PySem.call (.builtin "list.extend") [x,y]) (listMeth .extend n l [v]) (RV X):=by
 intro u S' e Q hQ
 obtain ⟨k,f,e0⟩:=l1 e
 clear e
 obtain ⟨hl,e⟩:=ii e0
 obtain ⟨e,e'⟩:=sp e
 subst f e e'
 obtain ⟨_,p,o,ws,f,ht,⟨c2,g⟩,rws⟩:=rv
 subst f g
 obtain ⟨b,vs,c,e,hb,rvs,lm,ex,st⟩:=list_upd H ra ho (l':=l++k) (by rw [List.length_append];exact hl) (vs':=fun vs=>vs++ws) (f:=fun x=>x++ws.toArray) (fun vs hvs=>List.append_toArray _ _) (fun vs hvs=>VRels.append _ _ hvs rws)
 subst e
 have hz:vs.toArray.size + ws.toArray.size<=sizeLine:=by rw [List.size_toArray,List.size_toArray,VRels.length l rvs,VRels.length k rws];exact Nat.le_trans hl sizeLine_lim
 refine call_meets PySem.F.slot_list_extend ⟨_,hb,rfl⟩ PySem.F.entry_list_extend (PySem.F.args_list_extend_2 _ _) (AutoSeq1.list_extend_list_list_0 b vs.toArray c p ws.toArray c2 ?_ (by omega) (by omega)) ⟨hb,H.w.fro _ _ ht,hQ T ρ _ s.toks _ ex (List.prefix_refl _) st rfl⟩
 unfold Builtin.List.listTooLong
 simp only [Bool.and_eq_true,decide_eq_true_eq,not_and]
 intro _;omega
theorem drop_arr {vs:List Value} {n:Nat} (h:vs.length = n):vs.toArray.eraseIdxIfInBounds (n - 1) = vs.dropLast.toArray:=by
 apply Array.ext'
 rw [List.dropLast_eq_take,h]
 by_cases h0:n = 0
 ·have:vs = []:=List.length_eq_zero_iff.mp (h.trans h0)
  subst this
  simp [Array.eraseIdxIfInBounds]
 ·rw [Array.eraseIdxIfInBounds_eq,dif_pos (by rw [List.size_toArray];omega)]
  simp only [List.eraseIdx_toArray]
  rw [List.eraseIdx_eq_take_drop_succ,show n - 1 + 1 = vs.length by omega,List.drop_length,List.append_nil]
theorem sim_pop {T:TT} {ρ:List Addr} {s:Shared} {S:SS} (H:St X d r T ρ env names S s.heap) {n:Nat} {l:List V} {x:Value} (ra:VRel X T ρ (.ref n) x) (ho:olook n S.ob = some (.list l)) :
  SimAt X d r env names A T ρ s S (PySem.call (.builtin "list.pop") [x]) (listMeth .pop n l []) (RV X):=by
 intro u S' e Q hQ
 obtain ⟨v,hg,e⟩:=mi e
 have e':=congrArg Prod.snd e
 have e:=congrArg Prod.fst e
 subst e e'
 have hll:l.length<=lim:=(H.o.obj n _ ho).1
 obtain ⟨b,vs,c,e,hb,rvs,lm,ex,st⟩:=list_upd H ra ho (l':=l.dropLast) (by rw [List.length_dropLast];exact Nat.le_trans (Nat.sub_le _ _) hll) (vs':=fun vs=>vs.dropLast) (f:=fun xs=>xs.eraseIdxIfInBounds (l.length - 1))
  (fun vs hvs=>drop_arr (VRels.length l hvs)) (fun vs hvs=>by rw [List.dropLast_eq_take,List.dropLast_eq_take,VRels.length l hvs];exact VRels.take _ _ hvs)
 subst e
 have len:=VRels.length l rvs
 obtain ⟨y,hy,ry⟩:=VRels.get l rvs (l.length - 1) v (by rw [← List.getLast?_eq_getElem?,hg])
 have e3:vs.toArray.size - 1 = l.length - 1:=congrArg (· - 1) len
 refine call_meets PySem.F.slot_list_pop ⟨_,hb,rfl⟩ PySem.F.entry_list_pop (PySem.F.args_list_pop_1 _) (MeetsSeq.list_pop_last b vs.toArray c y (by rw [e3];exact getArr hy) (by rw [List.size_toArray,len];exact Nat.le_trans hll sizeLine_lim)) ⟨hb,?_⟩
 rw [e3]
 exact hQ T ρ _ s.toks y ex (List.prefix_refl _) st ry
inductive IdxI (X:Ctx) (T:TT) (ρ:List Addr) (x:V) (vs:List Value) (j:Nat):Prop
 | mk (b:j < vs.length) (c:∀ y,vs[j]? = some y->eqTo X T ρ x y = true) (f:∀ m y,m < j->vs[m]? = some y->eqTo X T ρ x y = false)
theorem indexOf_spec {T:TT} {ρ:List Addr} {h₀:Heap} (W:WRel X T h₀) {x:V}:∀ {l:List V} {vs:List Value} {k j:Nat},VRels X T ρ l vs->indexOf x l k = some j->∃ i,j = k + i/\IdxI X T ρ x vs i:=by
 intro l
 induction l with
 | nil=>intro vs k j _ h;exact no h
 | cons v l ih=>
  intro vs k j rv h
  obtain ⟨y,ys,e,ry,rl⟩:=rv
  obtain ⟨b,h1,h⟩:=bi h
  have q:=eqTo_eq W ry h1
  subst e
  cases b with
  | true=>exact ⟨0,(Option.some.inj h).symm,Nat.succ_pos _,fun z hz=>Option.some.inj hz ▸ q,fun m z hm=>absurd hm (Nat.not_lt_zero m)⟩
  | false=>
   obtain ⟨i,e,b,c,f⟩:=ih rl h
   refine ⟨i + 1,by rw [e];exact Nat.succ_add_eq_add_succ k i,Nat.succ_lt_succ b,c,fun m z hm hz=>?_⟩
   cases m with
   | zero=>exact Option.some.inj hz ▸ q
   | succ m=>exact f m z (Nat.lt_of_succ_lt_succ hm) hz
theorem sim_index {T:TT} {ρ:List Addr} {s:Shared} {S:SS} (H:St X d r T ρ env names S s.heap) (hu:A.units + 120<=cLine) {l:List V} {v:V} {x y:Value} (ra:VRel X T ρ (.lst l) x) (rv:VRel X T ρ v y) {c:Bool} (hc:anyEq v l = some c) {j:Nat} (hj:indexOf v l 0 = some j) {Q:Value->Shared->Prop}
  (hQ:∀ t tk,Q (.int j t) { s with toks:=tk }):wpAny (model X.prog X.w) A (PySem.call (.builtin "list.index") [x,y]) Q (fun _ _=>False) s:=by
 have W:=H.w
 obtain ⟨lm,a,o,vs,e,ht,⟨n,f⟩,rvs⟩:=ra
 subst e f
 obtain ⟨h1,_⟩:=anyEq_any (A:=A) W (by rw [Around.in1_units];omega) rv rvs hc
 obtain ⟨i,e,b,c1,c2⟩:=indexOf_spec W rvs hj
 rw [Nat.zero_add] at e
 subst e
 have hs:vs.toArray.size<=sizeLine:=len_lim rvs lm
 exact call_meets PySem.F.slot_list_index ⟨_,W.fro _ _ ht,rfl⟩ PySem.F.entry_list_index (PySem.F.args_list_index_2 _ _) (list_indexAt a vs.toArray n none #[] y (eqTo X T ρ v) j b (by have:=VRels.length l rvs;unfold lim at lm;omega) (c1 _ (List.getElem?_eq_getElem b)) (fun m hm hmj=>c2 m _ hmj (List.getElem?_eq_getElem hm)))
  ⟨W.fro _ _ ht,fun z hz=>h1 z (mem_arr hz),hQ _ _⟩
theorem get_val {T:TT} {ρ:List Addr} {k:Ky} {ks:List Ky} {l:List V} {vs:List Value} (hl:ks.length = vs.length) (rv:VRels X T ρ l vs) {u v:V} {z:Value} (hz:VRel X T ρ u z) (e:(dlook k ks l).getD u = v):VRel X T ρ v ((valueAt (ks.zip vs) k).getD z):=by
 have q:=valueAt_dlook (X:=X) (T:=T) (ρ:=ρ) k hl rv
 cases hd:dlook k ks l with
 | none=>rw [hd] at q e;rw [q,← e];exact hz
 | some u=>rw [hd] at q e;obtain ⟨w,q1,q2⟩:=q;rw [q1,← e];exact q2
theorem sim_dget {T:TT} {ρ:List Addr} {s:Shared} {ks:List Ky} {l:List V} {x:Value} (D:DictAt X T ρ s.heap ks l x) {args:List V} {ys:List Value} (ra:VRels X T ρ args ys) {v:V} (e:dictGet ks l args = some v) {Q:Value->Shared->Prop}
  (hQ:∀ z tk,VRel X T ρ v z->Q z { s with toks:=tk }):wpAny (model X.prog X.w) A (PySem.call (.builtin "dict.get") (x :: ys)) Q (fun _ _=>False) s:=by
 obtain ⟨a,vs,f,z,D',hl,rv⟩:=D.dictOf
 subst f
 cases args with
 | nil=>exact no e
 | cons k args=>
  obtain ⟨ky,ys1,f,rk,ra⟩:=ra
  subst f
  cases args with
  | nil=>
   rw [show ys1 = [] from ra]
   obtain ⟨kk,hk,e⟩:=mi e
   exact call_meetsIn PySem.F.slot_dict_get D'.typeIs PySem.F.entry_dict_get (PySem.F.args_dict_get_2 _ _) (meets_dict_get _ a (key_is rk hk) z) ⟨_,D'.mapOf,hQ _ _ (get_val (u:=.none) (z:=.none) hl rv rfl e)⟩
  | cons d0 args=>
   obtain ⟨dy,ys2,f,rd,ra⟩:=ra
   subst f
   cases args with
   | nil=>
    rw [show ys2 = [] from ra]
    obtain ⟨kk,hk,e⟩:=mi e
    exact call_meetsIn PySem.F.slot_dict_get D'.typeIs PySem.F.entry_dict_get (PySem.F.args_dict_get_3 _ _ _) (meets_dict_get_default _ a (key_is rk hk) z dy) ⟨_,D'.mapOf,hQ _ _ (get_val hl rv rd e)⟩
   | cons _ _=>exact no e
end
noncomputable def attrIn (K:Frag) (c:Addr) (n:Str):Bool:=
 plainGet K c n && hasDictIn K c && (match findIn K (.ref c) n with | some a=>noGet K a | none=>false) &&
 findIn K (.ref c) "__setattr__" == some (some (.builtin "object.__setattr__")) && plainOver K c && takerIn K c n == some none
structure BA (X:Ctx):Prop extends BF X where
 aok:∀ c n,X.P.aok c n = true->attrIn X.K c n = true
 meth:∀ c n f,X.P.meth c n = some f->plainGet X.K c n = true/\findIn X.K (.ref c) n = some (some (.ref f))/\isFn X.K (.ref f) = true/\keepIn X.K (.ref f) = true
 init:∀ c f,X.P.init c = some f->makesIn X.K c = true/\findIn X.K (.ref c) "__init__" = some (some (.ref f))/\isFn X.K (.ref f) = true/\keepIn X.K (.ref c) = true
theorem BA.kinAt {X:Ctx} (B:BA X) {T:TT} {h:Heap} (W:WRel X T h):X.K.In h:=B.kin.keeps W.baseGet
section
variable {X:Ctx} {d r:Nat} {env:Env} {names:List (Str × NameKind)} {A:Around}
inductive InsAt (X:Ctx) (T:TT) (ρ:List Addr) (h:Heap) (c:Addr) (ns:List Str) (l:List V) (x:Value):Prop
 | mk (z:aokAll X c ns) (a dx:Addr) (es:List DictEntry) (n:Nat) (xs:List Value) (e:x = .ref a) (h1:h.get? a = some (instObj c dx)) (h2:h.get? dx = some (dictOf es n)) (q:EsRel es ns xs) (b:VRels X T ρ l xs)
theorem InsAt.of_ins {T:TT} {ρ:List Addr} {h:Heap} (W:WRel X T h) {c:Addr} {ns:List Str} {l:List V} {x:Value} (H:VRel X T ρ (.ins c ns l) x):InsAt X T ρ h c ns l x:=by
 obtain ⟨z,a,dx,es,n,xs,e,t,u,q,b⟩:=H
 exact ⟨z,a,dx,es,n,xs,e,W.fro _ _ t,W.fro _ _ u,q,b⟩
theorem InsAt.of_ref {T:TT} {ρ:List Addr} {S:SS} {h:Heap} (H:St X d r T ρ env names S h) {n:Nat} {x:Value} {c:Addr} {ns:List Str} {l:List V} (ra:VRel X T ρ (.ref n) x) (e:olook n S.ob = some (.inst c ns l)):InsAt X T ρ h c ns l x:=by
 obtain ⟨b,e1,e2⟩:=ra
 obtain ⟨z,a',dx,es,k,xs,q1,q2,q3,q4,q5,q6,q7⟩:=H.o.obj n _ e
 exact ⟨z,a',dx,es,k,xs,e2.trans (congrArg Value.ref (Option.some.inj (e1.symm.trans q1))),q4,q5,q6,q7⟩
theorem EsRel.str {es:List DictEntry} {ns:List Str} {xs:List Value} (h:EsRel es ns xs):∀ e ∈ es,∃ n t,e.key = .str n t:=by
 induction h with
 | nil=>exact fun e h=>nomatch h
 | cons a b r ih=>
  intro e h
  rcases List.mem_cons.mp h with h | h
  ·rw [h];exact ⟨_,_,a⟩
  ·exact ih e h
theorem EsRel.noRef {es:List DictEntry} {ns:List Str} {xs:List Value} (h:EsRel es ns xs):es.any (·.refKey) = false:=by
 rw [List.any_eq_false]
 intro e he
 obtain ⟨n,t,q⟩:=h.str e he
 unfold DictEntry.refKey
 rw [q]
 exact Bool.false_ne_true
theorem find_pos {e:DictEntry} {es:List DictEntry} {n:Str} (h:e.key.isStr n = true):(e :: es).find? (·.key.isStr n) = some e:=List.find?_cons_of_pos h
theorem find_neg {e:DictEntry} {es:List DictEntry} {n:Str} (h:e.key.isStr n = false):(e :: es).find? (·.key.isStr n) = es.find? (·.key.isStr n):=List.find?_cons_of_neg (by rw [h];exact Bool.false_ne_true)
theorem key_str {e:DictEntry} {m n:Str} {t:Tok} (a:e.key = .str m t):e.key.isStr n = (m == n):=by rw [a];rfl
inductive FindI (X:Ctx) (T:TT) (ρ:List Addr) (n:Str) (es:List DictEntry) (v:V):Prop
 | mk (e:DictEntry) (h:es.find? (·.key.isStr n) = some e) (r:VRel X T ρ v e.val)
theorem EsRel.find {T:TT} {ρ:List Addr} {n:Str} {es:List DictEntry} {ns:List Str} {xs:List Value} (h:EsRel es ns xs):∀ {l:List V} {v:V},VRels X T ρ l xs->alook n ns l = some v->FindI X T ρ n es v:=by
 induction h with
 | nil=>intro l v _ h;exact no h
 | @cons e es m ns x xs t a b q ih=>
  intro l v hl h
  cases l with
  | nil=>exact nomatch (show x :: xs = [] from hl)
  | cons u l=>
   obtain ⟨y,ys,f,ry,rl⟩:=hl
   have hk:=key_str (n:=n) a
   by_cases z:m = n
   ·have h:some u = some v:=(if_pos z).symm.trans h
    rw [Option.some.inj h,← (List.cons.inj f).1,← b] at ry
    exact ⟨e,find_pos (hk.trans (beq_iff_eq.mpr z)),ry⟩
   ·have h:alook n ns l = some v:=(if_neg z).symm.trans h
    rw [← (List.cons.inj f).2] at rl
    obtain ⟨e',h1,h2⟩:=ih rl h
    exact ⟨e',(find_neg (hk.trans (beq_eq_false_iff_ne.mpr z))).trans h1,h2⟩
theorem EsRel.findNo {n:Str} {es:List DictEntry} {ns:List Str} {xs:List Value} (h:EsRel es ns xs):ns.contains n = false->es.find? (·.key.isStr n) = none:=by
 induction h with
 | nil=>exact fun _=>rfl
 | @cons e es m ns x xs t a b q ih=>
  intro h
  rw [List.contains_cons,Bool.or_eq_false_iff] at h
  exact (find_neg ((key_str a).trans (beq_eq_false_iff_ne.mpr fun e=>beq_eq_false_iff_ne.mp h.1 e.symm))).trans (ih h.2)
theorem EsRel.getL_some {T:TT} {ρ:List Addr} {n:Str} {es:List DictEntry} {ns:List Str} {xs:List Value} {l:List V} {v:V} (h:EsRel es ns xs) (hl:VRels X T ρ l xs) (e:alook n ns l = some v):∃ y,getL n es = some (some y)/\VRel X T ρ v y:=by
 obtain ⟨en,h1,h3⟩:=h.find hl e
 exact ⟨en.val,by unfold getL;rw [h1],h3⟩
theorem EsRel.getL_none {n:Str} {es:List DictEntry} {ns:List Str} {xs:List Value} (h:EsRel es ns xs) (e:ns.contains n = false):getL n es = some none:=by
 unfold getL
 rw [h.findNo e,h.noRef];rfl
theorem alook_mem {n:Str} {v:V} {ns:List Str}:∀ {l:List V},alook n ns l = some v->n ∈ ns:=by
 induction ns with
 | nil=>intro l h;exact no h
 | cons m ns ih=>
  intro l h
  cases l with
  | nil=>exact no h
  | cons u l=>
   by_cases z:m = n
   ·rw [z];exact .head _
   ·exact .tail _ (ih ((if_neg z).symm.trans h))
theorem handed_of {T:TT} {ρ:List Addr} {v:V} {x:Value} (h:VRel X T ρ v x) (hs:isSt v ≠ true):handedIn x = true:=by
 cases v with
 | none=>rw [show x = _ from h];rfl
 | bool b=>rw [show x = _ from h];rfl
 | int i=>obtain ⟨t,e⟩:=h;rw [e];rfl
 | str i=>obtain ⟨t,e⟩:=h;rw [e];rfl
 | tup l=>obtain ⟨_,a,o,vs,e,_,_,_⟩:=h;rw [e];rfl
 | lst l=>obtain ⟨_,a,o,vs,e,_,_,_⟩:=h;rw [e];rfl
 | dic ks l=>obtain ⟨a,o,vs,e,_,_,_,_⟩:=h;rw [e];rfl
 | ins c ns l=>obtain ⟨_,a,dx,es,n,xs,e,_,_,_,_⟩:=h;rw [e];rfl
 | ref n=>obtain ⟨a,_,e⟩:=h;rw [e];rfl
 | st y=>exact absurd rfl hs
theorem noSt_some {v:Option V} {u:V} (h:noSt v = some u):v = some u/\isSt u ≠ true:=by
 obtain ⟨w,e,h⟩:=bi h
 obtain ⟨q,h⟩:=ni h
 rw [Option.some.inj h] at e q
 exact ⟨e,q⟩
structure AttrFacts (K:Frag) (c:Addr) (n:Str):Prop where
 pg:plainGet K c n = true
 hd:hasDictIn K c = true
 fa:∃ a,findIn K (.ref c) n = some a/\noGet K a = true
 sa:findIn K (.ref c) "__setattr__" = some (some (.builtin "object.__setattr__"))
 po:plainOver K c = true
 tk:takerIn K c n = some none
theorem attrFacts {K:Frag} {c:Addr} {n:Str} (h:attrIn K c n = true):AttrFacts K c n:=by
 unfold attrIn at h
 simp only [Bool.and_eq_true,beq_iff_eq] at h
 obtain ⟨⟨⟨⟨⟨a,b⟩,q⟩,e⟩,f⟩,g⟩:=h
 refine ⟨a,b,?_,e,f,g⟩
 split at q
 ·rename_i z hz;exact ⟨z,hz,q⟩
 ·cases q
theorem ins_get (B:BA X) {T:TT} {ρ:List Addr} {s:Shared} (W:WRel X T s.heap) {c:Addr} {ns:List Str} {l:List V} {x:Value} (I:InsAt X T ρ s.heap c ns l x) {n:Str} {v:V} (e:noSt (alook n ns l) = some v) {ex:Bool} {Q:Value->Shared->Prop}
  (hQ:∀ y tk,VRel X T ρ v y->Q y { s with toks:=tk }):wpAny (model X.prog X.w) A (PySem.getAttr x n ex) Q (fun _ _=>False) s:=by
 obtain ⟨e1,e2⟩:=noSt_some e
 obtain ⟨⟨z,_⟩,a,dx,es,k,xs,f,h1,h2,q,b⟩:=I
 obtain ⟨y,h3,h4⟩:=q.getL_some b e1
 have F:=attrFacts (B.aok c n (z n (alook_mem e1)))
 obtain ⟨at',fa,ng⟩:=F.fa
 subst f
 exact get_value (od:=some (dictOf es k)) (B.kinAt W) (⟨h1,rfl,rfl,h2⟩:PySem.W.InstAt s.heap a (instObj c dx) c (some (dictOf es k))) (plainGet_of F.pg).1 (findObj_own F.hd fa ng h3) (handed_of h4 e2) (hQ y _ h4)
theorem insOf_at {T:TT} {ρ:List Addr} {S:SS} {h:Heap} (H:St X d r T ρ env names S h) {a:V} {x:Value} (ra:VRel X T ρ a x) {p:Addr × List Str × List V} (e:insOf a S.ob = some p):InsAt X T ρ h p.1 p.2.1 p.2.2 x:=by
 cases a with
 | ins c ns l=>rw [← Option.some.inj e];exact .of_ins H.w ra
 | ref k=>exact .of_ref H ra (insMO_some e)
 | _=>exact no e
theorem sim_getAttr (B:BA X) {T:TT} {ρ:List Addr} {s:Shared} {S:SS} (H:St X d r T ρ env names S s.heap) {a:V} {x:Value} (ra:VRel X T ρ a x) {n:Str} {ex:Bool}:SimAt X d r env names A T ρ s S (PySem.getAttr x n ex) (getAttr a n) (RV X):=by
 intro v S' e Q hQ
 obtain ⟨p,hp,e⟩:=bi e
 obtain ⟨u,hu,e⟩:=mi e
 exact ins_get B H.w (insOf_at H ra hp) hu fun y tk h=>Cont.same hQ H e h
theorem putL_len {n:Str} {hsh:Int} {k v:Value} (es:List DictEntry):(putL n hsh k v es).length<=es.length + 1:=by
 induction es with
 | nil=>exact Nat.le_refl _
 | cons e r ih=>
  unfold putL
  by_cases z:e.key.isStr n = true
  ·rw [if_pos z];exact Nat.le_succ _
  ·rw [if_neg z];exact Nat.succ_le_succ ih
section
variable {prog:Program} {w:World} {s:Shared} {K:Frag}
theorem osa_mine {R:Result->Shared->Prop} {x C dx:Addr} {name:Str} {tk:Tok} {v:Value} {es:List DictEntry} {n:Nat} (X:K.In s.heap)
  (I:PySem.W.InstAt s.heap x (instObj C dx) C (some (dictOf es n))) (D:s.heap.get? dx = some (dictOf es n)) (hp:plainOver K C = true) (ht:takerIn K C name = some none) (hh:hasDictIn K C = true) (hr:es.any (·.refKey) = false)
  (hz:es.length<=500)
  (h:R (.ok (.ret .none)) { s with heap:=s.heap.update dx (Obj.putName name (PyData.keyHash w.params name) (.str name s.toks) v),toks:=s.toks + 1 }) :
  codeAny (model prog w) A (.call (.builtin "object.__setattr__") ⟨[.ref x,.str name tk,v],[]⟩) R s:=by
 refine osa_open X I hp ht fun b=>?_
 obtain ⟨cd,hc,hd'⟩:=any_some hh
 have e':=putName_dict name (PyData.keyHash w.params name) (.str name s.toks) v es n
 have hz':(putL name (PyData.keyHash w.params name) (.str name s.toks) v es).length<=1000:=Nat.le_trans (putL_len es) (by omega)
 have D':(s.heap.update dx (Obj.putName name (PyData.keyHash w.params name) (.str name s.toks) v)).get? dx = some (dictOf (putL name (PyData.keyHash w.params name) (.str name s.toks) v es) (putN name es n)):=by
  rw [Heap.get?_update_self _ D (by rw [e'];rfl),e']
 obtain ⟨hx,hcl,hn,-⟩:=I
 refine wpAny_bind (wpAny_pure (wpAny_bind (wpAny_bind (wpAny_loadPart hx (wpAny_bind ((looks_clsIn X hc).here ?_))))))
 rw [hd']
 refine wpAny_pure (a:=some dx) (wpAny_bind (wpAny_pure (wpAny_bind ?_)))
 unfold nsSet
 refine wpAny_bind (wpAny_bind (wpAny_askSetting (wpAny_pure (wpAny_bind (wpAny_mkText (wpAny_bind (wpAny_loadPart D ?_)))))))
 dsimp only
 have c:(!es.toArray.any (·.key.isStr name) && es.toArray.any (·.refKey)) = false:=by
  rw [← Array.any_toList,← Array.any_toList]
  simp [hr]
 rw [aRefKeyMayBeTheName_at,c]
 refine wpAny_updatePart D ?_
 refine wpAny_bind (wpAny_lookBehind D' (pastItsLine_dict (by rw [List.size_toArray,sizeLine_eq];omega)) ?_)
 exact wpAny_pure h
end
inductive EsPut (X:Ctx) (T:TT) (ρ:List Addr) (es:List DictEntry) (p:List Str × List V):Prop
 | mk (xs:List Value) (e:EsRel es p.1 xs) (r:VRels X T ρ p.2 xs)
theorem EsRel.put {T:TT} {ρ:List Addr} {n:Str} {v:V} {y:Value} (hv:VRel X T ρ v y) (hsh:Int) (tk:Tok) {es:List DictEntry} {ns:List Str} {xs:List Value} (h:EsRel es ns xs):∀ {l:List V},VRels X T ρ l xs->EsPut X T ρ (putL n hsh (.str n tk) y es) (aput n v ns l):=by
 induction h with
 | nil=>intro l h;exact ⟨[y],.cons rfl rfl .nil,y,[],rfl,hv,rfl⟩
 | @cons e es m ns x xs t a b q ih=>
  intro l h
  cases l with
  | nil=>exact nomatch (show x :: xs = [] from h)
  | cons u l=>
   obtain ⟨x',xs1,e1,ry,rl⟩:=h
   have e2:=(List.cons.inj e1).2
   have e1:=(List.cons.inj e1).1
   subst e1 e2
   have hk:=key_str (n:=n) a
   unfold putL aput
   by_cases z:m = n
   ·rw [if_pos z,if_pos (hk.trans (beq_iff_eq.mpr z))]
    exact ⟨y :: xs,.cons a rfl q,y,xs,rfl,hv,rl⟩
   ·rw [if_neg z,if_neg (by rw [hk,beq_eq_false_iff_ne.mpr z];exact Bool.false_ne_true)]
    obtain ⟨xs',h1,h2⟩:=ih rl
    exact ⟨x :: xs',.cons a b h1,x,xs',rfl,ry,h2⟩
inductive NmI (n:Str) (ns ms:List Str):Prop
 | old (e:ms = ns)
 | new (h:n ∉ ns) (e:ms = ns++[n])
theorem aput_names {n:Str} {v:V} {ns:List Str}:∀ {l:List V},ns.length = l.length->NmI n ns (aput n v ns l).1:=by
 induction ns with
 | nil=>intro l h;exact .new (fun q=>nomatch q) rfl
 | cons m ns ih=>
  intro l h
  cases l with
  | nil=>exact absurd h (Nat.succ_ne_zero _)
  | cons u l=>
   unfold aput
   by_cases z:m = n
   ·rw [if_pos z];exact .old rfl
   ·rw [if_neg z]
    cases ih (l:=l) (Nat.succ.inj h) with
    | old e=>exact .old (congrArg (m :: ·) e)
    | new q e=>exact .new (fun k=>(List.mem_cons.mp k).elim (fun k=>z k.symm) q) (congrArg (m :: ·) e)
theorem aput_aok {c:Addr} {n:Str} {v:V} {ns:List Str} {l:List V} (hl:ns.length = l.length) (h:aokAll X c ns) (hn:X.P.aok c n = true):aokAll X c (aput n v ns l).1:=by
 cases aput_names (n:=n) (v:=v) hl with
 | old e=>rw [e];exact h
 | new q e=>
  rw [e]
  refine ⟨fun m hm=>?_,List.nodup_append.mpr ⟨h.2,List.nodup_cons.mpr ⟨fun q=>(nomatch q),List.nodup_nil⟩,fun a ha b hb e=>?_⟩⟩
  ·rcases List.mem_append.mp hm with q | q
   ·exact h.1 m q
   ·rw [List.mem_singleton.mp q];exact hn
  ·rw [List.mem_singleton.mp hb] at e
   exact q (e ▸ ha)
theorem EsRel.len_es {es:List DictEntry} {ns:List Str} {xs:List Value} (h:EsRel es ns xs):es.length = ns.length:=by
 induction h with
 | nil=>rfl
 | cons _ _ _ ih=>exact congrArg Nat.succ ih
theorem EsRel.len_xs {es:List DictEntry} {ns:List Str} {xs:List Value} (h:EsRel es ns xs):xs.length = ns.length:=by
 induction h with
 | nil=>rfl
 | cons _ _ _ ih=>exact congrArg Nat.succ ih
theorem ins_put (B:BA X) {T:TT} {ρ:List Addr} {s:Shared} {S:SS} (H:St X d r T ρ env names S s.heap) {k:Nat} {v:V} {x y:Value} {n:Str} {c:Addr} {ns:List Str} {l:List V} (ra:VRel X T ρ (.ref k) x) (rv:VRel X T ρ v y) (ho:olook k S.ob = some (.inst c ns l)) (hk:X.P.aok c n = true) (hn:ns.length<=100)
  {Q:Unit->Shared->Prop} (hQ:Cont X d r env names T ρ s { S with ob:=oset k (.inst c (aput n v ns l).1 (aput n v ns l).2) S.ob } RU () Q):wpAny (model X.prog X.w) A (PySem.setAttr x n y) Q (fun _ _=>False) s:=by
 obtain ⟨p,e1,f⟩:=ra
 obtain ⟨z,p',dx,es,m,xs,q1,q2,q3,q4,q5,q6,q7⟩:=H.o.obj k _ ho
 cases Option.some.inj (e1.symm.trans q1)
 subst f
 have F:=attrFacts (B.aok c n hk)
 have I:PySem.W.InstAt s.heap p (instObj c dx) c (some (dictOf es m)):=⟨q4,rfl,rfl,q5⟩
 have KI:=B.kinAt H.w
 have hes:es.length<=500:=by rw [q6.len_es];exact Nat.le_trans hn (Nat.le_of_ble_eq_true rfl)
 refine set_plain KI I F.sa (osa_mine (s:={ s with toks:=s.toks + 1 }) KI I q5 F.po F.tk F.hd q6.noRef hes ?_)
 obtain ⟨xs',w1,w2⟩:=EsRel.put (X:=X) rv (PyData.keyHash X.w.params n) (s.toks + 1) (n:=n) q6 q7
 have hne:p ≠ dx:=fun e=>by rw [e,q3] at q2;exact nomatch q2
 have hpn:=putName_dict n (PyData.keyHash X.w.params n) (.str n (s.toks + 1)) y es m
 generalize Obj.putName n (PyData.keyHash X.w.params n) (.str n (s.toks + 1)) y = g at hpn ⊢
 have hdx:(s.heap.update dx g).get? dx = some (dictOf (putL n (PyData.keyHash X.w.params n) (.str n (s.toks + 1)) y es) (putN n es m)):=by
  rw [Heap.get?_update_self _ q5 (by rw [hpn];rfl),hpn]
 have kp:∀ b o,b ≠ dx->s.heap.get? b = some o->(s.heap.update dx g).get? b = some o:=fun b o hb e=>(Heap.get?_update_ne _ _ _ _ hb).trans e
 exact hQ T ρ _ _ () (Ext.upd (.inr q3) kp) (List.prefix_refl _) (H.upd (.inr q3) kp ⟨_,hdx⟩ ⟨_,ho⟩ ⟨aput_aok (q6.len_xs.symm.trans (VRels.length l q7)) z hk,p,dx,_,_,xs',e1,q2,q3,kp _ _ hne q4,hdx,w1,w2⟩) trivial
theorem sim_setAttr (B:BA X) {aok:Addr->Str->Bool} (ha:aok = X.P.aok) {T:TT} {ρ:List Addr} {s:Shared} {S:SS} (H:St X d r T ρ env names S s.heap) {a v:V} {x y:Value} (ra:VRel X T ρ a x) (rv:VRel X T ρ v y) {n:Str} :
  SimAt X d r env names A T ρ s S (PySem.setAttr x n y) (setAttr aok a n v) RU:=by
 intro u S' e Q hQ
 subst ha
 cases a with
 | ref k=>
  obtain ⟨p,ho,e⟩:=bi e
  obtain ⟨⟨h1,h2⟩,e⟩:=ii e
  obtain ⟨_,e⟩:=sp e
  exact ins_put B H ra rv (insMO_some ho) h1 h2 (e ▸ hQ)
 | _=>exact no e
end
section
variable {X:Ctx} {d r:Nat} {env:Env} {names:List (Str × NameKind)} {A:Around}
theorem items_cases {T:TT} {ρ:List Addr} {s:Shared} {S:SS} (H:St X d r T ρ env names S s.heap) {a:V} {x:Value} (ra:VRel X T ρ a x) {l:List V} (e:items a S.ob = some l) :
  ListAt X T ρ s.heap l x ∨ a = .tup l:=by
 cases a with
 | lst k=>exact .inl (Option.some.inj e ▸ ra.at H.w)
 | tup k=>exact .inr (congrArg V.tup (Option.some.inj e))
 | ref n=>exact .inl (ref_at H ra e)
 | _=>exact no e
theorem sim_len {T:TT} {ρ:List Addr} {s:Shared} {S:SS} (H:St X d r T ρ env names S s.heap) {a:V} {x:Value} (ra:VRel X T ρ a x) {l:List V} (e:items a S.ob = some l) {Q:Value->Shared->Prop} (hQ:∀ t tk,Q (.int l.length t) { s with toks:=tk }) :
  wpAny (model X.prog X.w) A (PySem.call (.builtin "len") [x]) Q (fun _ _=>False) s:=by
 rcases items_cases H ra e with L | f
 ·obtain ⟨a,vs,f,hl,rv,len,lm⟩:=L.isList
  unfold lim at lm
  subst f
  refine PyProof.Rows.len_list hl (by rw [List.size_toArray];omega) ?_
  rw [List.size_toArray,len];exact hQ _ _
 ·subst f
  obtain ⟨lm,p,o,vs,f,ht,⟨n,g⟩,rv⟩:=ra
  subst f g
  have len:=VRels.length l rv
  unfold lim at lm
  refine PyProof.Rows.len_tuple (items:=vs.toArray) ⟨_,H.w.fro _ _ ht,rfl,_,rfl⟩ (by rw [List.size_toArray];omega) ?_
  rw [List.size_toArray,len];exact hQ _ _
theorem sim_listOf {T:TT} {ρ:List Addr} {s:Shared} {S S':SS} (H:St X d r T ρ env names S s.heap) {a:V} {x:Value} (ra:VRel X T ρ a x) {l:List V} (e:listOf a S.ob = some l) {m:Bool} {v:V} (e2:mkL m l S = some (v,S')) {Q:Value->Shared->Prop}
  (hQ:Cont X d r env names T ρ s S' (RV X) v Q):wpAny (model X.prog X.w) A (PySem.call (.type "list") [x]) Q (fun _ _=>False) s:=by
 obtain ⟨lm,a,o,vs,f,ho,⟨n,g⟩,rv⟩:=listOf_at H ra e
 subst f g
 exact call_list_seq a (T:="list") (.inl rfl) ho rfl rfl (fun h' c' k hn=>Cont.mkL (tk:=s.toks) H hQ rv e2 H.w.fresh (Keeps'.of k) hn) (len_lim rv lm)
theorem sim_int {T:TT} {ρ:List Addr} {s:Shared} {a:V} {x:Value} (ra:VRel X T ρ a x) {i:Int} (e:toI a = some i) {Q:Value->Shared->Prop} (hQ:∀ t tk,Q (.int i t) { s with toks:=tk }) :
  wpAny (model X.prog X.w) A (PySem.call (.type "int") [x]) Q (fun _ _=>False) s:=by
 cases a with
 | int k=>rw [← Option.some.inj e] at hQ;obtain ⟨t,f⟩:=ra;rw [f];exact call_int_int (hQ _ s.toks)
 | bool b=>rw [← Option.some.inj e] at hQ;rw [show x = .bool b from ra];exact call_int_bool (hQ _ _)
 | _=>exact no e
theorem sim_max {T:TT} {ρ:List Addr} {s:Shared} {S:SS} (H:St X d r T ρ env names S s.heap) (hh:A.handled = none) {a b:Int} {x y:Value} (ra:VRel X T ρ (.int a) x) (rb:VRel X T ρ (.int b) y) {Q:Value->Shared->Prop}
  (hQ:Cont X d r env names T ρ s S (RV X) (.int (if a < b then b else a)) Q):wpAny (model X.prog X.w) A (PySem.call (.builtin "max") [x,y]) Q (fun _ _=>False) s:=by
 obtain ⟨t,f⟩:=ra
 obtain ⟨u,g⟩:=rb
 rw [f,g]
 refine max_two_ints hh fun h' tk k=>?_
 have kp:=Keeps'.of (T:=T) k
 refine hQ T ρ h' tk _ (Ext.keep kp) (List.prefix_refl _) (H.keep kp) ?_
 by_cases z:a < b
 ·rw [if_pos z,if_pos z];exact ⟨u,rfl⟩
 ·rw [if_neg z,if_neg z];exact ⟨t,rfl⟩
theorem isi_of {s:Shared} {x:Value} {t:String} {b:Bool} {f:String->Bool} {Q E:Value->Shared->Prop} (ht:t = "bool" ∨ t = "list") (e:some (f t) = some b)
  (h1:∀ {Q:Value->Shared->Prop},(∀ tk,Q (.bool (f "bool")) { s with toks:=tk })->wpAny (model X.prog X.w) A (PySem.call (.builtin "isinstance") [x,.type "bool"]) Q E s)
  (h2:∀ {Q:Value->Shared->Prop},(∀ tk,Q (.bool (f "list")) { s with toks:=tk })->wpAny (model X.prog X.w) A (PySem.call (.builtin "isinstance") [x,.type "list"]) Q E s)
  (hQ:∀ tk,Q (.bool b) { s with toks:=tk }):wpAny (model X.prog X.w) A (PySem.call (.builtin "isinstance") [x,.type t]) Q E s:=by
 rw [← Option.some.inj e] at hQ
 rcases ht with h | h
 ·rw [h] at hQ ⊢;exact h1 hQ
 ·rw [h] at hQ ⊢;exact h2 hQ
theorem isi_list {T:TT} {ρ:List Addr} {s:Shared} {x:Value} {t:String} {b:Bool} {l:List V} {Q E:Value->Shared->Prop} (ht:t = "bool" ∨ t = "list") (L:ListAt X T ρ s.heap l x) (e:some (t == "list") = some b)
  (hQ:∀ tk,Q (.bool b) { s with toks:=tk }):wpAny (model X.prog X.w) A (PySem.call (.builtin "isinstance") [x,.type t]) Q E s:=by
 obtain ⟨a,vs,f,hl,rv,len,lm⟩:=L.isList
 rw [f]
 exact isi_of (f:=fun t=>t == "list") ht e (fun hQ=>IsiPair.isList_bool hl (fun _ _ e=>e) (hQ _)) (fun hQ=>IsiPair.isList_list hl (fun _ _ e=>e) (hQ s.toks)) hQ
theorem sim_isInst {T:TT} {ρ:List Addr} {s:Shared} {S:SS} (H:St X d r T ρ env names S s.heap) {a:V} {x:Value} (ra:VRel X T ρ a x) {t:String} (ht:t = "bool" ∨ t = "list") {b:Bool} (e:isInst t a S.ob = some b) {Q:Value->Shared->Prop} (hQ:∀ tk,Q (.bool b) { s with toks:=tk }) :
  wpAny (model X.prog X.w) A (PySem.call (.builtin "isinstance") [x,.type t]) Q (fun _ _=>False) s:=by
 cases a with
 | bool c=>
  rw [show x = .bool c from ra]
  exact isi_of (f:=fun t=>t == "bool") ht e (fun hQ=>IsiPair.bool_bool (hQ s.toks)) (fun hQ=>IsiPair.bool_list (hQ _)) hQ
 | none=>
  rw [show x = .none from ra]
  exact isi_of (f:=fun _=>false) ht e (fun hQ=>call_isinstance (isinstance_false_none (by decide +kernel) F.isi_meta_bool F.sub_NoneType_bool) (hQ _)) (fun hQ=>call_isinstance (isinstance_false_none (by decide +kernel) F.isi_meta_list F.sub_NoneType_list) (hQ _)) hQ
 | int c=>
  obtain ⟨u,f⟩:=ra
  rw [f]
  exact isi_of (f:=fun _=>false) ht e (fun hQ=>IsiPair.int_bool (hQ _)) (fun hQ=>IsiPair.int_list (hQ _)) hQ
 | str c=>
  obtain ⟨u,f⟩:=ra
  rw [f]
  exact isi_of (f:=fun _=>false) ht e (fun hQ=>IsiPair.str_bool (hQ _)) (fun hQ=>IsiPair.str_list (hQ _)) hQ
 | tup l=>
  obtain ⟨p,vs,f,hp,_⟩:=isTuple_of H.w ra
  rw [f]
  exact isi_of (f:=fun _=>false) ht e (fun hQ=>IsiPair.isTuple_bool hp (fun _ _ e=>e) (hQ _)) (fun hQ=>IsiPair.isTuple_list hp (fun _ _ e=>e) (hQ _)) hQ
 | lst l=>exact isi_list ht (ra.at H.w) e hQ
 | ref n=>
  obtain ⟨l,h,e⟩:=mi e
  exact isi_list ht (ref_at H ra h) (congrArg some e) hQ
 | _=>exact no e
theorem upd_seq {h:Heap} {a:Addr} {its:Array Value} {n:Nat} (f:Array Value->Array Value) (ho:h.get? a = some { cls:=.type "list",data:=.seq its n }):∃ n',(h.update a (Obj.mapSeq f)).get? a = some { cls:=.type "list",data:=.seq (f its) n' }:=by
 obtain ⟨n',e⟩:=mapSeq_exact f its n
 exact ⟨n',by rw [Heap.get?_update_self _ ho (by rw [e];rfl),e]⟩
end
end Mine
end
noncomputable section
open PySem PySem.W PyProof.Rows
namespace Mine
theorem plt_trans {x y z:Int × Int} (h:plt x y) (k:plt y z):plt x z:=by unfold plt at *;omega
theorem plt_asymm {x y:Int × Int} (h:plt x y):¬ plt y x:=by unfold plt at *;omega
theorem plt_total {x y:Int × Int} (h:¬ plt x y) (n:x ≠ y):plt y x:=by
 have q:¬ (x.1 = y.1/\x.2 = y.2):=fun e=>n (Prod.ext e.1 e.2)
 unfold plt at *;omega
section
variable {prog:Program} {w:World} {A:Around} {E:Value->Shared->Prop} {s:Shared} {K:Value->Int × Int} {vs:List Value}
noncomputable def Cmps (prog:Program) (w:World) (A:Around) (s:Shared) (K:Value->Int × Int) (vs:List Value):Prop:=
 ∀ x ∈ vs,∀ y ∈ vs,∀ (E:Value->Shared->Prop) (Q:Bool->Shared->Prop),Q (decide (plt (K x) (K y))) s->wpAny (model prog w) A (keyLt' (tuples' true) x y) Q E s
structure TB (K:Value->Int × Int) (vs:List Value) (st:SortSt):Prop where
 kind:kindOf st = tuples' true
 failed:failedOf st = none
 pend:pendingOf st = #[]
 perm:(arrOf st).Perm (pairsOf vs)
noncomputable def kAt (K:Value->Int × Int) (st:SortSt) (i:Nat):Int × Int:=match (arrOf st)[i]? with
 | some p=>K p.1
 | none=>(0,0)
theorem TB.size {st:SortSt} (B:TB K vs st):(arrOf st).size = vs.length:=B.perm.size_eq.trans (pairsOf_size vs)
theorem TB.get {st:SortSt} (B:TB K vs st) {i:Nat} (h:i < vs.length):∃ v q,v ∈ vs/\(arrOf st)[i]? = some (v,q)/\kAt K st i = K v:=by
 have hi:i < (arrOf st).size:=B.size.symm ▸ h
 have e:(arrOf st)[i]? = some (arrOf st)[i]:=getElem?_pos _ i hi
 have hl:=Array.perm_iff_toList_perm.mp B.perm
 rw [pairsOf_toList] at hl
 refine ⟨_,_,(mem_zip_self (hl.mem_iff.mp (Array.getElem_mem_toList hi))).2,e,?_⟩
 unfold kAt
 rw [e]
theorem TB.ne {st:SortSt} (B:TB K vs st) (hd:(vs.map K).Nodup) {i j:Nat} (hi:i < vs.length) (hj:j < vs.length) (n:i ≠ j):kAt K st i ≠ kAt K st j:=by
 have hl:=Array.perm_iff_toList_perm.mp B.perm
 rw [pairsOf_toList] at hl
 have h1:=hl.map fun p:Keyed=>K p.1
 have e2:(vs.zip vs).map (fun p:Keyed=>K p.1) = vs.map K:=by
  have h:=congrArg (List.map K) (List.map_fst_zip (l₁:=vs) (l₂:=vs) (Nat.le_refl _))
  rw [List.map_map] at h
  exact h
 rw [e2] at h1
 have hn:=h1.nodup_iff.mpr hd
 have hi':i < (arrOf st).size:=B.size.symm ▸ hi
 have hj':j < (arrOf st).size:=B.size.symm ▸ hj
 have ki:kAt K st i = K (arrOf st)[i].1:=by unfold kAt;rw [getElem?_pos _ i hi']
 have kj:kAt K st j = K (arrOf st)[j].1:=by unfold kAt;rw [getElem?_pos _ j hj']
 rw [ki,kj]
 intro e
 have li:i < ((arrOf st).toList.map fun p:Keyed=>K p.1).length:=by rw [List.length_map];exact hi'
 have lj:j < ((arrOf st).toList.map fun p:Keyed=>K p.1).length:=by rw [List.length_map];exact hj'
 have e':((arrOf st).toList.map fun p:Keyed=>K p.1)[i] = ((arrOf st).toList.map fun p:Keyed=>K p.1)[j]:=by
  rw [List.getElem_map,List.getElem_map];exact e
 exact n ((List.getElem_inj hn).mp e')
theorem TB.set {st:SortSt} (B:TB K vs st) {xs:Array Keyed} (h:xs.Perm (arrOf st)):TB K vs (setArr st xs):=⟨B.kind,B.failed,B.pend,h.trans B.perm⟩
theorem wp_lt {st:SortSt} (C:Cmps prog w A s K vs) (B:TB K vs st) {i j:Nat} (hi:i < vs.length) (hj:j < vs.length) {Q:Option Bool->SortSt->Prop} (h:Q (some (decide (plt (kAt K st i) (kAt K st j)))) st) :
  wpS (model prog w) A E s (ltAt' i j) Q st:=by
 obtain ⟨x,p,hx,e1,k1⟩:=B.get hi
 obtain ⟨y,q,hy,e2,k2⟩:=B.get hj
 rw [k1,k2] at h
 rw [ltAt'_eq]
 refine wpS_bind (wpS_get ?_)
 show wpS _ _ _ _ (do let x ← elem' (arrOf st) i;let y ← elem' (arrOf st) j;lt' x y) Q st
 rw [elem'_eq,elem'_eq,e1,e2]
 refine wpS_bind (wpS_pure (wpS_bind (wpS_pure ?_)))
 rw [lt'_eq]
 refine wpS_bind (wpS_get ?_)
 rw [B.kind]
 refine wpS_bind (wpS_lift (wpAny_attempt (C x hx y hy _ _ ?_)))
 exact ⟨rfl,wpS_pure h⟩
noncomputable def Up (K:Value->Int × Int) (st:SortSt) (n:Nat):Prop:=∀ i j,i < j->j < n->plt (kAt K st i) (kAt K st j)
noncomputable def Down (K:Value->Int × Int) (st:SortSt) (n:Nat):Prop:=∀ i j,i < j->j < n->plt (kAt K st j) (kAt K st i)
theorem Up.one (st:SortSt):Up K st 1:=fun i j h k=>absurd (Nat.lt_of_lt_of_le h (Nat.le_of_lt_succ k)) (Nat.not_lt_zero i)
theorem Up.snoc {st:SortSt} {n:Nat} (U:Up K st n) (h:plt (kAt K st (n - 1)) (kAt K st n)):Up K st (n + 1):=fun i j hij hj=>by
 by_cases z:j < n
 ·exact U i j hij z
 ·have z:j = n:=by omega
  subst z
  by_cases y:i = j - 1
  ·exact y ▸ h
  ·exact plt_trans (U i (j - 1) (by omega) (by omega)) h
theorem Down.snoc {st:SortSt} {n:Nat} (U:Down K st n) (h:plt (kAt K st n) (kAt K st (n - 1))):Down K st (n + 1):=fun i j hij hj=>by
 by_cases z:j < n
 ·exact U i j hij z
 ·have z:j = n:=by omega
  subst z
  by_cases y:i = j - 1
  ·exact y ▸ h
  ·exact plt_trans h (U i (j - 1) (by omega) (by omega))
theorem wp_asc {st:SortSt} (C:Cmps prog w A s K vs) (hd:(vs.map K).Nodup) (B:TB K vs st) {a:Nat} (ha:1<=a) (hl:a<=vs.length) (U:Up K st a) {Q:AscSt->SortSt->Prop}
  (h:∀ n,a<=n->n<=vs.length->Up K st n->(n = vs.length ∨ plt (kAt K st n) (kAt K st (n - 1)))->Q (none,n) st):wpS (model prog w) A E s (ascLoop a vs.length) Q st:=by
 unfold ascLoop
 refine wpS_forRange (I:=fun x c st'=>st' = st/\c = (none,x)/\Up K st x) ?_ ?_ ⟨rfl,rfl,U⟩
 ·rintro x c st' hax hxn ⟨rfl,rfl,U⟩
  have hx1:x - 1 < vs.length:=Nat.lt_of_le_of_lt (Nat.sub_le _ _) hxn
  refine wpS_bind (wp_lt C B hxn hx1 ?_)
  by_cases z:plt (kAt K st' x) (kAt K st' (x - 1))
  ·rw [decide_eq_true z]
   exact wpS_pure (h x hax (Nat.le_of_lt hxn) U (.inr z))
  ·rw [decide_eq_false z]
   exact wpS_pure ⟨rfl,rfl,U.snoc (plt_total z (B.ne hd hxn hx1 (by omega)))⟩
 ·rintro c st' ⟨rfl,rfl,U⟩
  rw [Nat.max_eq_right hl] at U ⊢
  exact h _ hl (Nat.le_refl _) U (.inl rfl)
theorem mirror_at {st:SortSt} {m k:Nat} (hm:m<=(arrOf st).size):kAt K (setArr st (mirror (arrOf st) 0 m ((m - 0) / 2))) k = if k < m then kAt K st (m - 1 - k) else kAt K st k:=by
 have e:=getElem?_mirror_all (xs:=arrOf st) (i:=0) hm k
 show (match (mirror (arrOf st) 0 m ((m - 0) / 2))[k]? with | some p=>K p.1 | none=>(0,0)) = _
 rw [e]
 by_cases z:k < m
 ·rw [if_pos ⟨Nat.zero_le _,z⟩,if_pos z,Nat.zero_add];rfl
 ·rw [if_neg fun y=>z y.2,if_neg z];rfl
theorem wp_tail {st:SortSt} (C:Cmps prog w A s K vs) (hd:(vs.map K).Nodup) (B:TB K vs st) {m:Nat} (h1:1<=m) (hl:m<=vs.length) (D:Down K st m) {Q:Option Nat->SortSt->Prop}
  (h:∀ n st',TB K vs st'->1<=n->n<=vs.length->Up K st' n->Q (some n) st'):wpS (model prog w) A E s (tail3 m vs.length) Q st:=by
 unfold tail3
 have hm:m<=(arrOf st).size:=B.size.symm ▸ hl
 have B':=B.set (mirror_perm (arrOf st) 0 m ((m - 0) / 2))
 refine wpS_bind (wpS_reverse (wpS_bind (wp_asc C hd B' h1 hl (fun i j hij hj=>?_) fun n hn1 hn2 U _=>wpS_pure (h n _ B' (Nat.le_trans h1 hn1) hn2 U))))
 rw [mirror_at hm,mirror_at hm,if_pos hj,if_pos (Nat.lt_trans hij hj)]
 exact D _ _ (by omega) (by omega)
theorem wp_desc {st:SortSt} (C:Cmps prog w A s K vs) (hd:(vs.map K).Nodup) (B:TB K vs st) {n:Nat} (h1:1<=n) (hl:n<=vs.length) (D:Down K st n) {Q:DescSt->SortSt->Prop}
  (h:∀ m,n<=m->m<=vs.length->Down K st m->Q (none,m,0) st):wpS (model prog w) A E s (descLoop n vs.length) Q st:=by
 unfold descLoop
 refine wpS_forRange (I:=fun x c st'=>st' = st/\c = (none,x,0)/\Down K st x) ?_ ?_ ⟨rfl,rfl,D⟩
 ·rintro x c st' hax hxn ⟨rfl,rfl,D⟩
  have hx1:x - 1 < vs.length:=Nat.lt_of_le_of_lt (Nat.sub_le _ _) hxn
  refine wpS_bind (wp_lt C B hxn hx1 ?_)
  by_cases z:plt (kAt K st' x) (kAt K st' (x - 1))
  ·rw [decide_eq_true z]
   exact wpS_pure ⟨rfl,rfl,D.snoc z⟩
  ·rw [decide_eq_false z]
   refine wpS_bind (wp_lt C B hx1 hxn ?_)
   rw [decide_eq_true (plt_total z (B.ne hd hxn hx1 (by omega)))]
   exact wpS_pure (h x hax (Nat.le_of_lt hxn) D)
 ·rintro c st' ⟨rfl,rfl,D⟩
  rw [Nat.max_eq_right hl] at D ⊢
  exact h _ hl (Nat.le_refl _) D
theorem wp_count {st:SortSt} (C:Cmps prog w A s K vs) (hd:(vs.map K).Nodup) (B:TB K vs st) (hl:1<=vs.length) {Q:Option Nat->SortSt->Prop}
  (h:∀ n st',TB K vs st'->1<=n->n<=vs.length->Up K st' n->Q (some n) st'):wpS (model prog w) A E s (countRun' 0 vs.length) Q st:=by
 rw [countRun0_eq]
 refine wpS_bind (wp_asc C hd B (Nat.le_refl 1) hl (Up.one st) fun n hn1 hn2 U hor=>?_)
 show wpS _ _ _ _ (if (n == vs.length) = true then _ else _) Q st
 by_cases z:n = vs.length
 ·rw [if_pos (beq_iff_eq.mpr z)]
  exact wpS_pure (h n st B hn1 hn2 U)
 ·rw [if_neg fun y=>z (beq_iff_eq.mp y)]
  have hn:n < vs.length:=Nat.lt_of_le_of_ne hn2 z
  by_cases y:n > 1
  ·rw [if_pos y]
   refine wpS_bind (wp_lt C B (by omega) (by omega) ?_)
   rw [decide_eq_true (U 0 (n - 1) (by omega) (by omega))]
   exact wpS_pure (h n st B hn1 hn2 U)
  ·rw [if_neg y]
   have y:n = 1:=by omega
   subst y
   have D:Down K st 2:=fun i j hij hj=>by
    have e:i = 0/\j = 1:=by omega
    rw [e.1,e.2];exact hor.resolve_left z
   unfold descPart
   refine wpS_bind (wpS_lift (wpAny_rule ⟨rfl,?_⟩))
   refine wpS_bind (wp_desc C hd B (by decide) hn D fun m hm1 hm2 D=>?_)
   exact wp_tail C hd B (by omega) hm2 D h
end
section
variable {prog:Program} {w:World} {A:Around} {E:Value->Shared->Prop} {s:Shared} {K:Value->Int × Int} {vs:List Value}
theorem bubble_at {st:SortSt} {k l i:Nat} (hk:k < (arrOf st).size) (hl:l<=k):kAt K (setArr st (bubble (arrOf st) k (k - l))) i = if i = l then kAt K st k else if l < i/\i<=k then kAt K st (i - 1) else kAt K st i:=by
 have e:=getElem?_bubble hk (k - l) (Nat.sub_le _ _) i
 rw [Nat.sub_sub_self hl] at e
 show (match (bubble (arrOf st) k (k - l))[i]? with | some p=>K p.1 | none=>(0,0)) = _
 rw [e]
 by_cases y:i = l
 ·rw [if_pos y,if_pos y];rfl
 ·rw [if_neg y,if_neg y]
  by_cases z:l < i/\i<=k
  ·rw [if_pos z,if_pos z];rfl
  ·rw [if_neg z,if_neg z];rfl
structure Spot (K:Value->Int × Int) (st:SortSt) (k l r:Nat):Prop where
 lr:l<=r
 rk:r<=k
 lo:∀ i,i < l->plt (kAt K st i) (kAt K st k)
 hi:∀ i,r<=i->i < k->plt (kAt K st k) (kAt K st i)
theorem wp_ins {st:SortSt} (C:Cmps prog w A s K vs) (hd:(vs.map K).Nodup) (B:TB K vs st) {ok:Nat} (h1:1<=ok) (hl:ok<=vs.length) (U:Up K st ok) {Q:Bool->SortSt->Prop}
  (h:∀ st',TB K vs st'->Up K st' vs.length->Q true st'):wpS (model prog w) A E s (binarySort' 0 vs.length ok) Q st:=by
 rw [binarySort'_eq]
 simp only [Nat.zero_add]
 refine wpS_bind (wpS_mono (wpS_forRange (I:=fun k c st'=>c = (none,())/\TB K vs st'/\Up K st' k) (Q:=fun c st'=>c = (none,())/\TB K vs st'/\Up K st' vs.length) ?_ ?_ ?_) ?_)
 ·rintro k c st' hk1 hk ⟨rfl,B,U⟩
  refine wpS_bind (wpS_mono (wpS_forRange (I:=fun x c st2=>st2 = st'/\∃ l r,c = (none,l,r)/\r - l<=k - x/\Spot K st' k l r) (Q:=fun c st2=>st2 = st'/\∃ l r,c = (none,l,r)/\Spot K st' k l l) ?_ ?_ ?_) ?_)
  ·rintro x c st2 _ hx ⟨rfl,l,r,rfl,hm,Sp⟩
   show wpS _ _ _ _ (if l ≥ r then _ else _) _ st2
   by_cases z:l ≥ r
   ·rw [if_pos z]
    have z:r = l:=Nat.le_antisymm z Sp.lr
    subst z
    exact wpS_pure ⟨rfl,_,_,rfl,Sp⟩
   ·rw [if_neg z]
    have zr:=Sp.rk
    have hm1:l<=(l + r) / 2/\(l + r) / 2 < r:=by omega
    have hmid:(l + r) / 2 < vs.length:=by omega
    refine wpS_bind (wp_lt C B hk hmid ?_)
    generalize (l + r) / 2 = m at hm1 hmid ⊢
    by_cases y:plt (kAt K st2 k) (kAt K st2 m)
    ·rw [decide_eq_true y]
     refine wpS_pure ⟨rfl,l,m,rfl,by omega,hm1.1,by omega,Sp.lo,fun i h1 h2=>?_⟩
     by_cases e:m = i
     ·exact e ▸ y
     ·exact plt_trans y (U m i (by omega) h2)
    ·rw [decide_eq_false y]
     have y:=plt_total y (B.ne hd hk hmid (by omega))
     refine wpS_pure ⟨rfl,m + 1,r,rfl,by omega,by omega,Sp.rk,fun i h1=>?_,Sp.hi⟩
     by_cases e:i = m
     ·exact e ▸ y
     ·exact plt_trans (U i m (by omega) (by omega)) y
  ·rintro c st2 ⟨rfl,l,r,rfl,hm,Sp⟩
   have e:r = l:=by have:=Sp.lr;omega
   subst e
   exact ⟨rfl,_,_,rfl,Sp⟩
  ·exact ⟨rfl,0,k,rfl,Nat.le_refl _,Nat.zero_le _,Nat.le_refl _,fun i h=>absurd h (Nat.not_lt_zero _),fun i h1 h2=>absurd h2 (Nat.not_lt.mpr h1)⟩
  ·rintro c st2 ⟨rfl,l,r,rfl,Sp⟩
   show wpS _ _ _ _ (do moveDown' k l;pure (ForInStep.yield (none,()))) _ _
   rw [moveDown'_eq]
   have hks:k < (arrOf st2).size:=B.size.symm ▸ hk
   refine wpS_bind (wpS_modify (wpS_pure ⟨rfl,B.set (bubble_perm _ _ _),fun i j hij hj=>?_⟩))
   rw [bubble_at hks Sp.rk,bubble_at hks Sp.rk]
   by_cases y:i = l
   ·rw [if_pos y,if_neg (by omega),if_pos (by omega)]
    exact Sp.hi _ (by omega) (by omega)
   ·rw [if_neg y]
    by_cases z:j = l
    ·rw [if_pos z,if_neg (by omega)]
     exact Sp.lo _ (by omega)
    ·rw [if_neg z]
     by_cases a:l < i/\i<=k
     ·rw [if_pos a,if_pos (by omega)]
      exact U _ _ (by omega) (by omega)
     ·rw [if_neg a]
      by_cases b:l < j/\j<=k
      ·rw [if_pos b]
       exact U _ _ (by omega) (by omega)
      ·rw [if_neg b]
       exact U _ _ hij (by have:=Sp.rk;omega)
 ·rintro c st' ⟨hc,B,U⟩
  rw [Nat.max_eq_left h1,Nat.max_eq_right hl] at U
  exact ⟨hc,B,U⟩
 ·rw [Nat.max_eq_left h1];exact ⟨rfl,B,U⟩
 ·rintro c st' ⟨rfl,B,U⟩
  exact wpS_pure (h st' B U)
noncomputable def SD (K:Value->Int × Int) (vs:List Value) (st:SortSt):Prop:=(arrOf st).Perm (pairsOf vs)/\failedOf st = none/\pendingOf st = #[(0,vs.length,0)]/\Up K st vs.length
theorem TB.done {st:SortSt} (B:TB K vs st) (U:Up K st vs.length):SD K vs (setPending st ((pendingOf st).push (0,vs.length,0))):=⟨B.perm,B.failed,by show (pendingOf st).push _ = _;rw [B.pend];rfl,U⟩
theorem wp_runs {st:SortSt} (C:Cmps prog w A s K vs) (hd:(vs.map K).Nodup) (B:TB K vs st) (h1:1<=vs.length) (h64:vs.length < 64) {Q:Unit->SortSt->Prop}
  (h:∀ st',(arrOf st').Perm (pairsOf vs)->failedOf st' = none->Up K st' vs.length->Q () st'):wpS (model prog w) A E s sortRuns' Q st:=by
 rw [sortRuns'_eq]
 refine wpS_bind (wpS_get ?_)
 have hmr:minRun' vs.length vs.length 0 = vs.length:=by
  obtain ⟨f,hf⟩:∃ f,vs.length = f + 1:=⟨vs.length - 1,by omega⟩
  rw [hf] at h64 ⊢
  rw [minRun'_succ,if_pos h64]
 rw [B.size]
 simp only [hmr]
 refine wpS_bind (wpS_mono (wpS_forRange (I:=fun x c st'=>x = 0/\c = (none,0)/\TB K vs st' ∨ 1<=x/\c = (none,vs.length)/\SD K vs st') (Q:=fun c st'=>c = (none,vs.length)/\SD K vs st') ?_ ?_ (.inl ⟨rfl,rfl,B⟩)) ?_)
 ·rintro x c st' _ hx (⟨rfl,rfl,B⟩ | ⟨hx1,rfl,D⟩)
  ·dsimp only
   rw [if_neg (by omega)]
   simp only [Nat.sub_zero,Nat.min_self,Nat.zero_add]
   refine wpS_bind (wp_count C hd B h1 fun m st2 B2 hm1 hm2 U2=>?_)
   dsimp only
   have hb:∀ {st:SortSt},TB K vs st->(pendingOf st).back? = none:=fun B=>by rw [B.pend];rfl
   by_cases z:m < vs.length
   ·rw [if_pos z]
    refine wpS_bind (wpS_lift (wpAny_rule ⟨rfl,?_⟩))
    refine wpS_bind (wp_ins C hd B2 hm1 hm2 U2 fun st3 B3 U3=>?_)
    simp only [Bool.not_true,Bool.false_eq_true,if_false]
    refine wpS_bind (wpS_get ?_)
    rw [hb B3]
    exact wpS_bind (wpS_modify (wpS_pure (.inr ⟨Nat.le_refl _,rfl,B3.done U3⟩)))
   ·rw [if_neg z]
    have z:m = vs.length:=by omega
    subst z
    refine wpS_bind (wpS_get ?_)
    rw [hb B2]
    exact wpS_bind (wpS_modify (wpS_pure (.inr ⟨Nat.le_refl _,rfl,B2.done U2⟩)))
  ·dsimp only
   rw [if_pos (Nat.le_refl _)]
   exact wpS_pure ⟨rfl,D⟩
 ·rintro c st' (⟨hx,_,_⟩ | ⟨_,hc,D⟩)
  ·rw [Nat.zero_max] at hx;omega
  ·exact ⟨hc,D⟩
 ·rintro c st' ⟨rfl,D⟩
  dsimp only
  refine wpS_bind (wpS_mono (wpS_forRange (I:=fun _ c st2=>st2 = st'/\c = (none,())) (Q:=fun c st2=>st2 = st'/\c = (none,())) ?_ (fun _ _ q=>q) ⟨rfl,rfl⟩) ?_)
  ·rintro x c st2 _ _ ⟨rfl,rfl⟩
   refine wpS_bind (wpS_get ?_)
   rw [if_pos (by rw [D.2.2.1];exact Nat.le_refl 1)]
   exact wpS_pure ⟨rfl,rfl⟩
  ·rintro c st2 ⟨rfl,rfl⟩
   exact wpS_pure (h _ D.1 D.2.1 D.2.2.2)
end
section
variable {prog:Program} {w:World} {A:Around} {E:Value->Shared->Prop} {s:Shared} {K:Value->Int × Int} {vs:List Value}
noncomputable def Prs (h:Heap) (K:Value->Int × Int) (vs:List Value):Prop:=∀ v ∈ vs,∃ t n ta tb,v = .ref t/\h.get? t = some { cls:=.type "tuple",data:=.seq #[.int (K v).1 ta,.int (K v).2 tb] n }
theorem keyLt_tuples (x y:Value):keyLt' (tuples' true) x y = (do
  let xs ← Builtin.List.listItems x;let ys ← Builtin.List.listItems y
  for ((p,q),i) in (xs.toList.zip ys.toList).zipIdx do
   if !(← eqBool p q) then return ← oneLt' (true && i == 0) p q
  return decide (xs.size < ys.size)):=rfl
theorem lt_ints {a b:Int} {t u:Tok} {Q:Bool->Shared->Prop} (h:Q (decide (a < b)) s):wpAny (model prog w) A (oneLt' false (.int a t) (.int b u)) Q E s:=by
 rw [oneLt'_eq]
 simp only [Bool.false_eq_true,if_false]
 refine wpAny_bind (wpAny_richCompare_same (typeIs_int s a t) (typeIs_int s b u) slot_int_lt (call_int_lt ⟨fun z=>(nomatch z),?_⟩))
 exact wpAny_truthy_bool h
theorem cmps_pairs (H:Prs s.heap K vs):Cmps prog w A s K vs:=fun x hx y hy E Q h=>by
 obtain ⟨t1,n1,a1,b1,e1,o1⟩:=H x hx
 obtain ⟨t2,n2,a2,b2,e2,o2⟩:=H y hy
 rw [keyLt_tuples]
 generalize K x = k at *
 generalize K y = l at *
 subst e1 e2
 refine wpAny_bind (listItems_at o1 rfl (wpAny_bind (listItems_at o2 rfl ?_)))
 simp only [List.zip_cons_cons,List.zip_nil_right,List.zipIdx_cons,List.zipIdx_nil,List.forIn_cons,List.forIn_nil]
 refine wpAny_bind (wpAny_bind (wpAny_bind (wpAny_eqBool_int ?_)))
 by_cases z:k.1 = l.1
 ·rw [show (k.1 == l.1) = true from beq_iff_eq.mpr z]
  refine wpAny_pure (wpAny_bind (wpAny_bind (wpAny_eqBool_int ?_)))
  by_cases y:k.2 = l.2
  ·rw [show (k.2 == l.2) = true from beq_iff_eq.mpr y]
   rw [show decide (plt k l) = false from decide_eq_false fun q=>by unfold plt at q;omega] at h
   exact wpAny_pure (wpAny_pure (wpAny_pure h))
  ·rw [show (k.2 == l.2) = false from beq_eq_false_iff_ne.mpr y]
   rw [show decide (plt k l) = decide (k.2 < l.2) from decide_eq_decide.mpr ⟨fun q=>by unfold plt at q;omega,fun q=>.inr ⟨z,q⟩⟩] at h
   exact wpAny_bind (lt_ints (wpAny_pure (wpAny_pure (wpAny_pure h))))
 ·rw [show (k.1 == l.1) = false from beq_eq_false_iff_ne.mpr z]
  rw [show decide (plt k l) = decide (k.1 < l.1) from decide_eq_decide.mpr ⟨fun q=>by unfold plt at q;omega,.inl⟩] at h
  exact wpAny_bind (oneLt_int (wpAny_pure (wpAny_pure (wpAny_pure h))))
theorem mapM_same {α β:Type} {f:α->Sem β} {g:α->β} (l:List α):(∀ v ∈ l,∀ Q:β->Shared->Prop,Q (g v) s->wpAny (model prog w) A (f v) Q E s)->∀ Q:List β->Shared->Prop,Q (l.map g) s->wpAny (model prog w) A (l.mapM f) Q E s:=by
 induction l with
 | nil=>intro _ Q h;rw [List.mapM_nil];exact wpAny_pure h
 | cons v l ih=>
  intro hf Q h
  rw [List.mapM_cons]
  exact wpAny_bind (hf v List.mem_cons_self _ (wpAny_bind (ih (fun v m=>hf v (List.mem_cons_of_mem _ m)) _ (wpAny_pure h))))
noncomputable def fstV (h:Heap) (v:Value):Option Value:=match v with
 | .ref t=>(h.get? t).bind fun o=>match o.data with
  | .seq xs _=>xs[0]?
  | _=>none
 | _=>none
theorem fst_pairs (H:Prs s.heap K vs):∀ v ∈ vs,∃ t,fstV s.heap v = some (.int (K v).1 t)/\∀ Q:Option Value->Shared->Prop,Q (fstV s.heap v) s->wpAny (model prog w) A (firstOfTuple' v) Q E s:=fun v m=>by
 obtain ⟨t,n,a,b,e,o⟩:=H v m
 generalize K v = k at *
 subst e
 have hf:fstV s.heap (.ref t) = some (.int k.1 a):=by
  show (s.heap.get? t).bind _ = _
  rw [o];rfl
 refine ⟨a,hf,fun Q h=>?_⟩
 rw [hf] at h
 show wpAny _ _ (do
  if (← PySem.typeOf (Value.ref t)) != Value.type "tuple" then return none
  return (← Builtin.List.listItems (Value.ref t))[0]?) Q E s
 refine wpAny_bind (wpAny_typeOf ⟨_,o,rfl⟩ ?_)
 rw [if_neg (by decide)]
 exact wpAny_bind (listItems_at o rfl (wpAny_pure h))
theorem kind_pairs (H:Prs s.heap K vs) (hn:vs ≠ []) {Q:SortKind->Shared->Prop} (h:Q (tuples' true) s):wpAny (model prog w) A (keyKind' vs.toArray) Q E s:=by
 rw [keyKind'_eq,List.mapM_toArray]
 have hf:=fst_pairs (prog:=prog) (w:=w) (A:=A) (E:=E) H
 refine wpAny_bind (wpAny_map (mapM_same (g:=fstV s.heap) vs (fun v m=>by obtain ⟨_,_,k⟩:=hf v m;exact k) _ ?_))
 have ha:(vs.map (fstV s.heap)).toArray.all (·.isSome) = true:=by
  rw [List.all_toArray,List.all_eq_true]
  intro o m
  obtain ⟨v,m,e⟩:=List.mem_map.mp m
  obtain ⟨t,k,_⟩:=hf v m
  rw [← e,k];rfl
 rw [if_pos ha]
 refine wpAny_bind (wpAny_rule ?_)
 rw [List.filterMap_toArray,List.filterMap_map]
 have hi:∀ f ∈ vs.filterMap (id ∘ fstV s.heap),∃ n t,f = .int n t:=fun f m=>by
  obtain ⟨v,m,e⟩:=List.mem_filterMap.mp m
  obtain ⟨t,k,_⟩:=hf v m
  exact ⟨_,t,(Option.some.inj (k.symm.trans e)).symm⟩
 have hne:vs.filterMap (id ∘ fstV s.heap) ≠ []:=by
  cases vs with
  | nil=>exact absurd rfl hn
  | cons v vs=>
   obtain ⟨t,k,_⟩:=hf v List.mem_cons_self
   rw [List.filterMap_cons_some (show (id ∘ fstV s.heap) v = _ from k)]
   exact List.cons_ne_nil _ _
 generalize vs.filterMap (id ∘ fstV s.heap) = fs at hi hne
 cases fs with
 | nil=>exact absurd rfl hne
 | cons f fs=>
  rw [oneTypeOnly'_eq,List.mapM_toArray,mapM_typeOf_ints (intsAre_map _ hi)]
  simp only [map_pure,pure_bind]
  have hall:((List.map (fun _=>Value.type "int") (f :: fs)).toArray.all fun x=>x == Value.type "int") = true:=by
   rw [List.all_toArray,List.all_map,List.all_eq_true]
   exact fun _ _=>rfl
  have h0:(List.map (fun _=>Value.type "int") (f :: fs)).toArray[0]? = some (Value.type "int"):=rfl
  rw [h0]
  dsimp only
  rw [if_pos hall]
  exact wpAny_bind (wpAny_pure (wpAny_pure h))
end
end Mine
end
noncomputable section
open PySem PySem.W PySem.Calls PyProof.Rows PySem.SeqAt
namespace Mine
section
variable {prog:Program} {w:World} {A:Around} {E:Value->Shared->Prop} {s:Shared} {K:Value->Int × Int} {vs:List Value}
theorem Prs.keep {h h':Heap} (H:Prs h K vs) (k:∀ b o,h.get? b = some o->h'.get? b = some o):Prs h' K vs:=fun v m=>by
 obtain ⟨t,n,a,b,e,o⟩:=H v m
 exact ⟨t,n,a,b,e,k _ _ o⟩
theorem out_of {st:SortSt} (hp:(arrOf st).Perm (pairsOf vs)) (U:Up K st vs.length):(arrOf st).map (·.2) = ((arrOf st).toList.map (·.1)).toArray/\((arrOf st).toList.map (·.1)).Perm vs/\(((arrOf st).toList.map (·.1)).map K).Pairwise plt:=by
 have hl:=Array.perm_iff_toList_perm.mp hp
 rw [pairsOf_toList] at hl
 refine ⟨?_,?_,?_⟩
 ·refine Array.ext' ?_
  rw [Array.toList_map]
  exact List.map_congr_left fun p m=>(mem_zip_self (hl.mem_iff.mp m)).1.symm
 ·have h:=hl.map Prod.fst
  rw [List.map_fst_zip (Nat.le_refl _)] at h
  exact h
 ·rw [List.pairwise_iff_getElem]
  intro i j hi hj hij
  rw [List.length_map,List.length_map] at hi hj
  have hs:(arrOf st).size = vs.length:=hp.size_eq.trans (pairsOf_size vs)
  have h:=U i j hij (hs ▸ hj)
  unfold kAt at h
  rw [getElem?_pos _ i hi,getElem?_pos _ j hj] at h
  rw [List.getElem_map,List.getElem_map,List.getElem_map,List.getElem_map]
  exact h
theorem sort_part {D e1:Nat} {P:PySem.Fin->Shared->Prop} (H:Prs s.heap K vs) (hd:(vs.map K).Nodup) (h64:vs.length < 64) (hD:s.heap.get? D = some { cls:=.type "list",data:=.seq #[] e1 })
  (h:∀ out c,List.Perm out vs->(out.map K).Pairwise plt->(s.heap.update D (Obj.mapSeq fun _=>out.toArray)).get? D = some { cls:=.type "list",data:=.seq out.toArray c }->P (.done (.ret .none)) { s with heap:=s.heap.update D (Obj.mapSeq fun _=>out.toArray)}) :
  wpAny (model prog w) A (do
   let kind ← if vs.toArray.size < 2 then pure general' else keyKind' vs.toArray
   let ((),st) ← (if vs.toArray.size < 2 then pure () else sortRuns').run (SortSt.mk' kind (vs.toArray.zip vs.toArray) #[] 7 none)
   let sorted:=(arrOf st).map (·.2)
   let touched:=(← seqEpoch D) != e1
   Builtin.List.listUpdate (Value.ref D) fun _=>sorted
   if let some e:=failedOf st then rule "list.sort.comparison-raised";throw e
   if touched then rule "list.sort.modified";raiseError "ValueError" "list modified during sort"
   ret Value.none) P E s:=by
 have run:∀ kind,(2<=vs.length->kind = tuples' true)->wpAny (model prog w) A ((if vs.toArray.size < 2 then pure () else sortRuns').run (SortSt.mk' kind (vs.toArray.zip vs.toArray) #[] 7 none)) (fun r s'=>s' = s/\(arrOf r.2).Perm (pairsOf vs)/\failedOf r.2 = none/\Up K r.2 vs.length) E s:=fun kind hk=>by
  by_cases h2:vs.toArray.size < 2
  ·rw [if_pos h2]
   rw [List.size_toArray] at h2
   exact wpAny_pure ⟨rfl,Array.Perm.refl _,rfl,fun i j hij hj=>by omega⟩
  ·rw [if_neg h2]
   rw [List.size_toArray] at h2
   have hk:=hk (Nat.le_of_not_lt h2)
   subst hk
   show wpS (model prog w) A E s sortRuns' (fun _ st'=>(arrOf st').Perm (pairsOf vs)/\failedOf st' = none/\Up K st' vs.length) (SortSt.mk' (tuples' true) (vs.toArray.zip vs.toArray) #[] 7 none)
   exact wp_runs (st:=SortSt.mk' (tuples' true) (vs.toArray.zip vs.toArray) #[] 7 none) (cmps_pairs H) hd ⟨rfl,rfl,rfl,Array.Perm.refl _⟩ (by omega) h64 fun st' a b c=>⟨a,b,c⟩
 have tail:∀ (kind:SortKind),(2<=vs.length->kind = tuples' true)->wpAny (model prog w) A (do
   let ((),st) ← (if vs.toArray.size < 2 then pure () else sortRuns').run (SortSt.mk' kind (vs.toArray.zip vs.toArray) #[] 7 none)
   let sorted:=(arrOf st).map (·.2)
   let touched:=(← seqEpoch D) != e1
   Builtin.List.listUpdate (Value.ref D) fun _=>sorted
   if let some e:=failedOf st then rule "list.sort.comparison-raised";throw e
   if touched then rule "list.sort.modified";raiseError "ValueError" "list modified during sort"
   ret Value.none) P E s:=fun kind hk=>by
  refine wpAny_bind (wpAny_mono (run kind hk) (fun r s' e=>?_) fun _ _ e=>e)
  obtain ⟨⟨⟩,st⟩:=r
  obtain ⟨e,hp,hf,U⟩:=e
  subst e
  obtain ⟨o1,o2,o3⟩:=out_of hp U
  obtain ⟨c,hc⟩:=upd_seq (fun _=>((arrOf st).toList.map (·.1)).toArray) hD
  have hl:((arrOf st).map (·.2)).size<=sizeLine + 1:=by rw [o1,List.size_toArray,o2.length_eq,sizeLine_eq];omega
  refine wpAny_bind (seqEpoch_at hD rfl ?_)
  refine wpAny_bind (listUpdate_at hD rfl ?_ (Nat.zero_le _) hl)
  dsimp only at hf ⊢
  rw [hf,o1]
  simp only [bne_self_eq_false,Bool.false_eq_true,if_false]
  exact wpAny_pure (h _ c o2 o3 hc)
 dsimp only
 by_cases h2:vs.toArray.size < 2
 ·rw [if_pos h2]
  exact wpAny_bind (wpAny_pure (tail _ fun z=>absurd h2 (Nat.not_lt.mpr z)))
 ·rw [if_neg h2]
  exact wpAny_bind (kind_pairs H (fun z=>h2 (by rw [z];decide)) (tail _ fun _=>rfl))
theorem sorted_pairs {l:Addr} {Q:Value->Shared->Prop} (hl:s.heap.IsList l vs.toArray) (H:Prs s.heap K vs) (hd:(vs.map K).Nodup) (h64:vs.length < 64)
  (h:∀ D c h' out,s.heap.objs.size<=D->(∀ b o,s.heap.get? b = some o->h'.get? b = some o)->h'.get? D = some { cls:=.type "list",data:=.seq (List.toArray out) c }->out.Perm vs->(out.map K).Pairwise plt->Q (.ref D) { s with heap:=h' }) :
  wpAny (model prog w) A (PySem.call (.builtin "sorted") [.ref l]) Q E s:=by
 have hz:vs.toArray.size<=sizeLine:=by rw [List.size_toArray,sizeLine_eq];omega
 refine Calls.call_function_entry kind_sorted plain_sorted entry_sorted (args_sorted1 _) ?_
 unfold Builtin.«sorted»
 refine wpAny_bind (m:=checkCount "sorted" 1 1 _) (wpAny_pure ?_)
 refine wpAny_bind (collect_list hl ?_ (by rw [sizeLine_eq];omega))
 refine wpAny_bind (wpAny_newList ?_ (by rw [sizeLine_eq];omega))
 have hsz:((s.heap.push { cls:=.type "list",data:=.seq #[]}).update s.heap.objs.size (Obj.mapSeq (·++vs.toArray))).objs.size = s.heap.objs.size + 1:=by
  rw [Heap.size_update,Heap.size_push]
 have hoL:(((s.heap.push { cls:=.type "list",data:=.seq #[]}).update s.heap.objs.size (Obj.mapSeq (·++vs.toArray))).push { cls:=.type "list",data:=.seq vs.toArray }).get? (s.heap.objs.size + 1) = some { cls:=.type "list",data:=.seq vs.toArray }:=by
  rw [← hsz];exact Heap.get?_push_size _ rfl
 have keep:∀ b o,s.heap.get? b = some o->(((s.heap.push { cls:=.type "list",data:=.seq #[]}).update s.heap.objs.size (Obj.mapSeq (·++vs.toArray))).push { cls:=.type "list",data:=.seq vs.toArray }).get? b = some o:=fun b o q=>by
  have hlt:b < s.heap.objs.size:=Heap.lt_size q
  rw [Heap.get?_push_ne _ _ _ (by rw [hsz];exact Nat.ne_of_lt (Nat.lt_succ_of_lt hlt)),Heap.get?_update_ne _ _ _ _ (Nat.ne_of_lt hlt),Heap.get?_push_ne _ _ _ (Nat.ne_of_lt hlt)]
  exact q
 show wpAny _ _ _ _ _ { s with heap:=((s.heap.push { cls:=.type "list",data:=.seq #[]}).update s.heap.objs.size (Obj.mapSeq (·++vs.toArray))).push { cls:=.type "list",data:=.seq vs.toArray }}
 generalize hH:((s.heap.push { cls:=.type "list",data:=.seq #[]}).update s.heap.objs.size (Obj.mapSeq (·++vs.toArray))).push { cls:=.type "list",data:=.seq vs.toArray } = G at hoL keep ⊢
 rw [hsz]
 refine wpAny_bind (wpAny_holding (wpAny_call_entry slot_list_sort ⟨_,hoL,rfl⟩ entry_list_sort ?body (args_list_sort _)))
 rw [list_sort_plain]
 obtain ⟨e1,ho1⟩:=upd_seq (fun _=>(#[]:Array Value)) hoL
 refine wpAny_bind (listItems_at hoL rfl ?_)
 refine wpAny_bind (listUpdate_at hoL rfl ?_ hz (Nat.zero_le _))
 refine wpAny_bind (seqEpoch_at ho1 rfl ?_)
 refine wpAny_bind (wpAny_newTuple ?_ hz)
 refine wpAny_bind (wpAny_newList ?_ (Nat.zero_le _))
 refine wpAny_holding ?_
 have ho2:=Heap.get?_push_of_some { cls:=.type "list",data:=.seq ([]:List Value).toArray } (Heap.get?_push_of_some { cls:=.type "tuple",data:=.seq (vs.toArray:Array Value).toList.toArray } ho1)
 have keep2:∀ b o,s.heap.get? b = some o->(((G.update (s.heap.objs.size + 1) (Obj.mapSeq fun _=>#[])).push { cls:=.type "tuple",data:=.seq (vs.toArray:Array Value).toList.toArray }).push { cls:=.type "list",data:=.seq ([]:List Value).toArray }).get? b = some o:=fun b o e=>by
  have hlt:b < s.heap.objs.size:=Heap.lt_size e
  exact Heap.get?_push_of_some _ (Heap.get?_push_of_some _ ((Heap.get?_update_ne _ _ _ _ (Nat.ne_of_lt (Nat.lt_succ_of_lt hlt))).trans (keep b o e)))
 refine sort_part (H.keep keep2) hd h64 ho2 fun out c a b e=>⟨_,rfl,wpAny_pure ⟨_,rfl,h _ c _ out (Nat.le_succ _) (fun b o q=>?_) e a b⟩⟩
 exact (Heap.get?_update_ne _ _ _ _ (Nat.ne_of_lt (Nat.lt_succ_of_lt (Heap.lt_size q)))).trans (keep2 b o q)
end
noncomputable def intV (o:Option Value):Int:=match o with
 | some (.int a _)=>a
 | _=>0
noncomputable def seqV (d:Data):Int × Int:=match d with
 | .seq xs _=>(intV xs[0]?,intV xs[1]?)
 | _=>(0,0)
noncomputable def prA (h:Heap) (v:Value):Int × Int:=match v with
 | .ref t=>(h.get? t).elim (0,0) fun o=>seqV o.data
 | _=>(0,0)
theorem prOf_some {v:V} {p:Int × Int} (h:prOf v = some p):v = prV p:=by
 cases v with
 | tup l=>cases l with
  | nil=>exact no h
  | cons x l=>cases l with
   | nil=>exact no h
   | cons y l=>cases l with
    | cons _ _=>exact no h
    | nil=>
     obtain ⟨a,e1,h⟩:=i1 (v:=x) (f:=fun a=>int1 y fun b=>some (a,b)) h
     obtain ⟨b,e2,h⟩:=i1 h
     rw [e1,e2,← Option.some.inj h];rfl
 | _=>exact no h
section
variable {X:Ctx} {d r:Nat} {env:Env} {names:List (Str × NameKind)} {A:Around}
inductive Pr1 (X:Ctx) (T:TT) (ρ:List Addr) (h:Heap) (p:Int × Int) (v:Value):Prop
 | mk (k:prA h v = p) (t:Addr) (n:Nat) (ta tb:Tok) (e:v = .ref t) (o:h.get? t = some { cls:=.type "tuple",data:=.seq #[.int p.1 ta,.int p.2 tb] n }) (r:VRel X T ρ (prV p) v)
theorem pr_at {T:TT} {ρ:List Addr} {h:Heap} (W:WRel X T h) {v:V} {x:Value} {p:Int × Int} (H:VRel X T ρ v x) (e:prOf v = some p):Pr1 X T ρ h p x:=by
 rw [prOf_some e] at H
 obtain ⟨z,a,o,vs,e,t,⟨n,q⟩,⟨x1,xs,e1,⟨ta,f1⟩,⟨x2,xs',e2,⟨tb,f2⟩,e3⟩⟩⟩:=id H
 subst e e3 e2 e1 f1 f2 q
 have g:=W.fro _ _ t
 refine ⟨?_,a,n,ta,tb,rfl,g,H⟩
 show (h.get? a).elim _ _ = _
 rw [g];rfl
theorem prs_at {T:TT} {ρ:List Addr} {h:Heap} (W:WRel X T h) (l:List V):∀ {vs:List Value} {ps:List (Int × Int)},VRels X T ρ l vs->prsOf l = some ps->vs.map (prA h) = ps/\∀ v ∈ vs,Pr1 X T ρ h (prA h v) v:=by
 induction l with
 | nil=>
  intro vs ps H e
  rw [show vs = [] from H,← Option.some.inj e]
  exact ⟨rfl,fun _ m=>nomatch m⟩
 | cons v l ih=>
  intro vs ps ⟨x,xs,e0,a,b⟩ e
  obtain ⟨p,e1,e⟩:=bi e
  obtain ⟨qs,e2,e⟩:=mi e
  obtain ⟨h1,h2⟩:=ih b e2
  have g:=pr_at W a e1
  subst e0 e
  refine ⟨?_,fun w m=>?_⟩
  ·rw [List.map_cons,h1];obtain ⟨k,_,_,_,_,_,_,_⟩:=g;exact congrArg (· :: qs) k
  ·rcases List.mem_cons.mp m with m | m
   ·rw [m];exact (let ⟨k,_,_,_,_,_,_,_⟩:=g;k) ▸ g
   ·exact h2 w m
theorem vrels_prs {T:TT} {ρ:List Addr} {h:Heap}:∀ {out:List Value},(∀ v ∈ out,Pr1 X T ρ h (prA h v) v)->VRels X T ρ ((out.map (prA h)).map prV) out
 | [],_=>rfl
 | v :: out,H=>⟨v,out,rfl,let ⟨_,_,_,_,_,_,_,r⟩:=H v List.mem_cons_self;r,vrels_prs fun w m=>H w (List.mem_cons_of_mem _ m)⟩
theorem psort_of {ps out:List (Int × Int)} (h:out.Perm ps) (s:out.Pairwise plt):out = psort ps:=by
 refine List.Perm.eq_of_pairwise (le:=fun a b=>(!decide (plt b a)) = true) (fun a b _ _ h1 h2=>?_) (s.imp fun {a b} h=>?_) (List.pairwise_mergeSort (fun a b c h1 h2=>?_) (fun a b=>?_) ps) (h.trans (List.mergeSort_perm ps _).symm)
 ·rw [Bool.not_eq_true',decide_eq_false_iff_not] at h1 h2
  exact Prod.ext (by unfold plt at *;omega) (by unfold plt at *;omega)
 ·rw [Bool.not_eq_true',decide_eq_false_iff_not];exact plt_asymm h
 ·rw [Bool.not_eq_true',decide_eq_false_iff_not] at *
  unfold plt at *;omega
 ·rw [Bool.or_eq_true,Bool.not_eq_true',Bool.not_eq_true',decide_eq_false_iff_not,decide_eq_false_iff_not]
  unfold plt;omega
theorem sim_sorted {T:TT} {ρ:List Addr} {s:Shared} {S S':SS} (H:St X d r T ρ env names S s.heap) {a:V} {x:Value} (ra:VRel X T ρ a x) {l:List V} (e:listOf a S.ob = some l) {m:Bool} {v:V} (e2:sortL m l S = some (v,S')) {Q:Value->Shared->Prop}
  (hQ:Cont X d r env names T ρ s S' (RV X) v Q):wpAny (model X.prog X.w) A (PySem.call (.builtin "sorted") [x]) Q (fun _ _=>False) s:=by
 obtain ⟨a,vs,f,hl,rv,len,lm⟩:=(listOf_at H ra e).isList
 obtain ⟨ps,hp,e2⟩:=bi e2
 obtain ⟨⟨h1,h2⟩,e2⟩:=ii e2
 obtain ⟨e3,k⟩:=prs_at H.w l rv hp
 subst f
 have lv:vs.length < 64:=by rw [← List.length_map (as:=vs) (f:=prA s.heap),e3];exact h2
 refine sorted_pairs (K:=prA s.heap) hl (fun v m=>let ⟨_,t,n,ta,tb,e,o,_⟩:=k v m;⟨t,n,ta,tb,e,o⟩) (e3.symm ▸ h1) lv fun D c h' out hD kp hn hperm hpw=>?_
 have hs:out.map (prA s.heap) = psort ps:=psort_of (e3 ▸ hperm.map (prA s.heap)) hpw
 exact Cont.mkL (tk:=s.toks) H hQ (hs ▸ vrels_prs fun v m=>k v (hperm.subset m)) e2 (H.w.free (Heap.get?_none_of_le hD)) (Keeps'.of kp) hn
end
section
variable {X:Ctx} {d r:Nat} {env:Env} {names:List (Str × NameKind)} {A:Around}
theorem Cont.after {T T1:TT} {ρ ρ1:List Addr} {s:Shared} {S:SS} {α β:Type} {R:TT->List Addr->α->β->Prop} {v:α} {Q:β->Shared->Prop} (c:Cont X d r env names T ρ s S R v Q) {h1:Heap} {tk:Nat} (e:Ext d r T s.heap T1 h1) (p:ρ <+: ρ1) :
  Cont X d r env names T1 ρ1 { s with heap:=h1,toks:=tk } S R v Q:=
 fun T' ρ' h' tk' y e' p' H' hr=>c T' ρ' h' tk' y (e.trans e') (p.trans p') H' hr
theorem Ext.grows {T T1:TT} {h h1:Heap} (e:Ext d r T h T1 h1):Grows T T1:=e.fro
theorem VRel.after {T T1:TT} {ρ ρ1:List Addr} {h h1:Heap} {v:V} {x:Value} (hr:VRel X T ρ v x) (e:Ext d r T h T1 h1) (p:ρ <+: ρ1):VRel X T1 ρ1 v x:=VRel.mono e.grows p v hr
theorem VRels.after {T T1:TT} {ρ ρ1:List Addr} {h h1:Heap} {v:List V} {x:List Value} (hr:VRels X T ρ v x) (e:Ext d r T h T1 h1) (p:ρ <+: ρ1):VRels X T1 ρ1 v x:=VRels.mono e.grows p v hr
noncomputable abbrev SimV (X:Ctx) (d r:Nat) (env:Env) (names:List (Str × NameKind)) (A:Around) (t:Sem Value) (f:M V):Prop:=Sim X d r env names A t f (RV X)
noncomputable abbrev SimB (X:Ctx) (d r:Nat) (env:Env) (names:List (Str × NameKind)) (A:Around) (t:Sem Bool) (f:M Bool):Prop:=Sim X d r env names A t f RB
theorem sim_BinOp {l rr:Expr} {op:Operator} {pos:Pos} {m:Bool} {f g:M V} (hf:SimV X d r env names A (eval l env) f) (hg:SimV X d r env names A (eval rr env) g):SimV X d r env names A (eval (.BinOp l op rr pos) env) (eBin m op f g):=by
 intro T ρ s S H v S' e Q hQ
 obtain ⟨a,S1,e1,e⟩:=bnd_some e
 obtain ⟨b,S2,e2,e⟩:=bnd_some e
 refine wpAny_BinOp (hf T ρ s S H a S1 e1 _ fun T1 ρ1 h1 tk1 x X1 p1 H1 r1=>hg T1 ρ1 _ S1 H1 b S2 e2 _ fun T2 ρ2 h2 tk2 y X2 p2 H2 r2=>?_)
 exact sim_bin H2 (r1.after X2 p2) r2 v S' e Q (Cont.after (Cont.after hQ X1 p1) X2 p2)
theorem sim_Neg {x:Expr} {pos:Pos} {f:M V} (hf:SimV X d r env names A (eval x env) f):SimV X d r env names A (eval (.UnaryOp .USub x pos) env) (eNeg f):=by
 intro T ρ s S H v S' e Q hQ
 obtain ⟨a,S1,e1,e⟩:=bnd_some e
 refine wpAny_UnaryOp (hf T ρ s S H a S1 e1 _ fun T1 ρ1 h1 tk1 x X1 p1 H1 r1=>?_)
 obtain ⟨i,f,e⟩:=i1 e
 obtain ⟨t,g⟩:=int_of f r1
 rw [g]
 exact PyProof.Rows.neg_int (Cont.same (Cont.after hQ X1 p1 (tk:=tk1)) H1 (Option.some.inj e) ⟨_,rfl⟩)
inductive ToB (v:V) (S S':SS) (b:Bool):Prop
 | mk (e:v = .bool b) (k:S = S')
theorem toB_some {v:V} {S S':SS} {b:Bool} (e:toB v S = some (b,S')):ToB v S S' b:=by
 cases v with
 | bool c=>obtain ⟨e,k⟩:=ret_some e;exact ⟨congrArg V.bool e,k⟩
 | _=>exact no e
theorem truthy_v {T:TT} {ρ:List Addr} {s:Shared} {v:V} {x:Value} {b:Bool} (rv:VRel X T ρ v x) (e:v = .bool b) {Q:Bool->Shared->Prop} {E:Value->Shared->Prop} (h:Q b s):wpAny (model X.prog X.w) A (truthy x) Q E s:=by
 rw [e] at rv
 rw [show x = .bool b from rv];exact wpAny_truthy_bool h
theorem sim_IfExp {t b o:Expr} {pos:Pos} {c:M Bool} {f g:M V} (ht:SimB X d r env names A (isTrue t env (eval t env)) c) (hf:SimV X d r env names A (eval b env) f) (hg:SimV X d r env names A (eval o env) g) :
  SimV X d r env names A (eval (.IfExp t b o pos) env) (eIf c f g):=by
 intro T ρ s S H v S' e Q hQ
 obtain ⟨a,S1,e1,e⟩:=bnd_some e
 refine wpAny_IfExp (ht T ρ s S H a S1 e1 _ fun T1 ρ1 h1 tk1 x X1 p1 H1 r1=>?_)
 rw [← show a = x from r1]
 cases a with
 | true=>exact hf T1 ρ1 _ S1 H1 v S' e Q (Cont.after hQ X1 p1)
 | false=>exact hg T1 ρ1 _ S1 H1 v S' e Q (Cont.after hQ X1 p1)
inductive Sims (X:Ctx) (d r:Nat) (env:Env) (names:List (Str × NameKind)) (A:Around):List (Sem Value)->List (M V)->Prop
 | nil:Sims X d r env names A [] []
 | cons {t f ts fs}:SimV X d r env names A t f->Sims X d r env names A ts fs->Sims X d r env names A (t :: ts) (f :: fs)
noncomputable abbrev RVs (X:Ctx):TT->List Addr->List V->List Value->Prop:=fun T ρ l xs=>VRels X T ρ l xs
theorem sim_boolOp {op:BoolOp} {pos:Pos} {ts:List (Sem Value)} {fs:List (M V)} (h:Sims X d r env names A ts fs):SimV X d r env names A (boolOp pos op ts) (eBool op fs):=by
 induction h with
 | nil=>exact sim_lift_none
 | @cons t f ts fs h1 h2 ih=>
  cases h2 with
  | nil=>exact h1
  | @cons t2 f2 ts2 fs2 h3 h4=>
   intro T ρ s S H v S' e Q hQ
   obtain ⟨a,S1,e1,e⟩:=bnd_some e
   obtain ⟨b,S2,e2,e⟩:=bnd_some e
   show wpAny _ _ (t >>= fun v=>standAt pos >>= fun _=>holding [v] (truthy v) >>= fun tt=>match op,tt with
    | .And,false | .Or,true=>pure v
    | _,_=>boolOp pos op (t2 :: ts2)) _ _ _
   refine wpAny_bind (h1 T ρ s S H a S1 e1 _ fun T1 ρ1 h1 tk1 x X1 p1 H1 r1=>wpAny_bind (wpAny_standAt (wpAny_bind (wpAny_holding ?_))))
   obtain ⟨eb,hS⟩:=toB_some e2
   subst hS
   refine truthy_v r1 eb ?_
   have hQ1:=Cont.after hQ X1 p1 (tk:=tk1)
   have stop:(some (a,S1):Option (V × SS)) = some (v,S')->wpAny (model X.prog X.w) A (pure x) Q (fun _ _=>False) { s with heap:=h1,toks:=tk1 }:=fun e=>wpAny_pure (Cont.same hQ1 (tk:=tk1) H1 (Option.some.inj e) r1)
   have go:=fun e=>ih T1 ρ1 _ S1 H1 v S' e Q hQ1
   cases op with
   | And=>cases b with
    | false=>exact stop e
    | true=>exact go e
   | Or=>cases b with
    | false=>exact go e
    | true=>exact stop e
theorem sim_cmpAt {T:TT} {ρ:List Addr} {s:Shared} {S S':SS} (H:St X d r T ρ env names S s.heap) (hu:A.units + 120<=cLine) {op:CmpOp} {a c:V} {x y:Value} (ra:VRel X T ρ a x) (rc:VRel X T ρ c y) {v:V} (e:((cmpv op a c S.ob).map fun r=>(V.bool r,S)) = some (v,S')) {Q:Value->Shared->Prop}
  (hQ:Cont X d r env names T ρ s S' (RV X) v Q):wpAny (model X.prog X.w) A (compareOp op x y) Q (fun _ _=>False) s:=by
 obtain ⟨b,hb,e⟩:=mi e
 exact cmp_wp H hu ra rc hb fun tk=>Cont.same hQ (tk:=tk) H e rfl
theorem sim_Compare (hu:A.units + 120<=cLine) {l c:Expr} {op:CmpOp} {pos:Pos} {f g:M V} (hf:SimV X d r env names A (eval l env) f) (hg:SimV X d r env names A (eval c env) g) (hm:behindInMarks op c = false ∨ g = lift none) :
  SimV X d r env names A (eval (.Compare l [op] [c] pos) env) (eCmp op f g):=by
 intro T ρ s S H v S' e Q hQ
 obtain ⟨a,S1,e1,e⟩:=bnd_some e
 obtain ⟨b,S2,e2,e⟩:=bnd_some e
 rcases hm with hm | hm
 ·refine wpAny_Compare1 (hf T ρ s S H a S1 e1 _ fun T1 ρ1 h1 tk1 x X1 p1 H1 r1=>hg T1 ρ1 _ S1 H1 b S2 e2 _ fun T2 ρ2 h2 tk2 y X2 p2 H2 r2=>?_) hm
  exact sim_cmpAt H2 hu (r1.after X2 p2) r2 e (Cont.after (Cont.after hQ X1 p1) X2 p2)
 ·rw [hm] at e2;exact no e2
theorem sim_Not {x:Expr} {pos:Pos} {w:Sem Value} {t:M Bool} (ht:SimB X d r env names A (isTrue x env (eval x env)) t):SimB X d r env names A (isTrue (.UnaryOp .Not x pos) env w) (tNot t):=by
 intro T ρ s S H v S' e Q hQ
 obtain ⟨a,S1,e1,e⟩:=bnd_some e
 obtain ⟨rfl,rfl⟩:=ret_some e
 show wpAny _ _ (isTrue x env (eval x env) >>= fun b=>pure (!b)) _ _ _
 refine wpAny_bind (ht T ρ s S H a S1 e1 _ fun T1 ρ1 h1 tk1 x X1 p1 H1 r1=>wpAny_pure ?_)
 rw [← show a = x from r1]
 exact Cont.here (Cont.after hQ X1 p1 (tk:=tk1)) (tk:=tk1) H1 rfl
theorem sim_tIf {t b o:Expr} {pos:Pos} {w:Sem Value} {c f g:M Bool} (ht:SimB X d r env names A (isTrue t env (eval t env)) c) (hf:SimB X d r env names A (isTrue b env (eval b env)) f) (hg:SimB X d r env names A (isTrue o env (eval o env)) g) :
  SimB X d r env names A (isTrue (.IfExp t b o pos) env w) (tIf c f g):=by
 intro T ρ s S H v S' e Q hQ
 obtain ⟨a,S1,e1,e⟩:=bnd_some e
 show wpAny _ _ (isTrue t env (eval t env) >>= fun q=>if q = true then isTrue b env (eval b env) else isTrue o env (eval o env)) _ _ _
 refine wpAny_bind (ht T ρ s S H a S1 e1 _ fun T1 ρ1 h1 tk1 x X1 p1 H1 r1=>?_)
 rw [← show a = x from r1]
 cases a with
 | true=>exact hf T1 ρ1 _ S1 H1 v S' e Q (Cont.after hQ X1 p1)
 | false=>exact hg T1 ρ1 _ S1 H1 v S' e Q (Cont.after hQ X1 p1)
inductive SimTs (X:Ctx) (d r:Nat) (env:Env) (names:List (Str × NameKind)) (A:Around):List Expr->List (M Bool)->Prop
 | nil:SimTs X d r env names A [] []
 | cons {e t es ts}:SimB X d r env names A (isTrue e env (eval e env)) t->SimTs X d r env names A es ts->SimTs X d r env names A (e :: es) (t :: ts)
theorem sim_allTrue {op:BoolOp} {es:List Expr} {ts:List (M Bool)} (h:SimTs X d r env names A es ts):SimB X d r env names A (allTrue op es env) (tAll op ts):=by
 induction h with
 | nil=>
  intro T ρ s S H v S' e Q hQ
  obtain ⟨rfl,rfl⟩:=ret_some e
  refine wpAny_pure (Cont.here hQ (tk:=s.toks) H ?_)
  cases op <;> rfl
 | @cons x t es ts h1 h2 ih=>
  intro T ρ s S H v S' e Q hQ
  obtain ⟨a,S1,e1,e⟩:=bnd_some e
  show wpAny _ _ (isTrue x env (eval x env) >>= fun q=>match op,q with
   | .And,false=>pure false
   | .Or,true=>pure true
   | _,_=>allTrue op es env) _ _ _
  refine wpAny_bind (h1 T ρ s S H a S1 e1 _ fun T1 ρ1 h1 tk1 x X1 p1 H1 r1=>?_)
  rw [← show a = x from r1]
  have hQ1:=Cont.after hQ X1 p1 (tk:=tk1)
  have stop:∀ b,some (b,S1) = some (v,S')->wpAny (model X.prog X.w) A (pure b) Q (fun _ _=>False) { s with heap:=h1,toks:=tk1 }:=fun b e=>by
   obtain ⟨f,g⟩:=sp e
   rw [← g] at hQ1
   exact wpAny_pure (Cont.here hQ1 (tk:=tk1) H1 f.symm)
  have go:=fun e=>ih T1 ρ1 _ S1 H1 v S' e Q hQ1
  cases op with
  | And=>cases a with
   | false=>exact stop _ e
   | true=>exact go e
  | Or=>cases a with
   | false=>exact go e
   | true=>exact stop _ e
theorem sim_tVal {x:Expr} {f:M V} (hf:SimV X d r env names A (eval x env) f) (he:isTrue x env (eval x env) = (do let v ← eval x env;standAt x.pos;holding [v] (truthy v))):SimB X d r env names A (isTrue x env (eval x env)) (tVal f):=by
 intro T ρ s S H v S' e Q hQ
 obtain ⟨a,S1,e1,e⟩:=bnd_some e
 rw [he]
 refine wpAny_bind (hf T ρ s S H a S1 e1 _ fun T1 ρ1 h1 tk1 x X1 p1 H1 r1=>wpAny_bind (wpAny_standAt (wpAny_holding ?_)))
 obtain ⟨eb,q⟩:=toB_some e
 subst q
 exact truthy_v r1 eb (Cont.here (Cont.after hQ X1 p1 (tk:=tk1)) (tk:=tk1) H1 rfl)
theorem sim_tCmp (hu:A.units + 120<=cLine) {l c:Expr} {op:CmpOp} {pos:Pos} {w:Sem Value} {f g:M V} (hf:SimV X d r env names A (eval l env) f) (hg:SimV X d r env names A (eval c env) g) (hm:behindInMarks op c = false ∨ g = lift none) :
  SimB X d r env names A (isTrue (.Compare l [op] [c] pos) env w) (tCmp op f g):=by
 intro T ρ s S H v S' e Q hQ
 obtain ⟨a,S1,e1,e⟩:=bnd_some e
 obtain ⟨b,S2,e2,e⟩:=bnd_some e
 rcases hm with hm | hm
 ·refine wpAny_isTrue_Compare1 (hf T ρ s S H a S1 e1 _ fun T1 ρ1 h1 tk1 x X1 p1 H1 r1=>hg T1 ρ1 _ S1 H1 b S2 e2 _ fun T2 ρ2 h2 tk2 y X2 p2 H2 r2=>?_) hm
  obtain ⟨c,hc,e⟩:=mi e
  cases e
  exact cmp_wp H2 hu (r1.after X2 p2) r2 hc fun tk=>wpAny_truthy_bool (Cont.here (Cont.after (Cont.after hQ X1 p1) X2 p2 (tk:=tk)) (tk:=tk) H2 rfl)
 ·rw [hm] at e2;exact no e2
theorem sim_tCmp2 (hu:A.units + 120<=cLine) {l c c2:Expr} {o1 o2:CmpOp} {pos:Pos} {w:Sem Value} {f g k:M V} (hf:SimV X d r env names A (eval l env) f) (hg:SimV X d r env names A (eval c env) g) (hk:SimV X d r env names A (eval c2 env) k)
  (hm:lastMarks [o1,o2] [c,c2] = false):SimB X d r env names A (isTrue (.Compare l [o1,o2] [c,c2] pos) env w) (tCmp2 o1 o2 f g k):=by
 intro T ρ s S H v S' e Q hQ
 obtain ⟨a,S1,e1,e⟩:=bnd_some e
 obtain ⟨b,S2,e2,e⟩:=bnd_some e
 refine isTrue_chain (hf T ρ s S H a S1 e1 _ fun T1 ρ1 h1 tk1 x X1 p1 H1 r1=>?_) hm
 show wpAny _ _ (holding [x] (eval c env) >>= fun rv=>standAt pos >>= fun _=>holding [x,rv] (compareOp o1 x rv) >>= fun q=>release [x,rv] [q] >>= fun _=>
  holding [q,rv] (truthy q) >>= fun tt=>if tt = true then testChain pos rv [o2] [eval c2 env] else pure false) _ _ _
 refine wpAny_bind (wpAny_holding (hg T1 ρ1 _ S1 H1 b S2 e2 _ fun T2 ρ2 h2 tk2 y X2 p2 H2 r2=>wpAny_bind (wpAny_standAt (wpAny_bind (wpAny_holding ?_)))))
 cases hc:cmpv o1 a b S2.ob with
 | none=>rw [hc] at e;exact no e
 | some q=>
  rw [hc] at e
  refine cmp_wp H2 hu (r1.after X2 p2) r2 hc fun tk=>wpAny_bind (wpAny_release (wpAny_bind (wpAny_holding (wpAny_truthy_bool ?_))))
  cases q with
  | false=>
   cases e
   simp only [Bool.false_eq_true,if_false]
   exact wpAny_pure (Cont.here (Cont.after (Cont.after hQ X1 p1) X2 p2 (tk:=tk)) (tk:=tk) H2 rfl)
  | true=>
   dsimp only at e
   obtain ⟨u,S3,e3,e⟩:=bnd_some e
   obtain ⟨w',hw,e⟩:=mi e
   cases e
   simp only [if_true]
   show wpAny _ _ (holding [y] (eval c2 env) >>= fun rv=>standAt pos >>= fun _=>operate [y,rv] (compareOp o2 y rv) >>= fun q=>holding [q] (truthy q)) _ _ _
   refine wpAny_bind (wpAny_holding (hk T2 ρ2 { s with heap:=h2,toks:=tk } S2 H2 u _ e3 _ fun T3 ρ3 h3 tk3 z X3 p3 H3 r3=>wpAny_bind (wpAny_standAt (wpAny_bind ?_))))
   have q:=cmp_wp (A:=A) (s:={ s with heap:=h3,toks:=tk3 }) (E:=fun _ _=>False) (Q:=fun c s₃=>wpAny (model X.prog X.w) A (holding [c] (truthy c)) Q (fun _ _=>False) s₃) H3 hu (r2.after X3 p3) r3 hw fun tk'=>wpAny_holding (wpAny_truthy_bool (Cont.here (Cont.after (Cont.after (Cont.after hQ X1 p1) X2 p2 (tk:=tk)) X3 p3 (tk:=tk')) (tk:=tk') H3 rfl))
   exact wpAny_operate' q
end
section
variable {X:Ctx} {d r:Nat} {env:Env} {names:List (Str × NameKind)} {A:Around}
theorem Ext.hide {T T2:TT} {h h1 h2:Heap} {a:Addr} {t:Tag} (e:T a = .no) (k:Keeps' T h h1) (x:Ext d r (Mine.tset T a t) h1 T2 h2):Ext d r T h (Mine.tset T2 a .no) h2:=by
 have ne:∀ {b:Addr} {u:Tag},T b = u->u ≠ .no->b ≠ a:=fun p q z=>q (p.symm.trans (z ▸ e))
 exact {
  fro:=fun b o q=>by have z:=ne q (by intro z;cases z);rw [tset_ne z];exact x.fro b o (by rw [tset_ne z];exact q)
  itr:=fun b o q=>by have z:=ne q (by intro z;cases z);rw [tset_ne z];exact x.itr b o (by rw [tset_ne z];exact q)
  frm:=fun b o q l=>by have z:=ne q (by intro z;cases z);rw [tset_ne z];exact x.frm b o (by rw [tset_ne z];exact q) l
  frmK:=fun b i o q l g=>by have z:=ne q (by intro z;cases z);exact x.frmK b i o (by rw [tset_ne z];exact q) l (k b o (by rw [q];intro z;cases z) g)
  mu:=fun b i n q l=>by have z:=ne q (by intro z;cases z);rw [tset_ne z];exact x.mu b i n (by rw [tset_ne z];exact q) l
  muK:=fun b i n o q l g=>by have z:=ne q (by intro z;cases z);exact x.muK b i n o (by rw [tset_ne z];exact q) l (k b o (by rw [q];intro z;cases z) g)
  md:=fun b i n q l=>by have z:=ne q (by intro z;cases z);rw [tset_ne z];exact x.md b i n (by rw [tset_ne z];exact q) l
  mdK:=fun b i n o q l g=>by have z:=ne q (by intro z;cases z);exact x.mdK b i n o (by rw [tset_ne z];exact q) l (k b o (by rw [q];intro z;cases z) g)}
theorem St.free {T:TT} {ρ:List Addr} {S:SS} {h:Heap} {a:Addr} {o:Obj} (H:St X d r T ρ env names S h) (t:T a = .itr o):St X d r (tset T a .no) ρ env names S h:=by
 have ne:∀ {b:Addr} {u:Tag},T b = u->(∀ o,u ≠ .itr o)->b ≠ a:=fun p q z=>q o (p.symm.trans (z ▸ t))
 have g:Grows T (tset T a .no):=fun b o q=>by rw [tset_ne (ne q (by intro _ z;cases z))];exact q
 exact {
  w:={
   fro:=fun b o q=>by
    by_cases z:b = a
    ·subst z;rw [tset_self] at q;cases q
    ·rw [tset_ne z] at q;exact H.w.fro b o q
   itr:=fun b o q=>by
    by_cases z:b = a
    ·subst z;rw [tset_self] at q;cases q
    ·rw [tset_ne z] at q;exact H.w.itr b o q
   live:=fun b q=>by
    by_cases z:b = a
    ·subst z;exact absurd tset_self q
    ·rw [tset_ne z] at q;exact H.w.live b q
   base:=fun b o q=>g b o (H.w.base b o q)}
  f:=H.f.mono g (List.prefix_refl _) (fun b e q _=>by rw [tset_ne (ne q (by intro _ z;cases z))];exact q) fun _ _ _ _ _ q=>q
  o:=⟨H.o.len,fun n o q=>(H.o.obj n o q).mono g (List.prefix_refl _) (fun b q=>by rw [tset_ne (ne q (by intro _ z;cases z))];exact q) (fun b q=>by rw [tset_ne (ne q (by intro _ z;cases z))];exact q) fun _ _ _ q=>q⟩}
theorem Grows.hide {T T2:TT} {a:Addr} {o:Obj} (g:Grows T T2) (t:T2 a = .itr o):Grows T (Mine.tset T2 a .no):=fun b x q=>by
 rw [tset_ne]
 ·exact g b x q
 ·rintro rfl
  rw [g b x q] at t;cases t
theorem VRels.hide {T:TT} {ρ:List Addr} {a:Addr} {o:Obj} {l:List V} {xs:List Value} (t:T a = .itr o) (h:VRels X T ρ l xs):VRels X (tset T a .no) ρ l xs:=
 VRels.mono (Grows.hide (fun _ _ e=>e) t) (List.prefix_refl _) l h
theorem VRel.hide {T:TT} {ρ:List Addr} {a:Addr} {o:Obj} {l:V} {xs:Value} (t:T a = .itr o) (h:VRel X T ρ l xs):VRel X (tset T a .no) ρ l xs:=
 VRel.mono (Grows.hide (fun _ _ e=>e) t) (List.prefix_refl _) l h
theorem starEach_one {e:Expr} {r:List Expr} {env:Env} (h:isStar e = false):starEach (e :: r) env = (false,eval e env) :: starEach r env:=by
 cases e with
 | Starred a b=>exact nob h.symm
 | _=>rfl
theorem starEach_plain {env:Env} {es:List Expr}:es.any isStar = false->starEach es env = (evalEach es env).map fun t=>(false,t):=by
 induction es with
 | nil=>exact fun _=>rfl
 | cons e r ih=>
  intro h
  rw [List.any_cons,Bool.or_eq_false_iff] at h
  rw [starEach_one h.1,ih h.2];rfl
theorem backTo_plain {pos:Pos} {ts:List (Sem Value)}:backTo pos (ts.map fun t=>(false,t)) = ts.map fun t=>(false,t):=by
 unfold backTo
 rw [List.map_map]
 rfl
theorem plain_cases {α:Type} {es:List Expr} {f:M α}:(es.any isStar = false/\plain es f = f) ∨ plain es f = lift none:=by
 unfold plain
 cases h:es.any isStar
 ·exact .inl ⟨rfl,rfl⟩
 ·exact .inr rfl
theorem sim_spliced {ts:List (Sem Value)} {fs:List (M V)} (h:Sims X d r env names A ts fs):Sim X d r env names A (spliced (ts.map fun t=>(false,t))) (eSeq fs) (RVs X):=by
 induction h with
 | nil=>
  intro T ρ s S H v S' e Q hQ
  obtain ⟨rfl,rfl⟩:=ret_some e
  exact wpAny_pure (Cont.here hQ (tk:=s.toks) H rfl)
 | @cons t f ts fs h1 h2 ih=>
  intro T ρ s S H v S' e Q hQ
  obtain ⟨a,S1,e1,e⟩:=bnd_some e
  obtain ⟨b,S2,e2,e⟩:=bnd_some e
  obtain ⟨rfl,rfl⟩:=ret_some e
  show wpAny _ _ (t >>= fun v=>(pure [v]:Sem (List Value)) >>= fun here=>holding here (spliced (ts.map fun t=>(false,t))) >>= fun r=>pure (here++r)) _ _ _
  refine wpAny_bind (h1 T ρ s S H a S1 e1 _ fun T1 ρ1 h1 tk1 x X1 p1 H1 r1=>wpAny_bind (wpAny_pure (wpAny_bind (wpAny_holding ?_))))
  refine ih T1 ρ1 _ S1 H1 b S2 e2 _ fun T2 ρ2 h2 tk2 y X2 p2 H2 r2=>wpAny_pure ?_
  exact Cont.here (Cont.after (Cont.after hQ X1 p1) X2 p2 (tk:=tk2)) (tk:=tk2) H2 ⟨x,y,rfl,r1.after X2 p2,r2⟩
theorem sim_items {es:List Expr} {pos:Pos} {fs:List (M V)} (hp:es.any isStar = false) (h:Sims X d r env names A (evalEach es env) fs):Sim X d r env names A (spliced (backTo pos (starEach es env))) (eSeq fs) (RVs X):=by
 rw [starEach_plain hp,backTo_plain];exact sim_spliced h
theorem sim_List {es:List Expr} {pos:Pos} {m:Bool} {fs:List (M V)} (h:Sims X d r env names A (evalEach es env) fs):SimV X d r env names A (eval (.List es pos) env) (plain es (eList m fs)):=by
 rcases plain_cases (es:=es) (f:=eList m fs) with ⟨hp,hq⟩ | hq <;> rw [hq]
 ·intro T ρ s S H v S' e Q hQ
  obtain ⟨a,S1,e1,e⟩:=bnd_some e
  exact wpAny_List (sim_items hp h T ρ s S H a S1 e1 _ fun T1 ρ1 h1 tk1 x X1 p1 H1 r1=>⟨len_lim r1 (mk_some e).1,Cont.mkL (s:={ s with heap:=h1,toks:=tk1 }) H1 (Cont.after hQ X1 p1) r1 e H1.w.fresh (Keeps'.push H1.w _) (Heap.get?_push_size _ rfl)⟩)
 ·exact sim_lift_none
theorem sim_Tuple {es:List Expr} {k:Nat} {pos:Pos} {fs:List (M V)} (h:Sims X d r env names A (evalEach es env) fs):SimV X d r env names A (eval (.Tuple es k pos) env) (plain es (eTup fs)):=by
 rcases plain_cases (es:=es) (f:=eTup fs) with ⟨hp,hq⟩ | hq <;> rw [hq]
 ·intro T ρ s S H v S' e Q hQ
  obtain ⟨a,S1,e1,e⟩:=bnd_some e
  obtain ⟨hl,e⟩:=im e
  obtain ⟨f,g⟩:=ret_some e
  subst f g
  refine wpAny_Tuple (sim_items hp h T ρ s S H a S1 e1 _ fun T1 ρ1 h1 tk1 x X1 p1 H1 r1=>⟨len_lim r1 hl,?_⟩)
  have fr:=H1.w.fresh
  have kp:=Keeps'.push H1.w { cls:=.type "tuple",data:=.seq x.toArray }
  exact Cont.after hQ X1 p1 (tk:=tk1) _ ρ1 _ tk1 _ (Ext.tset fr kp) (List.prefix_refl _) (H1.newF fr kp (Heap.get?_push_size _ rfl))
   ⟨hl,_,_,x,rfl,tset_self,⟨_,rfl⟩,VRels.mono (Grows.tset fr) (List.prefix_refl _) _ r1⟩
 ·exact sim_lift_none
inductive SimPs (X:Ctx) (d r:Nat) (env:Env) (names:List (Str × NameKind)) (A:Around):List (Sem Value × Sem Value)->List (M V)->List (M V)->Prop
 | nil:SimPs X d r env names A [] [] []
 | cons {t f u g ts fs gs}:SimV X d r env names A t f->SimV X d r env names A u g->SimPs X d r env names A ts fs gs->SimPs X d r env names A ((t,u) :: ts) (f :: fs) (g :: gs)
noncomputable def RPs (X:Ctx):TT->List Addr->List V × List V->List (Value × Value)->Prop:=fun T ρ p xs=>VRels X T ρ p.1 (xs.map (·.1))/\VRels X T ρ p.2 (xs.map (·.2))
theorem sim_pairs {ts:List (Sem Value × Sem Value)} {fs gs:List (M V)} (h:SimPs X d r env names A ts fs gs) :
  Sim X d r env names A (evalPairs ts) (ePairs fs gs) (RPs X):=by
 induction h with
 | nil=>
  intro T ρ s S H v S' e Q hQ
  obtain ⟨rfl,rfl⟩:=ret_some e
  exact wpAny_pure (Cont.here hQ (tk:=s.toks) H ⟨rfl,rfl⟩)
 | @cons t f u g ts fs gs h1 h2 h3 ih=>
  intro T ρ s S H v S' e Q hQ
  obtain ⟨a,S1,e1,e⟩:=bnd_some e
  obtain ⟨b,S2,e2,e⟩:=bnd_some e
  obtain ⟨c,S3,e3,e⟩:=bnd_some e
  obtain ⟨rfl,rfl⟩:=ret_some e
  refine evalPairs_cons (h1 T ρ s S H a S1 e1 _ fun T1 ρ1 h1 tk1 x X1 p1 H1 r1=>?_)
  refine h2 T1 ρ1 _ S1 H1 b S2 e2 _ fun T2 ρ2 h2 tk2 y X2 p2 H2 r2=>?_
  refine ih T2 ρ2 _ S2 H2 c S3 e3 _ fun T3 ρ3 h3 tk3 z X3 p3 H3 r3=>?_
  exact Cont.here (Cont.after (Cont.after (Cont.after hQ X1 p1) X2 p2) X3 p3 (tk:=tk3)) (tk:=tk3) H3
   ⟨⟨x,_,rfl,(r1.after X2 p2).after X3 p3,r3.1⟩,⟨y,_,rfl,r2.after X3 p3,r3.2⟩⟩
theorem storeAll_wp {T:TT} {ρ:List Addr} {a:Addr} {ks':List Ky} {l':List V} {xs:List (Value × Value)}:∀ {kl vl:List V} {ks:List Ky} {l:List V} {vs:List Value} {s:Shared} {Q:PUnit->Shared->Prop},
  VRels X T ρ kl (xs.map (·.1))->VRels X T ρ vl (xs.map (·.2))->dFill kl vl ks l = some (ks',l')->ks.length = vs.length->VRels X T ρ l vs->s.heap.DictOf (kyKind X.prog X.w) a (ks.zip vs)->ks.length + xs.length<=100 ->
  (∀ h' tk vs',ks'.length = vs'.length->VRels X T ρ l' vs'->h'.DictOf (kyKind X.prog X.w) a (ks'.zip vs')->Heap.SameBut a s.heap h'->Q ⟨⟩ { s with heap:=h',toks:=tk }) ->
  wpAny (model X.prog X.w) A (storeAll a xs) Q (fun _ _=>False) s:=by
 induction xs with
 | nil=>
  intro kl vl ks l vs s Q hk hv hf hl rv D hn hQ
  have hk:=(VRels.length kl hk).symm
  have hv:=(VRels.length vl hv).symm
  rw [List.eq_nil_of_length_eq_zero hk,List.eq_nil_of_length_eq_zero hv] at hf
  obtain ⟨f,g⟩:=sp hf
  subst f g
  exact wpAny_pure (hQ s.heap s.toks vs hl rv D ⟨rfl,fun _ _=>rfl⟩)
 | cons p xs ih=>
  intro kl vl ks l vs s Q hk hv hf hl rv D hn hQ
  cases kl with
  | nil=>exact nomatch (show (p :: xs).map (·.1) = [] from hk)
  | cons k kl=>
  cases vl with
  | nil=>exact nomatch (show (p :: xs).map (·.2) = [] from hv)
  | cons v vl=>
  obtain ⟨_,_,e1,rk,hk⟩:=hk
  obtain ⟨_,_,e2,rw',hv⟩:=hv
  rw [← (List.cons.inj e1).1] at rk
  rw [← (List.cons.inj e1).2] at hk
  rw [← (List.cons.inj e2).1] at rw'
  rw [← (List.cons.inj e2).2] at hv
  obtain ⟨ky,hky,hf⟩:=bi hf
  have nd:ks.Nodup:=by
   obtain ⟨_,_,_,_,_,_,_,_,h5⟩:=D
   rwa [zip_fst hl] at h5
  obtain ⟨vs1,w1,w2,w3⟩:=dput_stored (k:=ky) rw' hl nd rv
  have hn':ks.length + (xs.length + 1)<=100:=hn
  have dl:=dput_len (k:=ky) (v:=v) (ks:=ks) (l:=l)
  unfold storeAll
  rw [List.forIn_cons]
  refine wpAny_bind (wpAny_bind (wpAny_dictSet_pairs (key_is rk hky) D (fun h' D' hs'=>?_) ?_))
  ·rw [w1] at D'
   exact wpAny_pure (ih (s:={ s with heap:=h',toks:=s.toks + 1 }) hk hv hf w2 w3 D' (by omega) fun h2 tk vs2 q1 q2 q3 q4=>hQ h2 tk vs2 q1 q2 q3 ⟨q4.1.trans hs'.1,fun b hb=>(q4.2 b hb).trans (hs'.2 b hb)⟩)
  ·rw [List.length_zip,sizeLine_eq];omega
theorem mkD_post {T:TT} {ρ:List Addr} {h h':Heap} {S S':SS} (H:St X d r T ρ env names S h) {m:Bool} {ks:List Ky} {l:List V} {vs:List Value} {v:V} {a:Addr} (hv:VRels X T ρ l vs) (e:mkD m ks l S = some (v,S'))
  (fr:T a = .no) (ne:(a == sysModules) = false) (kp:Keeps' T h h') {o:Obj} (ho:h'.get? a = some o) (hd:dictObj X o ks vs):NewI X d r env names T ρ h h' S' v a:=by
 cases m with
 | false=>
  obtain ⟨f,g⟩:=ret_some e
  subst f g
  exact ⟨_,ρ,Ext.tset fr kp,List.prefix_refl _,H.newF fr kp ho,_,_,vs,rfl,tset_self,ne,hd,VRels.mono (Grows.tset fr) (List.prefix_refl _) l hv⟩
 | true=>
  obtain ⟨f,g⟩:=sp e
  subst f g
  exact ⟨_,_,Ext.tset fr kp,List.prefix_append _ _,H.newM fr kp ho ⟨_,_,vs,get_last H.o.len,tset_self,ho,ne,hd,VRels.mono (Grows.tset fr) (List.prefix_append _ _) l hv⟩,⟨_,get_last H.o.len,rfl⟩⟩
theorem pairs_len {ts:List (Sem Value × Sem Value)} {fs gs:List (M V)} (h:SimPs X d r env names A ts fs gs):∀ {S S1:SS} {p:List V × List V},ePairs fs gs S = some (p,S1)->p.1.length = ts.length:=by
 induction h with
 | nil=>intro S S1 p e;rw [← (ret_some e).1];rfl
 | cons _ _ _ ih=>
  intro S S1 p e
  obtain ⟨_,_,_,e⟩:=bnd_some e
  obtain ⟨_,_,_,e⟩:=bnd_some e
  obtain ⟨_,_,e3,e⟩:=bnd_some e
  rw [← (ret_some e).1]
  exact congrArg Nat.succ (ih e3)
theorem dict0 {h:Heap} {a:Addr} (q:h.get? a = some { cls:=.type "dict",data:=.dict #[]}):h.DictOf (kyKind X.prog X.w) a (([]:List Ky).zip ([]:List Value)):=
 ⟨_,_,_,q,⟨rfl,rfl,rfl⟩,rfl,(fun i hi=>absurd hi (by simp)),.nil,List.nodup_nil⟩
theorem sim_Dict {B:BF X} {keys:List (Option Expr)} {values:List Expr} {pos:Pos} {m:Bool} {fs gs:List (M V)} (hall:keys.all (·.isSome) = true) (hl:keys.length = values.length) (hlen:keys.length<=15)
  (h:SimPs X d r env names A (pairTrees keys values env pos) fs gs):SimV X d r env names A (eval (.Dict keys values pos) env) (eDict m fs gs):=by
 intro T ρ s S H v S' e Q hQ
 obtain ⟨p,S1,e1,e⟩:=bnd_some e
 obtain ⟨⟨ks,vs⟩,hf,e⟩:=bi e
 have fr:=H.w.fresh
 have ne:=base_lt B H.w
 have kp:=Keeps'.push H.w { cls:=.type "dict",data:=.dict #[]}
 have ho:(s.heap.push { cls:=.type "dict",data:=.dict #[]}).get? s.heap.objs.size = some { cls:=.type "dict",data:=.dict #[]}:=Heap.get?_push_size _ rfl
 cases keys with
 | nil=>
  cases values with
  | cons _ _=>exact absurd hl.symm (Nat.succ_ne_zero _)
  | nil=>
   cases h
   obtain ⟨f,g⟩:=ret_some e1
   subst f g
   obtain ⟨f,g⟩:=sp hf
   subst f g
   obtain ⟨o,ho',hd⟩:=DictOf_obj (X:=X) (dict0 ho) rfl
   obtain ⟨T',ρ',x1,x2,x3,x4⟩:=mkD_post (m:=m) H (ks:=[]) (l:=[]) (vs:=[]) (v:=v) rfl e fr ne kp ho' hd
   exact wpAny_Dict_empty (hQ T' ρ' _ s.toks _ x1 x2 x3 x4)
 | cons k0 keys=>
  refine wpAny_Dict_any hall hl (List.cons_ne_nil _ _) hlen ?_
  have l1:=pairs_len h e1
  have l2:=pairTrees_length (k0 :: keys) values env pos hall hl
  refine sim_pairs h _ ρ { s with heap:=s.heap.push { cls:=.type "dict",data:=.dict #[]}} S (H.newI fr kp ho) p S1 e1 _ fun T1 ρ1 h1 tk1 xs X1 p1 H1 r1=>?_
  have t1:=X1.itr _ _ tset_self
  have hx:xs.length<=100:=by
   have:=VRels.length _ r1.1
   rw [List.length_map] at this
   rw [this,l1,l2];exact Nat.le_trans hlen (Nat.le_of_ble_eq_true rfl)
  refine storeAll_wp (T:=tset T1 s.heap.objs.size .no) (ρ:=ρ1) (s:={ s with heap:=h1,toks:=tk1 }) (VRels.hide t1 r1.1) (VRels.hide t1 r1.2) hf (vs:=[]) rfl rfl (dict0 (H1.w.itr _ _ t1)) (by rw [List.length_nil,Nat.zero_add];exact hx) fun h' tk vs' q1 q2 q3 q4=>?_
  obtain ⟨o,ho',hd⟩:=DictOf_obj q3 q1
  have kp':Keeps' (tset T1 s.heap.objs.size .no) h1 h':=fun b o hb e=>by
   rw [q4.2 b (fun z=>hb (z ▸ tset_self))];exact e
  obtain ⟨T',ρ',x1,x2,x3,x4⟩:=mkD_post (m:=m) (H1.free t1) (v:=v) q2 e tset_self ne kp' ho' hd
  exact hQ T' ρ' h' tk _ ((Ext.hide fr kp X1).trans x1) (p1.trans x2) x3 x4
end
section
variable {X:Ctx} {d r:Nat} {env:Env} {names:List (Str × NameKind)} {A:Around}
theorem sim_Subscript {o i:Expr} {pos:Pos} {f g:M V} (hf:SimV X d r env names A (eval o env) f) (hg:SimV X d r env names A (eval i env) g) (hs:g = lift none ∨ ∀ x y,subscripted i false x y = operate [x,y] (getItem x y)) :
  SimV X d r env names A (eval (.Subscript o i pos) env) (eSub f g):=by
 intro T ρ s S H v S' e Q hQ
 obtain ⟨a,S1,e1,e⟩:=bnd_some e
 obtain ⟨b,S2,e2,e⟩:=bnd_some e
 rcases hs with hs | hs
 ·rw [hs] at e2;exact no e2
 refine Subscript_ (hf T ρ s S H a S1 e1 _ fun T1 ρ1 h1 tk1 x X1 p1 H1 r1=>hg T1 ρ1 _ S1 H1 b S2 e2 _ fun T2 ρ2 h2 tk2 y X2 p2 H2 r2=>?_)
 exact sim_sub (s:={ s with heap:=h2,toks:=tk2 }) H2 (r1.after X2 p2) r2 hs v S' e Q (Cont.after (Cont.after hQ X1 p1) X2 p2)
inductive SimO (X:Ctx) (d r:Nat) (env:Env) (names:List (Str × NameKind)) (A:Around):Option Expr->Option (M V)->Prop
 | none:SimO X d r env names A none none
 | some {e f}:SimV X d r env names A (eval e env) f->SimO X d r env names A (some e) (some f)
theorem sim_part {e:Option Expr} {f:Option (M V)} (h:SimO X d r env names A e f):Sim X d r env names A (evalPart e env) (eOpt f) (ROpt X):=by
 cases h with
 | none=>
  intro T ρ s S H v S' e Q hQ
  obtain ⟨rfl,rfl⟩:=ret_some e
  exact wpAny_pure (Cont.here hQ (tk:=s.toks) H rfl)
 | @some x f h=>
  intro T ρ s S H v S' e Q hQ
  obtain ⟨a,S1,e1,e⟩:=bnd_some e
  obtain ⟨rfl,rfl⟩:=ret_some e
  exact h T ρ s S H a S1 e1 _ fun T1 ρ1 h1 tk1 x X1 p1 H1 r1=>Cont.here (Cont.after hQ X1 p1 (tk:=tk1)) (tk:=tk1) H1 r1
theorem ROpt.after {T T1:TT} {ρ ρ1:List Addr} {h h1:Heap} {v:Option V} {x:Value} (hr:ROpt X T ρ v x) (e:Ext d r T h T1 h1) (p:ρ <+: ρ1):ROpt X T1 ρ1 v x:=by
 cases v with
 | none=>exact hr
 | some v=>exact VRel.after (v:=v) hr e p
theorem sim_Slice {o:Expr} {lo hi:Option Expr} {p pos:Pos} {m:Bool} {f:M V} {g k:Option (M V)} (hf:SimV X d r env names A (eval o env) f) (hg:SimO X d r env names A lo g) (hk:SimO X d r env names A hi k) :
  SimV X d r env names A (eval (.Subscript o (.Slice lo hi none p) pos) env) (eSlice m f g k):=by
 intro T ρ s S H v S' e Q hQ
 obtain ⟨a,S1,e1,e⟩:=bnd_some e
 obtain ⟨b,S2,e2,e⟩:=bnd_some e
 obtain ⟨c,S3,e3,e⟩:=bnd_some e
 refine Subscript_ (hf T ρ s S H a S1 e1 _ fun T1 ρ1 h1 tk1 x X1 p1 H1 r1=>wpAny_Slice (sim_part hg T1 ρ1 _ S1 H1 b S2 e2 _ fun T2 ρ2 h2 tk2 y X2 p2 H2 r2=>sim_part hk T2 ρ2 _ S2 H2 c S3 e3 _ fun T3 ρ3 h3 tk3 z X3 p3 H3 r3=>wpAny_pure ?_))
 have kp:=Keeps'.push H3.w { cls:=.type "slice",data:=.fields #[y,z,.none]}
 exact sim_slice (s:={ s with heap:=h3.push { cls:=.type "slice",data:=.fields #[y,z,.none]},toks:=tk3 }) (H3.keep kp) ((r1.after X2 p2).after X3 p3) (r2.after X3 p3) r3
  (Heap.IsSliceOf.new h3 y z .none) (fun _ _=>rfl) v S' e Q (Cont.after (Cont.after (Cont.after (Cont.after hQ X1 p1) X2 p2) X3 p3 (tk:=tk3)) (Ext.keep kp) (List.prefix_refl _))
theorem isNeg_is {o:UnaryOp} (h:isNeg o = true):o = .USub:=by
 cases o with
 | USub=>rfl
 | _=>exact nob h
theorem isOne_is {c:Const} (h:isOne c = true):c = .int 1:=by
 cases c with
 | int i=>exact congrArg Const.int (of_decide_eq_true h)
 | _=>exact nob h
inductive OneI (e:Expr):Prop
 | mk (k:Nat) (p:Pos) (h:e = .Constant (.int 1) k p)
theorem oneE_is {e:Expr} (h:oneE e = true):OneI e:=by
 cases e with
 | Constant c k p=>exact ⟨k,p,by rw [isOne_is h]⟩
 | _=>exact nob h
inductive NegI (e:Expr):Prop
 | mk (x:Expr) (q:Pos) (h:e = .UnaryOp .USub x q) (o:OneI x)
theorem negOne_is {e:Expr} (h:negOne e = true):NegI e:=by
 cases e with
 | UnaryOp o x q=>
  have h:=Bool.and_eq_true_iff.mp h
  exact ⟨x,q,by rw [isNeg_is h.1],oneE_is h.2⟩
 | _=>exact nob h
theorem sim_Rev {o e:Expr} {p pos:Pos} {m:Bool} {f:M V} (he:negOne e = true) (hf:SimV X d r env names A (eval o env) f) :
  SimV X d r env names A (eval (.Subscript o (.Slice none none (some e) p) pos) env) (eRev m f):=by
 obtain ⟨x0,q,e0,k,p',e1⟩:=negOne_is he
 subst e0 e1
 intro T ρ s S H v S' e Q hQ
 obtain ⟨a,S1,e1,e⟩:=bnd_some e
 refine Subscript_ (hf T ρ s S H a S1 e1 _ fun T1 ρ1 h1 tk1 x X1 p1 H1 r1=>wpAny_Slice (wpAny_pure (wpAny_pure ?_)))
 refine sim_Neg (f:=lift (constV (.int 1))) sim_const T1 ρ1 { s with heap:=h1,toks:=tk1 } S1 H1 (.int (-1)) S1 rfl _ fun T2 ρ2 h2 tk2 y X2 p2 H2 r2=>?_
 obtain ⟨t,rfl⟩:=r2
 have kp:=Keeps'.push H2.w { cls:=.type "slice",data:=.fields #[.none,.none,.int (-1) t]}
 exact sim_rev (s:={ s with heap:=h2.push { cls:=.type "slice",data:=.fields #[.none,.none,.int (-1) t]},toks:=tk2 }) (H2.keep kp) (r1.after X2 p2) (.int (-1) t)
  (Heap.IsSliceOf.new h2 .none .none (.int (-1) t)) (fun _ _=>rfl) v S' e Q (Cont.after (Cont.after (Cont.after hQ X1 p1) X2 p2 (tk:=tk2)) (Ext.keep kp) (List.prefix_refl _))
theorem base_plain {o:Expr} {n:Str} {w:Sem Value} (h:isSuper o = false):attributeBase o n env w = w:=by
 cases o with
 | Call f as ks pos=>
  cases f with
  | Name id p=>
   cases as with
   | cons _ _=>rfl
   | nil=>
    cases ks with
    | cons _ _=>rfl
    | nil=>
     have h':(id != ("super" : Str)) = true:=congrArg (!·) (show (id == ("super" : Str)) = false from h)
     exact if_pos (by rw [h',Bool.true_or,Bool.true_or,Bool.true_or])
  | _=>rfl
 | _=>rfl
theorem sim_Attribute (B:BA X) {o:Expr} {n:Str} {pos:Pos} {f:M V} (hs:isSuper o = false) (hf:SimV X d r env names A (eval o env) f):SimV X d r env names A (eval (.Attribute o n pos) env) (eAttr n f):=by
 intro T ρ s S H v S' e Q hQ
 obtain ⟨a,S1,e1,e⟩:=bnd_some e
 rw [arm_eval_Attribute,base_plain hs]
 refine wpAny_bind (hf T ρ s S H a S1 e1 _ fun T1 ρ1 h1 tk1 x X1 p1 H1 r1=>wpAny_bind (wpAny_standAt (wpAny_bind (wpAny_holding ?_))))
 refine sim_getAttr (s:={ s with heap:=h1,toks:=tk1 }) B H1 r1 v S' e _ fun T2 ρ2 h2 tk2 y X2 p2 H2 r2=>wpAny_bind (wpAny_letTemporaryGo (wpAny_pure ?_))
 exact Cont.here (Cont.after (Cont.after hQ X1 p1) X2 p2 (tk:=tk2)) (tk:=tk2) H2 r2
end
section
variable {X:Ctx} {d r:Nat} {env:Env} {names:List (Str × NameKind)} {A:Around}
theorem kindIx_lookup {x:Str}:∀ {names:List (Str × NameKind)},kindIx x names = names.lookup x
 | []=>rfl
 | (y,k) :: r=>by
  unfold kindIx
  rw [List.lookup_cons]
  by_cases z:x = y
  ·rw [if_pos z,beq_iff_eq.mpr z]
  ·rw [if_neg z,beq_eq_false_iff_ne.mpr z];exact kindIx_lookup
theorem cells_acc {x:Str} {c:Addr} {names:List (Str × NameKind)}:∀ {n:Nat} {acc:List (Str × Addr)},acc.lookup x = some c->(∀ p ∈ names,p.1 ≠ x)->(cellsFrom n names acc).lookup x = some c:=by
 induction names with
 | nil=>exact fun h _=>h
 | cons p r ih=>
  intro n acc h q
  have hy:p.1 ≠ x:=q p List.mem_cons_self
  have q':∀ p ∈ r,p.1 ≠ x:=fun p hp=>q p (List.mem_cons_of_mem _ hp)
  unfold cellsFrom
  split
  ·refine ih ?_ q'
   rw [List.lookup_cons,beq_eq_false_iff_ne.mpr (Ne.symm hy)];exact h
  ·exact ih h q'
theorem cells_some {x:Str} {names:List (Str × NameKind)}:∀ {n:Nat} {acc:List (Str × Addr)},(names.map (·.1)).Nodup->names.lookup x = some .cell->∃ c,(cellsFrom n names acc).lookup x = some c:=by
 induction names with
 | nil=>intro n acc _ h;exact no h
 | cons p r ih=>
  intro n acc nd h
  rw [List.map_cons,List.nodup_cons] at nd
  rw [List.lookup_cons] at h
  unfold cellsFrom
  cases z:x == p.1 with
  | true=>
   rw [z] at h
   rw [Option.some.inj h]
   have e:=beq_iff_eq.mp z
   refine ⟨n,cells_acc ?_ fun q hq e'=>nd.1 (List.mem_map.mpr ⟨q,hq,e'.trans e⟩)⟩
   rw [List.lookup_cons,z]
  | false=>
   rw [z] at h
   split
   ·exact ih nd.2 h
   ·exact ih nd.2 h
theorem bindS_get {ps:List Str} {vs:List V} {x:Str} {i:Nat} {v:V} {names:List (Str × NameKind)}:∀ {n:Nat},slotIx x names n = some i->(bindS ps vs names)[i - n]? = some (some v)->argAt x ps vs = some v:=by
 induction names with
 | nil=>intro n h _;exact no h
 | cons p r ih=>
  intro n h q
  by_cases z:x = p.1
  ·have h:(if isVar p.2 = true then some n else none) = some i:=(if_pos z).symm.trans h
   obtain ⟨hk,h⟩:=ii h
   rw [← Option.some.inj h,Nat.sub_self] at q
   have q:some (if isVar p.2 = true then argAt p.1 ps vs else none) = some (some v):=q
   rw [if_pos hk] at q
   rw [z];exact Option.some.inj q
  ·have h:slotIx x r (n + 1) = some i:=(if_neg z).symm.trans h
   rw [← Nat.succ_pred_eq_of_pos (Nat.sub_pos_of_lt (slotIx_lt h).1)] at q
   exact ih h q
theorem bindS_len {ps:List Str} {vs:List V}:∀ {names:List (Str × NameKind)},(bindS ps vs names).length = names.length
 | []=>rfl
 | (_,_) :: r=>by unfold bindS;rw [List.length_cons,List.length_cons,bindS_len]
theorem bindL_out {kindOf:Str->Option NameKind} {x:Str}:∀ {bs:List (Str × Value)} {m:Str->Option Value},(∀ p ∈ bs,p.1 ≠ x)->bindL kindOf bs m x = m x
 | [],_,_=>rfl
 | (n,v) :: r,m,h=>by
  unfold bindL
  rw [bindL_out fun p hp=>h p (List.mem_cons_of_mem _ hp)]
  have hn:x ≠ n:=fun e=>h (n,v) List.mem_cons_self e.symm
  split
  ·exact if_neg hn
  ·rfl
theorem bindC_out {kindOf:Str->Option NameKind} {x:Str}:∀ {bs:List (Str × Value)} {m:Str->Option Value},(∀ p ∈ bs,p.1 ≠ x)->bindC kindOf bs m x = m x
 | [],_,_=>rfl
 | (n,v) :: r,m,h=>by
  unfold bindC
  rw [bindC_out fun p hp=>h p (List.mem_cons_of_mem _ hp)]
  have hn:x ≠ n:=fun e=>h (n,v) List.mem_cons_self e.symm
  split
  ·rfl
  ·exact if_neg hn
inductive BindI (X:Ctx) (T:TT) (ρ:List Addr) (kindOf:Str->Option NameKind) (x:Str) (bs:List (Str × Value)) (v:V):Prop
 | mk (y:Value) (r:VRel X T ρ v y) (l:kindOf x = some .local->bindL kindOf bs (fun _=>none) x = some y) (c:kindOf x ≠ some .local->bindC kindOf bs (fun _=>none) x = some y)
theorem bind_at' {T:TT} {ρ:List Addr} {kindOf:Str->Option NameKind} {x:Str} {v:V} {ps:List Str}:∀ {vs:List V} {ys:List Value} {m m':Str->Option Value},ps.Nodup->VRels X T ρ vs ys->argAt x ps vs = some v ->
  ∃ y,VRel X T ρ v y/\(kindOf x = some .local->bindL kindOf (ps.zip ys) m x = some y)/\(kindOf x ≠ some .local->bindC kindOf (ps.zip ys) m' x = some y):=by
 induction ps with
 | nil=>intro vs ys m m' _ _ h;exact no h
 | cons p r ih=>
  intro vs ys m m' nd rv h
  cases vs with
  | nil=>exact no h
  | cons u t=>
   obtain ⟨y,ys,e,ry,rt⟩:=rv
   subst e
   have nd:=List.nodup_cons.mp nd
   by_cases z:x = p
   ·have h:some u = some v:=(if_pos z).symm.trans h
    have out:∀ q ∈ r.zip ys,q.1 ≠ x:=fun q hq e=>nd.1 (z ▸ e ▸ (List.of_mem_zip hq).1)
    refine ⟨y,Option.some.inj h ▸ ry,fun hk=>?_,fun hk=>?_⟩
    ·rw [List.zip_cons_cons];unfold bindL;rw [bindL_out out,if_pos (z ▸ hk),if_pos z]
    ·rw [List.zip_cons_cons];unfold bindC;rw [bindC_out out,if_neg (z ▸ hk),if_pos z]
   ·have h:argAt x r t = some v:=(if_neg z).symm.trans h
    rw [List.zip_cons_cons];unfold bindL bindC
    exact ih nd.2 rt h
theorem bind_at {T:TT} {ρ:List Addr} {kindOf:Str->Option NameKind} {x:Str} {v:V} {ps:List Str} {vs:List V} {ys:List Value} (nd:ps.Nodup) (rv:VRels X T ρ vs ys) (h:argAt x ps vs = some v):BindI X T ρ kindOf x (ps.zip ys) v:=
 let ⟨y,r,l,c⟩:=bind_at' (kindOf:=kindOf) (m:=fun _=>none) (m':=fun _=>none) nd rv h
 ⟨y,r,l,c⟩
open Classical in
noncomputable def tframe (T:TT) (L:Addr) (cs:List (Str × Addr)) (d:Nat):TT:=fun b=>match T b with
 | .no=>if b = L ∨ ∃ x,cs.lookup x = some b then .frm d else .no
 | t=>t
theorem tframe_of {T:TT} {L:Addr} {cs:List (Str × Addr)} {d:Nat} {b:Addr} {t:Tag} (h:T b = t) (ht:t ≠ .no):tframe T L cs d b = t:=by
 unfold tframe
 rw [h]
 cases t <;> first | rfl | exact absurd rfl ht
theorem tframe_new {T:TT} {L:Addr} {cs:List (Str × Addr)} {d:Nat} {b:Addr} (h:T b = .no) (hb:b = L ∨ ∃ x,cs.lookup x = some b):tframe T L cs d b = .frm d:=by
 unfold tframe
 rw [h]
 exact if_pos hb
theorem tframe_inv {T:TT} {L:Addr} {cs:List (Str × Addr)} {d:Nat} {b:Addr} (h:tframe T L cs d b ≠ T b):T b = .no/\tframe T L cs d b = .frm d/\(b = L ∨ ∃ x,cs.lookup x = some b):=by
 unfold tframe at h ⊢
 cases e:T b <;> rw [e] at h <;> dsimp only at h ⊢
 ·split at h
  ·rename_i q;rw [if_pos q];exact ⟨rfl,rfl,q⟩
  ·exact absurd rfl h
 all_goals exact absurd rfl h
theorem tframe_grows {T:TT} {L:Addr} {cs:List (Str × Addr)} {d:Nat}:Grows T (tframe T L cs d):=fun _ _ h=>tframe_of h (by intro z;cases z)
theorem tframe_fro {T:TT} {L:Addr} {cs:List (Str × Addr)} {d:Nat} {b:Addr} {t:Tag} (h:tframe T L cs d b = t) (ht:∀ e,t ≠ .frm e):T b = t:=by
 by_cases z:tframe T L cs d b = T b
 ·rw [← z];exact h
 ·have:=(tframe_inv z).2.1
  rw [h] at this
  exact absurd this (ht d)
theorem Ext.frame {T:TT} {h h':Heap} {L:Addr} {cs:List (Str × Addr)} {e d r:Nat} (k:∀ b o,h.get? b = some o->h'.get? b = some o):Ext d r T h (tframe T L cs e) h' where
 fro _ _ q:=tframe_of q (by intro z;cases z)
 itr _ _ q:=tframe_of q (by intro z;cases z)
 frm _ _ q _:=tframe_of q (by intro z;cases z)
 frmK _ _ _ _ _ q:=k _ _ q
 mu _ _ _ q _:=tframe_of q (by intro z;cases z)
 muK _ _ _ _ _ _ q:=k _ _ q
 md _ _ _ q _:=tframe_of q (by intro z;cases z)
 mdK _ _ _ _ _ _ q:=k _ _ q
theorem WRel.frame {T:TT} {h h':Heap} {L:Addr} {cs:List (Str × Addr)} {e:Nat} (W:WRel X T h) (k:∀ b o,h.get? b = some o->h'.get? b = some o) (hL:∃ o,h'.get? L = some o) (hc:∀ x c,cs.lookup x = some c->∃ o,h'.get? c = some o):WRel X (tframe T L cs e) h' where
 fro a o q:=k _ _ (W.fro a o (tframe_fro q (by intro _ z;cases z)))
 itr a o q:=k _ _ (W.itr a o (tframe_fro q (by intro _ z;cases z)))
 live a q:=by
  by_cases z:tframe T L cs e a = T a
  ·rw [z] at q;obtain ⟨o,ho⟩:=W.live a q;exact ⟨o,k _ _ ho⟩
  ·rcases (tframe_inv z).2.2 with rfl | ⟨x,hx⟩
   ·exact hL
   ·exact hc x a hx
 base a o q:=tframe_of (W.base a o q) (by intro z;cases z)
theorem ORels.frame {T:TT} {ρ:List Addr} {ob:OB} {nx:Nat} {h h':Heap} {L:Addr} {cs:List (Str × Addr)} {e:Nat} (H:ORels X r T ρ ob nx h) (k:∀ b o,h.get? b = some o->h'.get? b = some o):ORels X r (tframe T L cs e) ρ ob nx h':=
 ⟨H.len,fun n o q=>(H.obj n o q).mono tframe_grows (List.prefix_refl _) (fun _ q=>tframe_of q (by intro z;cases z)) (fun _ q=>tframe_of q (by intro z;cases z)) fun b o _ q=>k b o q⟩
theorem ORels.nil {T:TT} {h:Heap} {r:Nat}:ORels X r T [] [] 0 h:=⟨rfl,fun _ _ q=>by cases q⟩
structure FnAt' (X:Ctx) (f:Fn) (fd:FuncData):Prop where
 body:fd.body = .stmts f.body
 names:fd.scope.names = f.names
 kind:fd.scope.kind = .function
 co:fd.scope.isCoroutine = false
 gen:fd.scope.isGenerator = false
 clo:fd.closure = []
 globals:fd.globals = mainGlobals
 builtins:fd.builtins = builtinsNs
 code:∃ c o vs t,fd.code = .ref c/\X.K.lookup c = some o/\o.data = .fields vs/\vs[1]? = some (.str fd.qualname t)
 binds:∃ dv:List Value,(∀ T ρ,(∀ a o,X.base.get? a = some o->T a = .fro o)->VRels X T ρ f.dfl dv) /\
  ∀ vals:List Value,vals.length<=f.params.length->f.params.length<=vals.length + dv.length->∀ S,peek X.K S (bindArgs fd ⟨vals,[]⟩) = some (f.params.zip (vals++dv.drop (dv.length + vals.length - f.params.length)))
structure FnOk (X:Ctx) (a:Addr) (f:Fn):Prop where
 ex:∃ oc od fd sl,X.K.lookup a = some ⟨oc,od,.func fd,sl⟩/\FnAt' X f fd
 nodup:(f.names.map (·.1)).Nodup
 nofree:∀ p ∈ f.names,p.2 ≠ .free
 pars:∀ x ∈ f.params,f.names.lookup x = some .local ∨ f.names.lookup x = some .cell
 pnd:f.params.Nodup
noncomputable def RawSim (X:Ctx) (k:Nat) (rc:Raw):Prop:=∀ a args hp v hp',rc a args hp = some (v,hp')->∀ (A:Around) (d r:Nat) (T:TT) (ρ:List Addr) (vals:List Value) (s:Shared),Room A k->WRel X T s.heap->ORels X r T ρ hp.1 hp.2 s.heap->VRels X T ρ args vals ->
 ∀ R:Result->Shared->Prop,(∀ T' ρ' h' tk y,Ext (d + 1) r T s.heap T' h'->ρ <+: ρ'->WRel X T' h'->ORels X r T' ρ' hp'.1 hp'.2 h'->VRel X T' ρ' v y->R (.ok (.ret y)) { s with heap:=h',toks:=tk }) ->
 codeAny (model X.prog X.w) A (.call (.ref a) ⟨vals,[]⟩) R s
theorem FRel.new {T:TT} {ρ:List Addr} {env:Env} {f:Fn} {args:List V} {ys:List Value} {h:Heap} {L:Addr} {cs:List (Str × Addr)} (kind:env.scope.kind = .function) (globals:env.globals = mainGlobals) (builtins:env.builtins = builtinsNs)
  (hk:∀ x,env.kindOf x = f.names.lookup x) (hcells:env.cells = cs) (hloc:env.locals = L) (nofree:∀ p ∈ f.names,p.2 ≠ .free) (pnd:f.params.Nodup) (rv:VRels X T ρ args ys)
  (hns:h.Ns L (bindL env.kindOf (f.params.zip ys) fun _=>none)) (hcell:∀ x c,cs.lookup x = some c->h.IsCell c (bindC env.kindOf (f.params.zip ys) (fun _=>none) x)) (tl:T L = .frm d) (tc:∀ x c,cs.lookup x = some c->T c = .frm d)
  (hs:∀ x,f.names.lookup x = some .cell->∃ c,cs.lookup x = some c) (ap:∀ x y c,cs.lookup x = some c->cs.lookup y = some c->x = y) (ne:∀ x c,cs.lookup x = some c->c ≠ L):FRel X d T ρ env f.names (bindS f.params args f.names) h:=by
 subst hcells hloc
 exact {
  kind:=kind
  globals:=globals
  builtins:=builtins
  len:=bindS_len
  loc:=tl
  ns:=by
   refine ⟨_,hns,fun i x kd hi hkd=>?_⟩
   obtain ⟨_,_,kd',hkd',hv⟩:=slotIx_lt hi
   cases Option.some.inj (hkd.symm.trans hkd')
   rw [kindIx_lookup] at hkd
   have hke:=(hk x).trans hkd
   have at':∀ v,(bindS f.params args f.names)[i]? = some (some v)->BindI X T ρ env.kindOf x (f.params.zip ys) v:=fun v hv=>bind_at pnd rv (bindS_get hi hv)
   by_cases hl:kd = .local
   ·subst hl
    exact .inl ⟨rfl,hke,fun v hv=>let ⟨y,q1,q2,_⟩:=at' v hv;⟨y,q2 hke,q1⟩⟩
   ·have hc:kd = .cell:=by
     have:=nofree (x,kd) (mem_of_lookup hkd)
     cases kd with
     | «local»=>exact absurd rfl hl
     | cell=>rfl
     | free=>exact absurd rfl this
     | _=>exact nob hv
    subst hc
    obtain ⟨c,hc⟩:=hs x hkd
    exact .inr ⟨hl,.inl hke,c,_,d,hc,tc x c hc,Nat.le_refl _,fun _=>⟨hke,rfl⟩,hcell x c hc,fun v hv=>let ⟨y,q1,_,q2⟩:=at' v hv;⟨y,q2 (by rw [hke];exact fun z=>nomatch z),q1⟩⟩
  apart:=ap
  cl:=ne
  glob:=fun x _ hx=>by rw [kindIx_lookup] at hx;exact (hk x).trans hx }
inductive FinI (r:Fl) (S:SS) (v:V) (hp:Hp):Prop
 | ret (e:r = .ret v) (k:(S.ob,S.nx) = hp)
 | nxt (e:r = .next) (k:v = .none) (z:(S.ob,S.nx) = hp)
theorem finF_some {r:Fl} {S:SS} {v:V} {hp:Hp} (h:finF r S = some (v,hp)):FinI r S v hp:=by
 cases r with
 | ret u=>obtain ⟨e,k⟩:=sp h;exact .ret (congrArg Fl.ret e) k
 | next=>obtain ⟨e,k⟩:=sp h;exact .nxt rfl e.symm k
 | _=>exact no h
theorem room_in {k:Nat} {env:Env} (hr:Room A (k + 1)):(A.deeper env).depth + 4 * k + 22<=recursionLimit/\(A.deeper env).units + 20 * k + 130<=cLine/\(A.deeper env).handled = none:=by
 obtain ⟨r1,r2,r3⟩:=hr
 refine ⟨?_,?_,r3⟩
 ·show A.depth + 1 + 4 * k + 22<=_;omega
 ·show A.units + 3 + 20 * k + 130<=_;omega
theorem rawSim_step (B:BF X) {k:Nat} {rc:Raw} (hfn:∀ a f,X.P.fn a = some f->FnOk X a f)
  (hbody:∀ a f,X.P.fn a = some f->∀ env A d r,env.kindOf = (fun x=>f.names.lookup x)->(A.depth + 4 * k + 22<=recursionLimit/\A.units + 20 * k + 130<=cLine/\A.handled = none)->Sim X d r env f.names A (execs f.body env) (exs f.body (X.P.cx f rc)) (RF X)):RawSim X (k + 1) (body X.P rc):=by
 intro a args hp v hp' e A d r T ρ vals s hr W O rv R hR
 obtain ⟨f,hf,e⟩:=bi e
 obtain ⟨hlen,e⟩:=ii e
 obtain ⟨⟨fl,S'⟩,hx,e⟩:=bi e
 obtain ⟨⟨oc,od,fd,sl,hK,F⟩,nd,nofree,pars,pnd⟩:=hfn a f hf
 have lv:=VRels.length _ rv
 obtain ⟨dv,rd,hb⟩:=F.binds
 have rdv:=rd T ρ W.base
 have ld:=VRels.length _ rdv
 have hX:X.K.In s.heap:=fun a o e=>W.baseGet a o (B.kin a o e)
 have ho:=hX _ _ hK
 obtain ⟨c,co,cvs,ct,c1,c2,c3,c4⟩:=F.code
 have hall:VRels X T ρ (full f args) (vals++dv.drop (dv.length + vals.length - f.params.length)):=by
  unfold full
  rw [ld,lv]
  exact VRels.append _ _ rv (VRels.drop _ _ rdv)
 have hbs:=hb vals (by rw [lv];exact hlen.1) (by rw [lv,ld];exact hlen.2)
 generalize vals++dv.drop (dv.length + vals.length - f.params.length) = ys at hall hbs
 refine codeAny_call_function (by have:=hr.1;omega) ho rfl F.co F.gen F.body ⟨c,co,cvs,ct,c1,hX _ _ c2,c3,c4⟩ ?_
 refine kp_binds (binds:=f.params.zip ys) hX hbs _ _ _ _ ?_
 rw [F.clo]
 have sm:∀ x,f.names.lookup x = some .cell->∃ c,(cellsFrom (s.heap.objs.size + 1) fd.scope.names []).lookup x = some c:=fun x q=>by
  rw [F.names];exact cells_some (n:=s.heap.objs.size + 1) (acc:=[]) nd q
 have kinds:∀ x ∈ f.params,fd.scope.names.lookup x = some .local ∨ (fd.scope.names.lookup x = some .cell/\((cellsFrom (s.heap.objs.size + 1) fd.scope.names []).lookup x).isSome = true):=fun x hx=>by
  rcases pars x hx with q | q
  ·exact .inl (by rw [F.names];exact q)
  ·obtain ⟨c,hc⟩:=sm x q
   exact .inr ⟨by rw [F.names];exact q,by rw [hc];rfl⟩
 refine wpAny_newFunctionEnv_cells F.kind (fun x hx=>kinds x.1 (List.of_mem_zip hx).1) fun env he s' x=>?_
 obtain ⟨⟨⟨h1,tk1,e1⟩,hns,keep,hsz⟩,hcell,apart,above⟩:=x
 generalize cellsFrom (s.heap.objs.size + 1) fd.scope.names [] = cs at he sm
 have hk:∀ x,env.kindOf x = f.names.lookup x:=fun x=>by rw [he,← F.names];rfl
 have hcells:env.cells = cs:=by rw [he];rfl
 have hloc:env.locals = s.heap.objs.size:=by rw [he];rfl
 have kd:env.scope.kind = .function:=by rw [he];exact F.kind
 have gl:env.globals = mainGlobals:=by rw [he];exact F.globals
 have bu:env.builtins = builtinsNs:=by rw [he];exact F.builtins
 rw [hcells] at hcell apart above
 rw [hloc] at hns above
 subst e1
 refine ⟨(B.nolimit.keeps W.baseGet).keeps keep,codeAny_func ?_⟩
 have hT:∀ b,b = s.heap.objs.size ∨ (∃ x,cs.lookup x = some b)->T b = .no:=fun b h=>by
  rcases h with h | ⟨x,hx⟩
  ·exact W.free (Heap.get?_none_of_le (Nat.le_of_eq h.symm))
  ·exact W.free (Heap.get?_none_of_le (Nat.le_of_lt (above _ _ (mem_of_lookup hx))))
 have hLo:∃ o,h1.get? s.heap.objs.size = some o:=let ⟨o,_,_,q,_⟩:=hns;⟨o,q⟩
 have W1:WRel X (tframe T s.heap.objs.size cs (d + 1)) h1:=W.frame keep hLo fun x c hc=>let ⟨o,q,_⟩:=hcell x c hc;⟨o,q⟩
 have F1:FRel X (d + 1) (tframe T s.heap.objs.size cs (d + 1)) ρ env f.names (bindS f.params (full f args) f.names) h1:=
  .new kd gl bu hk hcells hloc nofree pnd (VRels.mono tframe_grows (List.prefix_refl ρ) _ hall) hns hcell (tframe_new (hT _ (.inl rfl)) (.inl rfl)) (fun x c hc=>tframe_new (hT _ (.inr ⟨x,hc⟩)) (.inr ⟨x,hc⟩)) sm
   (fun x y c hx hy=>name_of_addr apart (mem_of_lookup hx) (mem_of_lookup hy)) fun x c hc e=>Nat.lt_irrefl _ (e ▸ above x c (mem_of_lookup hc))
 have E1:Ext (d + 1) r T s.heap (tframe T s.heap.objs.size cs (d + 1)) h1:=Ext.frame keep
 refine wpAny_mono (hbody a f hf env (A.deeper env) (d + 1) r (funext hk) (room_in hr) _ ρ { s with heap:=h1,toks:=tk1 } ⟨_,hp.1,hp.2⟩ ⟨W1,F1,O.frame keep⟩ fl S' hx _ fun T' ρ' h' tk' y X2 p2 H2 rf=>?_) (fun _ _ q=>q) fun _ _ q=>q.elim
 cases finF_some e with
 | ret e k=>
  subst e k
  cases rf with
  | ret v y h=>exact hR T' ρ' h' tk' y (E1.trans X2) p2 H2.w H2.o h
 | nxt e k z=>
  subst e k z
  cases rf with
  | next=>exact hR T' ρ' h' tk' .none (E1.trans X2) p2 H2.w H2.o rfl
end
section
variable {X:Ctx} {d r:Nat} {env:Env} {names:List (Str × NameKind)} {A:Around}
theorem olook_odrop_self {n:Nat}:∀ {ob:OB},olook n (odrop n ob) = none
 | []=>rfl
 | (k,y) :: ob=>by
  unfold odrop
  by_cases q:k = n
  ·rw [if_pos q];exact olook_odrop_self
  ·rw [if_neg q,olook_cons,if_neg q];exact olook_odrop_self
theorem olook_odrop_none {n m:Nat} {ob:OB} (h:olook m ob = none):olook m (odrop n ob) = none:=by
 cases e:olook m (odrop n ob) with
 | none=>rfl
 | some o=>rw [(olook_odrop e).2] at h;cases h
structure Fz (X:Ctx) (r:Nat) (T T':TT) (ρ:List Addr) (ob ob':OB) (nx:Nat) (h:Heap):Prop where
 w:WRel X T' h
 o:ORels X r T' ρ ob' nx h
 g:Grows T T'
 same:∀ a,(∀ n,T a ≠ .mt r n/\T a ≠ .md r n)->T' a = T a
 keep:∀ a n,(T a = .mt r n ∨ T a = .md r n)->olook n ob = none->T' a = T a
 sub:∀ n o,olook n ob' = some o->olook n ob = some o
theorem Fz.refl {T:TT} {ρ:List Addr} {ob:OB} {nx:Nat} {h:Heap} (W:WRel X T h) (O:ORels X r T ρ ob nx h):Fz X r T T ρ ob ob nx h:=⟨W,O,fun _ _ q=>q,fun _ _=>rfl,fun _ _ _ _=>rfl,fun _ _ q=>q⟩
theorem Fz.trans {T T1 T2:TT} {ρ:List Addr} {ob ob1 ob2:OB} {nx:Nat} {h:Heap} (a:Fz X r T T1 ρ ob ob1 nx h) (b:Fz X r T1 T2 ρ ob1 ob2 nx h):Fz X r T T2 ρ ob ob2 nx h where
 w:=b.w
 o:=b.o
 g x o q:=b.g x o (a.g x o q)
 same x q:=by
  have e:=a.same x q
  rw [← e];exact b.same x fun n=>by rw [e];exact q n
 keep x n q z:=by
  have e:=a.keep x n q z
  have z':olook n ob1 = none:=by
   cases y:olook n ob1 with
   | none=>rfl
   | some o=>rw [a.sub n o y] at z;cases z
  rw [← e];exact b.keep x n (by rw [e];exact q) z'
 sub n o q:=a.sub n o (b.sub n o q)
theorem Fz.retag {T T1:TT} {ρ:List Addr} {ob ob1:OB} {nx n:Nat} {h:Heap} {x:MO} {a b:Addr} {oa ob':Obj} (F:Fz X r T T1 ρ (odrop n ob) ob1 nx h) (hn:olook n ob = some x) (ta:T a = .mt r n) (tb:T b = .mt r n ∨ T b = .md r n)
  (ha:h.get? a = some oa) (hb:h.get? b = some ob'):Fz X r T (tset (tset T1 b (.fro ob')) a (.fro oa)) ρ ob ob1 nx h/\Grows T1 (tset (tset T1 b (.fro ob')) a (.fro oa)):=by
 have ta1:T1 a = .mt r n:=(F.keep a n (.inl ta) olook_odrop_self).trans ta
 have tb1:T1 b = .mt r n ∨ T1 b = .md r n:=by rw [F.keep b n tb olook_odrop_self];exact tb
 have out:∀ {c:Addr} {t:Tag},T1 c = t->t ≠ .mt r n->t ≠ .md r n->tset (tset T1 b (.fro ob')) a (.fro oa) c = t:=fun {c t} hc h1 h2=>by
  rw [tset_ne,tset_ne]
  ·exact hc
  ·rintro rfl;rcases tb1 with q | q <;> rw [q] at hc <;> subst hc <;> first | exact h1 rfl | exact h2 rfl
  ·rintro rfl;rw [ta1] at hc;exact h1 hc.symm
 have g1:Grows T1 (tset (tset T1 b (.fro ob')) a (.fro oa)):=fun c o q=>out q (by intro z;cases z) (by intro z;cases z)
 have inv:∀ {c:Addr} {t:Tag},tset (tset T1 b (.fro ob')) a (.fro oa) c = t->(c = a/\t = .fro oa) ∨ (c = b/\t = .fro ob') ∨ T1 c = t:=fun {c t} q=>by
  by_cases za:c = a
  ·subst za;rw [tset_self] at q;exact .inl ⟨rfl,q.symm⟩
  ·rw [tset_ne za] at q
   by_cases zb:c = b
   ·subst zb;rw [tset_self] at q;exact .inr (.inl ⟨rfl,q.symm⟩)
   ·rw [tset_ne zb] at q;exact .inr (.inr q)
 have nn:olook n ob1 = none:=by
  cases y:olook n ob1 with
  | none=>rfl
  | some o=>have:=F.sub n o y;rw [olook_odrop_self] at this;cases this
 refine ⟨?_,g1⟩
 exact {
  w:={
   fro:=fun c o q=>by
    rcases inv q with ⟨rfl,e⟩ | ⟨rfl,e⟩ | q
    ·cases e;exact ha
    ·cases e;exact hb
    ·exact F.w.fro c o q
   itr:=fun c o q=>by
    rcases inv q with ⟨rfl,e⟩ | ⟨rfl,e⟩ | q
    ·cases e
    ·cases e
    ·exact F.w.itr c o q
   live:=fun c q=>by
    rcases inv (c:=c) rfl with ⟨rfl,e⟩ | ⟨rfl,e⟩ | e
    ·exact ⟨_,ha⟩
    ·exact ⟨_,hb⟩
    ·rw [← e] at q;exact F.w.live c q
   base:=fun c o q=>g1 c o (F.w.base c o q)}
  o:=⟨F.o.len,fun m o q=>by
   have ne:m ≠ n:=by rintro rfl;rw [nn] at q;cases q
   exact (F.o.obj m o q).mono g1 (List.prefix_refl _) (fun c e=>out e (by intro z;cases z;exact ne rfl) (by intro z;cases z)) (fun c e=>out e (by intro z;cases z) (by intro z;cases z;exact ne rfl)) fun _ _ _ q=>q⟩
  g:=fun c o q=>g1 c o (F.g c o q)
  same:=fun c q=>by
   have e:=F.same c q
   exact (out (c:=c) rfl (by rw [e];exact (q n).1) (by rw [e];exact (q n).2)).trans e
  keep:=fun c m q z=>by
   have e:=F.keep c m q (olook_odrop_none z)
   have ne:m ≠ n:=by rintro rfl;rw [hn] at z;cases z
   refine (out (c:=c) rfl ?_ ?_).trans e <;> rw [e] <;> intro y <;> rcases q with q | q <;> rw [q] at y <;> cases y <;> exact ne rfl
  sub:=fun m o q=>(olook_odrop (F.sub m o q)).2 }
inductive FzI (X:Ctx) (r:Nat) (T:TT) (ρ:List Addr) (ob ob':OB) (nx:Nat) (h:Heap) (v':V) (x:Value):Prop
 | mk (T':TT) (f:Fz X r T T' ρ ob ob' nx h) (e:VRel X T' ρ v' x) (n:nr v' = true)
inductive FzsI (X:Ctx) (r:Nat) (T:TT) (ρ:List Addr) (ob ob':OB) (nx:Nat) (h:Heap) (l l':List V) (xs:List Value):Prop
 | mk (T':TT) (f:Fz X r T T' ρ ob ob' nx h) (e:VRels X T' ρ l' xs) (n:nrs l' = true) (k:l'.length = l.length)
noncomputable def FzAt (X:Ctx) (r:Nat) (g:V->OB->Option (V × OB)):Prop:=∀ v ob v' ob',g v ob = some (v',ob')->∀ T ρ nx h x,WRel X T h->ORels X r T ρ ob nx h->VRel X T ρ v x->FzI X r T ρ ob ob' nx h v' x
theorem thread_sound {g:V->OB->Option (V × OB)} (hg:FzAt X r g) (l:List V):∀ (ob:OB) (l':List V) (ob':OB),thread g l ob = some (l',ob')->∀ T ρ nx h xs,WRel X T h->ORels X r T ρ ob nx h->VRels X T ρ l xs->FzsI X r T ρ ob ob' nx h l l' xs:=by
 induction l with
 | nil=>
  intro ob l' ob' e T ρ nx h xs W O rv
  obtain ⟨e,k⟩:=sp e
  subst e k
  exact ⟨T,Fz.refl W O,rv,rfl,rfl⟩
 | cons v l ih=>
  intro ob l' ob' e T ρ nx h xs W O rv
  obtain ⟨x,xs,f,rx,rl⟩:=rv
  obtain ⟨⟨v1,ob1⟩,e1,e⟩:=bi e
  obtain ⟨⟨l2,ob2⟩,e2,e⟩:=mi e
  obtain ⟨T1,F1,r1,n1⟩:=hg v ob v1 ob1 e1 T ρ nx h x W O rx
  obtain ⟨T2,F2,r2,n2,k3⟩:=ih ob1 _ _ e2 T1 ρ nx h xs F1.w F1.o (VRels.mono F1.g (List.prefix_refl _) l rl)
  obtain ⟨k1,k2⟩:=pd e
  rw [← k1,← k2]
  exact ⟨T2,F1.trans F2,⟨x,xs,f,VRel.mono F2.g (List.prefix_refl _) v1 r1,r2⟩,Bool.and_eq_true_iff.mpr ⟨n1,n2⟩,congrArg Nat.succ k3⟩
theorem fzMO_sound {g:V->OB->Option (V × OB)} (ih:FzAt X r g) {n:Nat} {ob ob':OB} {o:MO} {v':V} (ho:olook n ob = some o) (e:fzMO g (odrop n ob) o = some (v',ob')) {T:TT} {ρ:List Addr} {nx:Nat} {h:Heap} {x:Value} (W:WRel X T h) (O:ORels X r T ρ ob nx h) (rv:VRel X T ρ (.ref n) x):FzI X r T ρ ob ob' nx h v' x:=by
 obtain ⟨b,e1,f⟩:=rv
 rw [f]
 cases o with
 | list l=>
  obtain ⟨⟨l',ob2⟩,q,e⟩:=mi e
  obtain ⟨k1,k2⟩:=pd e
  rw [← k1,← k2]
  obtain ⟨z,a,o,vs,w1,w2,w3,w4,w5⟩:=O.obj n _ ho
  cases Option.some.inj (e1.symm.trans w1)
  obtain ⟨T1,F,rl,nl,ll⟩:=thread_sound ih l _ _ _ q T ρ nx h vs W (O.drop n) w5
  obtain ⟨F2,g⟩:=F.retag ho w2 (.inl w2) w3 w3
  exact ⟨_,F2,⟨by rw [ll];exact z,b,o,vs,rfl,tset_self,w4,VRels.mono g (List.prefix_refl _) _ rl⟩,nl⟩
 | dict ks l=>
  obtain ⟨⟨l',ob2⟩,q,e⟩:=mi e
  obtain ⟨k1,k2⟩:=pd e
  rw [← k1,← k2]
  obtain ⟨a,o,vs,w1,w2,w3,z,w4,w5⟩:=O.obj n _ ho
  cases Option.some.inj (e1.symm.trans w1)
  obtain ⟨T1,F,rl,nl,ll⟩:=thread_sound ih l _ _ _ q T ρ nx h vs W (O.drop n) w5
  obtain ⟨F2,g⟩:=F.retag ho w2 (.inl w2) w3 w3
  exact ⟨_,F2,⟨b,o,vs,rfl,tset_self,z,w4,VRels.mono g (List.prefix_refl _) _ rl⟩,nl⟩
 | inst c ns l=>
  obtain ⟨⟨l',ob2⟩,q,e⟩:=mi e
  obtain ⟨k1,k2⟩:=pd e
  rw [← k1,← k2]
  obtain ⟨z,a,dx,es,k,xs,w1,w2,w3,w4,w5,w6,w7⟩:=O.obj n _ ho
  cases Option.some.inj (e1.symm.trans w1)
  obtain ⟨T1,F,rl,nl,ll⟩:=thread_sound ih l _ _ _ q T ρ nx h xs W (O.drop n) w7
  obtain ⟨F2,g⟩:=F.retag ho w2 (.inr w3) w4 w5
  refine ⟨_,F2,⟨z,b,dx,es,k,xs,rfl,tset_self,?_,w6,VRels.mono g (List.prefix_refl _) _ rl⟩,nl⟩
  rw [tset_ne,tset_self]
  intro e
  rw [e,w2] at w3
  exact nomatch w3
theorem fz_sound:∀ f,FzAt X r (fz f):=by
 intro f
 induction f with
 | zero=>intro v ob v' ob' e;exact no e
 | succ f ih=>
  intro v ob v' ob' e T ρ nx h x W O rv
  have other:(if nr v = true then some (v,ob) else none) = some (v',ob')->FzI X r T ρ ob ob' nx h v' x:=fun e=>by
   obtain ⟨hn,e⟩:=ii e
   obtain ⟨e,k⟩:=sp e
   rw [← e,← k]
   exact ⟨T,Fz.refl W O,rv,hn⟩
  cases v with
  | ref n=>
   obtain ⟨o,ho,e⟩:=bi e
   exact fzMO_sound ih ho e W O rv
  | tup l=>
   obtain ⟨⟨l',ob2⟩,q,e⟩:=mi e
   obtain ⟨k1,k2⟩:=pd e
   rw [← k1,← k2]
   obtain ⟨z,a,o,vs,f,t,w4,w5⟩:=rv
   obtain ⟨T1,F,rl,nl,ll⟩:=thread_sound ih l _ _ _ q T ρ nx h vs W O w5
   exact ⟨T1,F,⟨by rw [ll];exact z,a,o,vs,f,F.g _ _ t,w4,rl⟩,nl⟩
  | _=>exact other e
theorem Fz.ext {T T':TT} {ρ:List Addr} {ob ob':OB} {nx:Nat} {h:Heap} (F:Fz X r T T' ρ ob ob' nx h):Ext d r T h T' h where
 fro:=F.g
 itr a o q:=(F.same a fun n=>by rw [q];exact ⟨(by intro z;cases z),(by intro z;cases z)⟩).trans q
 frm a e q _:=(F.same a fun n=>by rw [q];exact ⟨(by intro z;cases z),(by intro z;cases z)⟩).trans q
 frmK _ _ _ _ _ q:=q
 mu a e n q l:=(F.same a fun m=>by rw [q];exact ⟨(by intro z;cases z;exact Nat.lt_irrefl _ l),(by intro z;cases z)⟩).trans q
 muK _ _ _ _ _ _ q:=q
 md a e n q l:=(F.same a fun m=>by rw [q];exact ⟨(by intro z;cases z),(by intro z;cases z;exact Nat.lt_irrefl _ l)⟩).trans q
 mdK _ _ _ _ _ _ q:=q
theorem FRel.reslot {T:TT} {ρ:List Addr} {sl sl':List (Option V)} {h:Heap} (H:FRel X d T ρ env names sl h) (hl:sl'.length = sl.length) (hs:∀ (i:Nat) (v':V),sl'[i]? = some (some v')->∃ v,sl[i]? = some (some v)/\∀ y,VRel X T ρ v y->VRel X T ρ v' y) :
  FRel X d T ρ env names sl' h where
 kind:=H.kind
 globals:=H.globals
 builtins:=H.builtins
 len:=hl.trans H.len
 loc:=H.loc
 ns:=by
  obtain ⟨m,hns,hm⟩:=H.ns
  refine ⟨m,hns,fun i x kd hi hk=>?_⟩
  rcases hm i x kd hi hk with ⟨a,b,c⟩ | ⟨a,b,c,vo,e,h1,h2,h3,h4,h5,h6⟩
  ·exact .inl ⟨a,b,fun v hv=>let ⟨u,q1,q2⟩:=hs i v hv;let ⟨y,y1,y2⟩:=c u q1;⟨y,y1,q2 y y2⟩⟩
  ·exact .inr ⟨a,b,c,vo,e,h1,h2,h3,h4,h5,fun v hv=>let ⟨u,q1,q2⟩:=hs i v hv;let ⟨y,y1,y2⟩:=h6 u q1;⟨y,y1,q2 y y2⟩⟩
 apart:=H.apart
 cl:=H.cl
 glob:=H.glob
theorem resl_len {n:Nat} {x:V} {sl:List (Option V)}:(resl n x sl).length = sl.length:=List.length_map _
theorem resl1_get {n:Nat} {x v:V} {o:Option V} (h:resl1 n x o = some v):o = some v ∨ (o = some (.ref n)/\v = x):=by
 cases o with
 | none=>exact no h
 | some u=>
  cases u with
  | ref k=>
   have h:(if k = n then some x else some (.ref k)) = some v:=h
   by_cases z:k = n
   ·rw [if_pos z] at h;exact .inr ⟨by rw [z],(Option.some.inj h).symm⟩
   ·rw [if_neg z] at h;exact .inl h
  | _=>exact .inl h
theorem resl_get {n:Nat} {x:V} {sl:List (Option V)} {i:Nat} {v:V} (h:(resl n x sl)[i]? = some (some v)):sl[i]? = some (some v) ∨ (sl[i]? = some (some (.ref n))/\v = x):=by
 unfold resl at h
 rw [List.getElem?_map] at h
 obtain ⟨o,e,h⟩:=mi h
 rcases resl1_get h with q | ⟨q,k⟩
 ·exact .inl (q ▸ e)
 ·exact .inr ⟨q ▸ e,k⟩
theorem FRel.resl {T:TT} {ρ:List Addr} {sl:List (Option V)} {h:Heap} (H:FRel X d T ρ env names sl h) {n:Nat} {x:V} {y:Value} (h1:VRel X T ρ (.ref n) y) (h2:VRel X T ρ x y):FRel X d T ρ env names (Mine.resl n x sl) h:=
 H.reslot resl_len fun i v hv=>by
  rcases resl_get hv with q | ⟨q,f⟩
  ·exact ⟨v,q,fun _ z=>z⟩
  ·refine ⟨_,q,fun z hz=>?_⟩
   obtain ⟨a,e1,g⟩:=h1
   obtain ⟨b,e2,k⟩:=hz
   rw [f,k,← Option.some.inj (e1.symm.trans e2),← g];exact h2
theorem FRel.thaws {T:TT} {ρ:List Addr} {h:Heap} {vs:List V}:∀ {xs:List V} {ys:List Value} {sl:List (Option V)},FRel X d T ρ env names sl h->VRels X T ρ vs ys->VRels X T ρ xs ys->FRel X d T ρ env names (Mine.thaws vs xs sl) h:=by
 induction vs with
 | nil=>exact fun H _ _=>H
 | cons v vs ih=>
  intro xs ys sl H h1 h2
  cases xs with
  | nil=>exact H
  | cons x xs=>
   obtain ⟨y,ys,e,ry,r1⟩:=h1
   obtain ⟨y',ys',e',rx,r2⟩:=h2
   have e:=e.symm.trans e'
   rw [← (List.cons.inj e).1] at rx
   rw [← (List.cons.inj e).2] at r2
   refine ih ?_ r1 r2
   cases v with
   | ref n=>exact H.resl ry rx
   | _=>exact H
inductive FreezeI (X:Ctx) (d r:Nat) (env:Env) (names:List (Str × NameKind)) (T:TT) (ρ:List Addr) (S':SS) (h:Heap) (xs:List V) (ys:List Value):Prop
 | mk (T':TT) (e:Ext d r T h T' h) (s:St X d r T' ρ env names S' h) (v:VRels X T' ρ xs ys) (n:nrs xs = true)
theorem freeze_sound {T:TT} {ρ:List Addr} {S S':SS} {h:Heap} (H:St X d r T ρ env names S h) {vs xs:List V} {ys:List Value} (rv:VRels X T ρ vs ys) (e:freeze vs S = some (xs,S')):FreezeI X d r env names T ρ S' h xs ys:=by
 obtain ⟨⟨xs',ob⟩,q,e⟩:=mi e
 obtain ⟨k1,k2⟩:=pd e
 rw [← k1,← k2]
 obtain ⟨T',F,r2,n2,_⟩:=thread_sound (fz_sound (X:=X) (r:=r) 8) vs S.ob _ _ q T ρ S.nx h ys H.w H.o rv
 have ex:Ext d r T h T' h:=F.ext
 have f1:FRel X d T' ρ env names S.sl h:=H.f.mono F.g (List.prefix_refl _) ex.frm fun _ _ _ _ _ q=>q
 exact ⟨T',ex,⟨F.w,f1.thaws (VRels.mono F.g (List.prefix_refl _) _ rv) r2,F.o⟩,r2,n2⟩
end
section
variable {X:Ctx} {d r:Nat} {env:Env} {names:List (Str × NameKind)} {A:Around}
theorem ORels.across {T T':TT} {ρ:List Addr} {ob:OB} {nx:Nat} {h h':Heap} (O:ORels X r T ρ ob nx h) (x:Ext (d + 1) (r + 1) T h T' h'):ORels X r T' ρ ob nx h':=
 ⟨O.len,fun n o q=>(O.obj n o q).mono x.fro (List.prefix_refl _) (fun a e=>x.mu a r n e (Nat.lt_succ_self _)) (fun a e=>x.md a r n e (Nat.lt_succ_self _)) fun a o e g=>by
  rcases e with e | e
  ·exact x.muK a r n o e (Nat.lt_succ_self _) g
  ·exact x.mdK a r n o e (Nat.lt_succ_self _) g⟩
theorem FRel.across {T T':TT} {ρ ρ':List Addr} {sl:List (Option V)} {h h':Heap} {r':Nat} (H:FRel X d T ρ env names sl h) (x:Ext (d + 1) r' T h T' h') (p:ρ <+: ρ'):FRel X d T' ρ' env names sl h':=
 H.mono x.fro p (fun a e q l=>x.frm a e q (by omega)) fun a e o q l g=>x.frmK a e o q (by omega) g
theorem St.across {T T':TT} {ρ:List Addr} {S:SS} {h h':Heap} (H:St X d r T ρ env names S h) (x:Ext (d + 1) (r + 1) T h T' h') (W:WRel X T' h'):St X d r T' ρ env names S h':=
 ⟨W,H.f.across x (List.prefix_refl _),H.o.across x⟩
noncomputable def PureAt (X:Ctx) (A:Around) (d r:Nat) (T:TT) (s:Shared) (t:Code) (v:V):Prop:=
 ∀ R:Result->Shared->Prop,(∀ T' h' tk y,Ext (d + 1) (r + 1) T s.heap T' h'->WRel X T' h'->(∀ ρ,VRel X T' ρ v y)->nr v = true->R (.ok (.ret y)) { s with heap:=h',toks:=tk })->codeAny (model X.prog X.w) A t R s
theorem pure_raw {k:Nat} {rc:Raw} (H:RawSim X k rc) {a:Addr} {xs:List V} {v:V} (e:pureCall rc a xs = some v) {T:TT} {vals:List Value} {ρ:List Addr} {s:Shared} (hr:Room A k) (W:WRel X T s.heap) (rv:VRels X T ρ xs vals) (hn:nrs xs = true) :
  PureAt X A d r T s (.call (.ref a) ⟨vals,[]⟩) v:=by
 intro R hR
 obtain ⟨⟨v0,ob,nx⟩,h1,e⟩:=bi e
 obtain ⟨⟨v',ob'⟩,e2,e3⟩:=mi e
 subst e3
 refine H a xs ([],0) v0 (ob,nx) h1 A d (r + 1) T [] vals s hr W ORels.nil (VRels.any _ hn rv) R fun T1 ρ1 h1 tk y X1 p1 W1 O1 r1=>?_
 obtain ⟨T2,F,r2,n2⟩:=fz_sound 8 v0 ob v' ob' e2 T1 ρ1 nx h1 y W1 O1 r1
 exact hR T2 h1 tk y (X1.trans F.ext) F.w (fun ρ=>VRel.any _ n2 r2) n2
inductive LowI (nx n:Nat) (o:MO) (ob:OB):Prop
 | mk (e:olook n ob = some o) (l:n < nx) (k:okMO nx o = true)
theorem low_look {nx n:Nat} {o:MO} {ob:OB}:∀ {ob':OB},lowOb nx ob = some ob'->olook n ob' = some o->LowI nx n o ob:=by
 induction ob with
 | nil=>intro ob' e h;rw [← Option.some.inj e] at h;exact no h
 | cons p r ih=>
  intro ob' e h
  have e':(if p.1 < nx then (if okMO nx p.2 = true then (lowOb nx r).map (p :: ·) else none) else lowOb nx r) = some ob':=e
  by_cases q:p.1 < nx
  ·rw [if_pos q] at e'
   obtain ⟨k,e'⟩:=ii e'
   obtain ⟨r',e1,e2⟩:=mi e'
   rw [← e2,olook_cons] at h
   by_cases z:p.1 = n
   ·rw [if_pos z] at h
    rw [← Option.some.inj h]
    exact ⟨by rw [olook_cons,if_pos z],z ▸ q,k⟩
   ·rw [if_neg z] at h
    obtain ⟨a,b,c⟩:=ih e1 h
    exact ⟨by rw [olook_cons,if_neg z];exact a,b,c⟩
  ·rw [if_neg q] at e'
   obtain ⟨a,b,c⟩:=ih e' h
   exact ⟨by rw [olook_cons,if_neg fun z:p.1 = n=>q (z ▸ b)];exact a,b,c⟩
section
variable {T:TT} {ρ ρ':List Addr}
theorem look_low (p:ρ <+: ρ') {n:Nat} (l:n < ρ.length) {a:Addr} (e:ρ'[n]? = some a):ρ[n]? = some a:=by
 obtain ⟨t,q⟩:=p
 rw [← q,List.getElem?_append_left l] at e
 exact e
theorem VRel.low (p:ρ <+: ρ') {v:V} {x:Value} (b:belV ρ.length v = true) (h:VRel X T ρ' v x):VRel X T ρ v x:=by
 cases v with
 | ref n=>obtain ⟨a,e,q⟩:=h;exact ⟨a,look_low p (of_decide_eq_true b) e,q⟩
 | _=>exact VRel.any _ b h
theorem VRels.low (p:ρ <+: ρ') {l:List V}:∀ {xs:List Value},l.all (belV ρ.length) = true->VRels X T ρ' l xs->VRels X T ρ l xs:=by
 induction l with
 | nil=>intro xs _ h;exact h
 | cons v l ih=>
  intro xs b h
  obtain ⟨x,xs,e,a,c⟩:=h
  have b:=Bool.and_eq_true_iff.mp b
  exact ⟨x,xs,e,VRel.low p b.1 a,ih b.2 c⟩
theorem low_rels {ob ob':OB} {nx nx':Nat} {h:Heap} (len:ρ.length = nx) (p:ρ <+: ρ') (O:ORels X r T ρ' ob nx' h) (e:lowOb nx ob = some ob'):ORels X r T ρ ob' nx h:=by
 subst len
 refine ⟨rfl,fun n o q=>?_⟩
 obtain ⟨q1,l,k⟩:=low_look e q
 have H:=O.obj n o q1
 cases o with
 | list l'=>obtain ⟨z,a,o,vs,e,t,q,s,v⟩:=H;exact ⟨z,a,o,vs,look_low p l e,t,q,s,VRels.low p k v⟩
 | dict ks l'=>obtain ⟨a,o,vs,e,t,q,z,s,v⟩:=H;exact ⟨a,o,vs,look_low p l e,t,q,z,s,VRels.low p k v⟩
 | inst c ns l'=>obtain ⟨z,a,dx,es,m,xs,e,t,u,q,q',s,v⟩:=H;exact ⟨z,a,dx,es,m,xs,look_low p l e,t,u,q,q',s,VRels.low p k v⟩
end
theorem tidy_raw {k:Nat} {rc:Raw} (H:RawSim X k rc):RawSim X k (tidied X.P rc):=by
 intro a args hp v hp' e A d r T ρ vals s hr W O rv R hR
 have e':(if X.P.tid a = true then (rc a args hp).bind (tidy hp.2) else rc a args hp) = some (v,hp'):=e
 by_cases q:X.P.tid a = true
 ·rw [if_pos q] at e'
  obtain ⟨⟨v0,hp0⟩,h1,e1⟩:=bi e'
  obtain ⟨⟨v1,ob1⟩,e2,e3⟩:=bi e1
  obtain ⟨ob2,e4,e5⟩:=mi e3
  obtain ⟨k1,k2⟩:=pd e5
  subst k1 k2
  refine H a args hp v0 hp0 h1 A d r T ρ vals s hr W O rv R fun T1 ρ1 h1 tk y X1 p1 W1 O1 r1=>?_
  obtain ⟨T2,F,r2,n2⟩:=fz_sound 8 v0 hp0.1 v1 ob1 e2 T1 ρ1 hp0.2 h1 y W1 O1 r1
  exact hR T2 ρ h1 tk y (X1.trans F.ext) (List.prefix_refl _) F.w (low_rels O.len p1 F.o e4) (VRel.any _ n2 r2)
 ·rw [if_neg q] at e'
  exact H a args hp v hp' e' A d r T ρ vals s hr W O rv R hR
noncomputable def Lent (r:Nat) (T T1:TT) (h:Heap):Prop:=∀ b,T1 b = T b ∨ ∃ n o,T b = .mt r n/\T1 b = .fro o/\h.get? b = some o
theorem Lent.grows {T T1:TT} {h:Heap} (L:Lent r T T1 h):Grows T T1:=fun b o q=>by
 rcases L b with e | ⟨n,o',e,_⟩
 ·rw [e];exact q
 ·rw [q] at e;cases e
inductive LendI (X:Ctx) (r:Nat) (T:TT) (ρ:List Addr) (h:Heap) (xs:List V) (ys:List Value):Prop
 | mk (T1:TT) (l:Lent r T T1 h) (e:VRels X T1 ρ xs ys) (n:nrs xs = true)
theorem Lent.one {T T1:TT} {h:Heap} (L:Lent r T T1 h) {a:Addr} {n:Nat} {o:Obj} (q2:T a = .mt r n) (q3:h.get? a = some o):Lent r T (tset T1 a (.fro o)) h/\Grows T1 (tset T1 a (.fro o)):=by
 refine ⟨fun b=>?_,fun b o' q=>?_⟩
 ·by_cases zb:b = a
  ·rw [zb,tset_self];exact .inr ⟨n,o,q2,rfl,q3⟩
  ·rw [tset_ne zb];exact L b
 ·by_cases zb:b = a
  ·rw [zb] at q ⊢
   rw [tset_self]
   rcases L a with e | ⟨_,o2,_,e,e'⟩
   ·rw [q,q2] at e;exact nomatch e
   ·rw [← Tag.fro.inj (q.symm.trans e)] at e'
    rw [Option.some.inj (q3.symm.trans e')]
  ·rw [tset_ne zb];exact q
theorem lend_sound {T:TT} {ρ:List Addr} {ob:OB} {nx:Nat} {h:Heap} (W:WRel X T h) (O:ORels X r T ρ ob nx h) {vs:List V}:∀ {xs:List V} {ys:List Value},lend ob vs = some xs->VRels X T ρ vs ys->LendI X r T ρ h xs ys:=by
 induction vs with
 | nil=>intro xs ys e rv;rw [← Option.some.inj e];exact ⟨T,fun _=>.inl rfl,rv,rfl⟩
 | cons v vs ih=>
  intro xs ys e rv
  obtain ⟨y,ys,f,ry,rl⟩:=rv
  obtain ⟨x,e1,e⟩:=bi e
  obtain ⟨t,e2,e⟩:=bi e
  obtain ⟨hn,e⟩:=ii e
  obtain ⟨T1,L,r1,n1⟩:=ih e2 rl
  have hn1:nrs (x :: t) = true:=Bool.and_eq_true_iff.mpr ⟨hn,n1⟩
  have other:some v = some x->LendI X r T ρ h (x :: t) (y :: ys):=fun q=>⟨T1,L,⟨y,ys,rfl,Option.some.inj q ▸ VRel.mono L.grows (List.prefix_refl _) _ ry,r1⟩,hn1⟩
  rw [← Option.some.inj e,f]
  cases v with
  | ref n=>
   obtain ⟨l,hl,g⟩:=mi e1
   obtain ⟨a,w1,w2⟩:=ry
   obtain ⟨z,a',o,vs',q1,q2,q3,q4,q5⟩:=O.obj n _ (lref_some hl)
   cases Option.some.inj (w1.symm.trans q1)
   obtain ⟨L',k⟩:=L.one q2 q3
   exact ⟨_,L',⟨_,ys,rfl,g ▸ ⟨z,a,o,vs',w2,tset_self,q4,VRels.mono L'.grows (List.prefix_refl _) l q5⟩,VRels.mono k (List.prefix_refl _) _ r1⟩,hn1⟩
  | _=>exact other e1
theorem Lent.wrel {T T1:TT} {h:Heap} (L:Lent r T T1 h) (W:WRel X T h):WRel X T1 h where
 fro a o q:=by
  rcases L a with e | ⟨_,o',_,e,e'⟩
  ·rw [e] at q;exact W.fro a o q
  ·rw [q] at e;cases e;exact e'
 itr a o q:=by
  rcases L a with e | ⟨_,o',_,e,e'⟩
  ·rw [e] at q;exact W.itr a o q
  ·rw [q] at e;cases e
 live a q:=by
  rcases L a with e | ⟨_,o',_,e,e'⟩
  ·rw [e] at q;exact W.live a q
  ·exact ⟨_,e'⟩
 base a o q:=L.grows a o (W.base a o q)
theorem Lent.same {T T1:TT} {h:Heap} (L:Lent r T T1 h) {b:Addr} {t:Tag} (e:T b = t) (q:∀ n,t ≠ .mt r n):T1 b = t:=by
 rcases L b with z | ⟨n,o,z,_⟩
 ·exact z.trans e
 ·exact absurd (e.symm.trans z) (q n)
inductive BackI (X:Ctx) (d r:Nat) (T T1 T2:TT) (h h2:Heap):Prop
 | mk (T3:TT) (x:Ext d r T h T3 h2) (w:WRel X T3 h2) (same:∀ b,T1 b = T b->T3 b = T2 b)
theorem Lent.back {d' r':Nat} {T T1 T2:TT} {h h2:Heap} (L:Lent r T T1 h) (W:WRel X T h) (x:Ext d' r' T1 h T2 h2) (W2:WRel X T2 h2):BackI X d' r' T T1 T2 h h2:=by
 classical
 generalize hT:(fun b=>if T1 b = T b then T2 b else T b:TT) = T3
 have same:∀ b,T1 b = T b->T3 b = T2 b:=fun b e=>hT ▸ if_pos e
 have other:∀ b,T1 b ≠ T b->T3 b = T b:=fun b e=>hT ▸ if_neg e
 have held:∀ b,T1 b ≠ T b->∃ o,h.get? b = some o/\h2.get? b = some o:=fun b e=>by
  rcases L b with q | ⟨n,o,q1,q2,q3⟩
  ·exact absurd q e
  ·exact ⟨o,q3,W2.fro _ _ (x.fro _ _ q2)⟩
 have nfix:∀ {b t},T3 b = t->(∀ n,t ≠ .mt r n)->T2 b = t:=fun {b t} e q=>by
  by_cases k:T1 b = T b
  ·exact (same b k).symm.trans e
  ·rcases L b with z | ⟨n,o,z,_⟩
   ·exact absurd z k
   ·exact absurd (e.symm.trans ((other b k).trans z)) (q n)
 have keep:∀ {b:Addr} {t:Tag},T b = t->(∀ n,t ≠ .mt r n)->T1 b = T b:=fun e q=>(L.same e q).trans e.symm
 clear hT
 refine ⟨T3,?_,?_,same⟩
 ·exact {
   fro:=fun b o q=>have k:=keep q (by intro _ z;cases z);(same b k).trans (x.fro b o (k.trans q))
   itr:=fun b o q=>have k:=keep q (by intro _ z;cases z);(same b k).trans (x.itr b o (k.trans q))
   frm:=fun b o q l=>have k:=keep q (by intro _ z;cases z);(same b k).trans (x.frm b o (k.trans q) l)
   frmK:=fun b i o q l g=>x.frmK b i o ((keep q (by intro _ z;cases z)).trans q) l g
   mu:=fun b i n q l=>by
    by_cases k:T1 b = T b
    ·exact (same b k).trans (x.mu b i n (k.trans q) l)
    ·exact (other b k).trans q
   muK:=fun b i n o q l g=>by
    by_cases k:T1 b = T b
    ·exact x.muK b i n o (k.trans q) l g
    ·obtain ⟨o',e1,e2⟩:=held b k
     exact Option.some.inj (e1.symm.trans g) ▸ e2
   md:=fun b i n q l=>have k:=keep q (by intro _ z;cases z);(same b k).trans (x.md b i n (k.trans q) l)
   mdK:=fun b i n o q l g=>x.mdK b i n o ((keep q (by intro _ z;cases z)).trans q) l g }
 ·exact {
   fro:=fun b o q=>W2.fro b o (nfix q (by intro _ z;cases z))
   itr:=fun b o q=>W2.itr b o (nfix q (by intro _ z;cases z))
   live:=fun b q=>by
    by_cases k:T1 b = T b
    ·exact W2.live b fun z=>q ((same b k).trans z)
    ·obtain ⟨o',_,e2⟩:=held b k;exact ⟨_,e2⟩
   base:=fun b o q=>have k:=keep (W.base b o q) (by intro _ z;cases z);(same b k).trans (W2.base b o q)}
theorem VRel.scal {T T':TT} {ρ ρ':List Addr} {v:V} {x:Value} (h:scal v = true) (rv:VRel X T ρ v x):VRel X T' ρ' v x:=by
 cases v <;> first | exact rv | (simp [Mine.scal] at h)
theorem lent_raw {k:Nat} {rc:Raw} (H:RawSim X k rc) {a:Addr} {vs xs:List V} {v:V} {ob:OB} {nx:Nat} (el:lend ob vs = some xs) (e:pureCall rc a xs = some v) (hs:scal v = true) {T:TT} {vals:List Value} {ρ:List Addr} {s:Shared} (hr:Room A k)
  (W:WRel X T s.heap) (O:ORels X r T ρ ob nx s.heap) (rv:VRels X T ρ vs vals):PureAt X A d r T s (.call (.ref a) ⟨vals,[]⟩) v:=by
 intro R hR
 obtain ⟨T1,L,r1,n1⟩:=lend_sound W O el rv
 refine pure_raw (d:=d) (r:=r) H e hr (L.wrel W) r1 n1 R fun T2 h2 tk y X2 W2 r2 n2=>?_
 obtain ⟨T3,X3,W3,_⟩:=L.back W X2 W2
 exact hR T3 h2 tk y X3 W3 (fun ρ=>VRel.scal hs (r2 ρ)) n2
theorem nil_nodup {c:Addr}:aokAll X c []:=⟨fun _ h=>(nomatch h),List.nodup_nil⟩
noncomputable def Room1 (A:Around) (k:Nat):Prop:=A.depth + 4 * k + 22<=recursionLimit/\A.units + 20 * k + 130<=cLine/\A.handled = none
theorem Room1.room {k:Nat} (h:Room1 A k):Room A k:=by obtain ⟨a,b,c⟩:=h;exact ⟨by omega,by omega,c⟩
theorem Room.under {k:Nat} {c:Addr} {vals:List Value} (h:Room1 A k):Room (A.under (.builtin "type.__call__" ⟨.ref c :: vals,[]⟩)) k:=by
 obtain ⟨a,b,q⟩:=h
 have w:Code.weight (.builtin "type.__call__" ⟨.ref c :: vals,[]⟩) = 1:=by kernel_rfl
 have u:Code.cUnits (.builtin "type.__call__" ⟨.ref c :: vals,[]⟩) = 1:=by kernel_rfl
 exact ⟨by show A.depth + Code.weight _ + 4 * k + 20<=_;omega,by show A.units + Code.cUnits _ + 20 * k + 120<=_;omega,q⟩
theorem new_objs {T:TT} {ρ:List Addr} {ob:OB} {nx:Nat} {h:Heap} {c:Addr} {r':Nat} (W:WRel X T h) (O:ORels X r' T ρ ob nx h) (hr:r<=r') :
  ∃ T1,Ext d r T h T1 ((h.push emptyDict).push (instObj c h.objs.size))/\WRel X T1 ((h.push emptyDict).push (instObj c h.objs.size)) /\
   ORels X r' T1 (ρ++[h.objs.size + 1]) ((nx,.inst c [] []) :: ob) (nx + 1) ((h.push emptyDict).push (instObj c h.objs.size)) /\
   (∀ d' env names sl,FRel X d' T ρ env names sl h->FRel X d' T1 (ρ++[h.objs.size + 1]) env names sl ((h.push emptyDict).push (instObj c h.objs.size))):=by
 have fr:=W.fresh
 have kp:Keeps' T h (h.push emptyDict):=Keeps'.push W emptyDict
 have hd:(h.push emptyDict).get? h.objs.size = some emptyDict:=Heap.get?_push_size _ rfl
 have W1:WRel X (tset T h.objs.size (.md r' nx)) (h.push emptyDict):=W.tag fr kp hd (fun _ q=>by cases q) fun _ q=>by cases q
 have O1:ORels X r' (tset T h.objs.size (.md r' nx)) ρ ob nx (h.push emptyDict):=O.tag fr kp
 have sz:(h.push emptyDict).objs.size = h.objs.size + 1:=Heap.size_push ..
 have fr2:tset T h.objs.size (.md r' nx) (h.objs.size + 1) = .no:=by
  have:=W1.fresh
  rwa [sz] at this
 have kp2:Keeps' (tset T h.objs.size (.md r' nx)) (h.push emptyDict) ((h.push emptyDict).push (instObj c h.objs.size)):=Keeps'.push W1 _
 have hx:((h.push emptyDict).push (instObj c h.objs.size)).get? (h.objs.size + 1) = some (instObj c h.objs.size):=by
  rw [← sz];exact Heap.get?_push_size _ rfl
 have hd2:=kp2 _ _ (by rw [tset_self];intro z;cases z) hd
 refine ⟨tset (tset T h.objs.size (.md r' nx)) (h.objs.size + 1) (.mt r' nx),(Ext.tset fr kp).trans (Ext.tset fr2 kp2),W1.tag fr2 kp2 hx (fun _ q=>by cases q) (fun _ q=>by cases q),?_,fun d' env names sl F=>(F.tag (List.prefix_refl _) fr kp).tag (List.prefix_append _ _) fr2 kp2⟩
 refine O1.newM fr2 kp2 ⟨nil_nodup,_,h.objs.size,[],0,[],?_,tset_self,?_,hx,hd2,.nil,rfl⟩
 ·rw [← O.len];simp
 ·rw [tset_ne (Nat.ne_of_lt (Nat.lt_succ_self _)),tset_self]
theorem isNo_some {v:V} (h:isNo v = true):v = .none:=by
 cases v with
 | none=>rfl
 | _=>exact nob h
theorem new_raw (B:BA X) {k:Nat} {rc:Raw} (H:RawSim X k rc) {c i:Addr} {xs:List V} {v:V} (hi:X.P.init c = some i) (e:newCall rc c i xs = some v) {T:TT} {vals:List Value} {ρ:List Addr} {s:Shared} (hr:Room1 A k) (W:WRel X T s.heap) (rv:VRels X T ρ xs vals) (hn:nrs xs = true) :
  PureAt X A d r T s (.call (.ref c) ⟨vals,[]⟩) v:=by
 intro R hR
 obtain ⟨b1,b2,b3,b4⟩:=B.init c i hi
 have hK:=B.kinAt W
 obtain ⟨⟨v0,ob,nx⟩,h1,e⟩:=bi e
 obtain ⟨h0,e⟩:=ii e
 obtain ⟨⟨v',ob'⟩,e2,e3⟩:=mi e
 subst e3
 rw [show v0 = .none from isNo_some h0] at h1
 have go:PureAt X A d r T s (.call (.ref c) ⟨vals,[]⟩) v':=by
  intro R hR
  obtain ⟨hh,g,dr,t,os⟩:=s
  refine make_core (makes_of hK b1) (looks_findIn hK b2) (fun self=>bind_fn hK self (beq_iff_eq.mp b3)) (.inl rfl) ?_
  obtain ⟨T1,X1,W1,O1,_⟩:=new_objs (X:=X) (d:=d + 1) (r:=r + 1) (r':=r + 1) (ob:=[]) (nx:=0) (ρ:=[]) (c:=c) W ORels.nil (Nat.le_refl _)
  refine H i _ _ _ _ h1 (A.under (.builtin "type.__call__" ⟨.ref c :: vals,[]⟩)) d (r + 1) T1 _ (.ref (hh.objs.size + 1) :: vals) _ (Room.under hr) W1 O1 ⟨_,vals,rfl,⟨_,rfl,rfl⟩,VRels.any _ hn (rv.after X1 (List.prefix_refl _))⟩ _ fun T2 ρ2 h2 tk y X2 p2 W2 O2 r2=>?_
  obtain ⟨T3,F,r3,n3⟩:=fz_sound 8 (.ref 0) ob v' ob' e2 T2 ρ2 nx h2 (.ref (hh.objs.size + 1)) W2 O2 ⟨_,look_prefix p2 rfl,rfl⟩
  exact ⟨r2,hR T3 h2 tk _ (X1.trans (X2.trans F.ext)) F.w (fun ρ=>VRel.any _ n3 r3) n3⟩
 exact go R hR
theorem imp_new_raw (B:BA X) {k:Nat} {rc:Raw} (H:RawSim X k rc) {c i:Addr} {vs:List V} (hi:X.P.init c = some i) {T:TT} {vals:List Value} {ρ:List Addr} {s:Shared} {S:SS} (hr:Room1 A k) (St0:St X d r T ρ env names S s.heap) (rv:VRels X T ρ vs vals)
  {hp:Hp} (e:rc i (.ref S.nx :: vs) ((S.nx,.inst c [] []) :: S.ob,S.nx + 1) = some (.none,hp)) {Q:Value->Shared->Prop} (hQ:Cont X d r env names T ρ s { S with ob:=hp.1,nx:=hp.2 } (RV X) (.ref S.nx) Q) :
  wpAny (model X.prog X.w) A (PySem.call (.ref c) vals) Q (fun _ _=>False) s:=by
 obtain ⟨b1,b2,b3,b4⟩:=B.init c i hi
 have hK:=B.kinAt St0.w
 refine wpAny_call ?_
 obtain ⟨hh,g,dr,t,os⟩:=s
 refine make_core (makes_of hK b1) (looks_findIn hK b2) (fun self=>bind_fn hK self (beq_iff_eq.mp b3)) (.inl rfl) ?_
 obtain ⟨T1,X1,W1,O1,F1⟩:=new_objs (X:=X) (d:=d + 1) (r:=r) (r':=r) (c:=c) St0.w St0.o (Nat.le_refl _)
 have lk:(ρ++[hh.objs.size + 1])[S.nx]? = some (hh.objs.size + 1):=by rw [← St0.o.len];simp
 refine H i _ _ _ _ e (A.under (.builtin "type.__call__" ⟨.ref c :: vals,[]⟩)) d r T1 _ (.ref (hh.objs.size + 1) :: vals) _ (Room.under hr) W1 O1 ⟨_,vals,rfl,⟨_,lk,rfl⟩,rv.after X1 (List.prefix_append _ _)⟩ _ fun T2 ρ2 h2 tk y X2 p2 W2 O2 r2=>?_
 exact ⟨r2,hQ T2 ρ2 h2 tk _ ((X1.trans X2).up (Nat.le_succ _) (Nat.le_refl _)) ((List.prefix_append _ _).trans p2) ⟨W2,(F1 _ _ _ _ St0.f).across X2 p2,O2⟩ ⟨_,look_prefix p2 lk,rfl⟩⟩
end
section
variable {X:Ctx} {d r:Nat} {env:Env} {names:List (Str × NameKind)} {A:Around}
theorem slot_none {x:Str} {k:NameKind} {names:List (Str × NameKind)} (q:isVar k = false):∀ {n:Nat},kindIx x names = some k->slotIx x names n = none:=by
 induction names with
 | nil=>intro n h;exact no h
 | cons p r ih=>
  intro n h
  by_cases z:x = p.1
  ·have h:=Option.some.inj ((if_pos z).symm.trans h)
   exact (if_pos z).trans (if_neg (by rw [h,q];exact Bool.false_ne_true))
  ·exact (if_neg z).trans (ih ((if_neg z).symm.trans h))
theorem sim_glob (B:BF X) {cx:Cx} {x:Str} {p:Pos} {v:V} (hn:cx.names = names) (hg:cx.glob = X.P.glob) (h:globV cx (.Name x p) = some v):SimV X d r env names A (eval (.Name x p) env) (lift (some v)):=by
 have e:eName cx x = lift (some v):=by
  obtain ⟨hd,h⟩:=ni h
  obtain ⟨hk,h⟩:=ii h
  unfold eName
  rw [if_neg hd,slot_none rfl (glb_some hk)]
  exact (if_pos hk).trans (by rw [h];rfl)
 rw [← e]
 exact sim_name B hg hn rfl
theorem items_plain {as:List Expr} {pos:Pos} (hp:as.any isStar = false):(backTo pos (starEach as env)).any (·.1) = false:=by
 rw [starEach_plain hp,backTo_plain]
 simp
noncomputable def RArgs (X:Ctx):TT->List Addr->List V->Args->Prop:=fun T ρ l a=>∃ ys,a = ⟨ys,[]⟩/\VRels X T ρ l ys
theorem sim_args {as:List Expr} {pos:Pos} {f:Value} {fs:List (M V)} (hp:as.any isStar = false) (h:Sims X d r env names A (evalEach as env) fs):Sim X d r env names A (evalArgs f true (backTo pos (starEach as env)) []) (eSeq fs) (RArgs X):=by
 rw [starEach_plain hp,backTo_plain]
 generalize evalEach as env = ts at h
 cases h with
 | nil=>
  intro T ρ s S H v S' e Q hQ
  obtain ⟨rfl,rfl⟩:=ret_some e
  exact evalArgs_nil3 (Cont.here (R:=RArgs X) hQ (tk:=s.toks) H ⟨[],rfl,rfl⟩)
 | cons h1 h2=>
  intro T ρ s S H v S' e Q hQ
  refine evalArgs_plain (sim_spliced (.cons h1 h2) T ρ s S H v S' e _ fun T1 ρ1 h1 tk1 x X1 p1 H1 r1=>?_)
  exact hQ T1 ρ1 h1 tk1 _ X1 p1 H1 ⟨x,rfl,r1⟩
noncomputable def Calls' (X:Ctx) (A:Around) (f:Value):Prop:=∀ (pos:Pos) (first:List Value) (args:List (Bool × Sem Value)) (Q:Value->Shared->Prop) (E:Value->Shared->Prop) (s:Shared),args.any (·.1) = false ->
 wpAny (model X.prog X.w) A (evalArgs f true args []) (fun a s₁=>X.K.In s₁.heap/\wpAny (model X.prog X.w) A (PySem.call f (first++a.pos) a.kw) Q E s₁) E s->wpAny (model X.prog X.w) A (callWith pos f first args []) Q E s
theorem Calls'.builtin {id:String}:Calls' X A (.builtin id):=fun _ _ _ _ _ _ hp h=>Calls.callWith_builtin hp (wpAny_mono h (fun _ _ q=>q.2) fun _ _ q=>q)
theorem Calls'.type {id:String}:Calls' X A (.type id):=fun _ _ _ _ _ _ hp h=>PySem.callWith_type hp (wpAny_mono h (fun _ _ q=>q.2) fun _ _ q=>q)
theorem Calls'.keep {a:Addr} (hk:keepIn X.K (.ref a) = true):Calls' X A (.ref a):=fun _ _ _ _ _ _ hp h=>
 callWith_of (P:=X.K.In) (by simpa using hp) (fun h hX=>keeps_K hk h hX) h
theorem sim_call (B:BF X) {f:Value} {fs:List (M V)} {as:List Expr} {pos:Pos} {first:List Value} (hc:Calls' X A f) (hp:as.any isStar = false) (h:Sims X d r env names A (evalEach as env) fs) {T:TT} {ρ:List Addr} {s:Shared} {S S1:SS} (H:St X d r T ρ env names S s.heap) {vs:List V}
  (e:eSeq fs S = some (vs,S1)) {Q:Value->Shared->Prop} (hq:∀ T1 ρ1 h1 tk1 ys,Ext d r T s.heap T1 h1->ρ <+: ρ1->St X d r T1 ρ1 env names S1 h1->VRels X T1 ρ1 vs ys->wpAny (model X.prog X.w) A (PySem.call f (first++ys)) Q (fun _ _=>False) { s with heap:=h1,toks:=tk1 }) :
  wpAny (model X.prog X.w) A (callWith pos f first (backTo pos (starEach as env)) []) Q (fun _ _=>False) s:=by
 refine hc _ _ _ _ _ _ (items_plain hp) (sim_args hp h T ρ s S H vs S1 e _ fun T1 ρ1 h1 tk1 a X1 p1 H1 r1=>?_)
 obtain ⟨ys,rfl,ry⟩:=r1
 exact ⟨B.kin.keeps H1.w.baseGet,hq T1 ρ1 h1 tk1 ys X1 p1 H1 ry⟩
theorem one_of {f:M V} {S S1:SS} {a:V} (e:f S = some (a,S1)):eSeq [f] S = some ([a],S1):=by simp [eSeq,bnd,ret',e]
theorem two_of {f g:M V} {S S1 S2:SS} {a b:V} (e:f S = some (a,S1)) (e2:g S1 = some (b,S2)):eSeq [f,g] S = some ([a,b],S2):=by simp [eSeq,bnd,ret',e,e2]
theorem VRels.one {T:TT} {ρ:List Addr} {a:V} {ys:List Value} (h:VRels X T ρ [a] ys):∃ y,ys = [y]/\VRel X T ρ a y:=by
 obtain ⟨y,t,rfl,ry,rt⟩:=h
 cases rt;exact ⟨y,rfl,ry⟩
theorem VRels.two {T:TT} {ρ:List Addr} {a b:V} {ys:List Value} (h:VRels X T ρ [a,b] ys):∃ y z,ys = [y,z]/\VRel X T ρ a y/\VRel X T ρ b z:=by
 obtain ⟨y,t,rfl,ry,rt⟩:=h
 obtain ⟨z,rfl,rz⟩:=rt.one
 exact ⟨y,z,rfl,ry,rz⟩
section
variable {k:Nat} {rc:Raw} {as:List Expr} {fs:List (M V)} {pos:Pos}
theorem pureAt_wp {T:TT} {ρ:List Addr} {s:Shared} {S:SS} {v:V} {f:Addr} {vals:List Value} (H:St X d r T ρ env names S s.heap) (hp:PureAt X A d r T s (.call (.ref f) ⟨vals,[]⟩) v) {Q:Value->Shared->Prop} (hQ:Cont X d r env names T ρ s S (RV X) v Q) :
  wpAny (model X.prog X.w) A (PySem.call (.ref f) vals) Q (fun _ _=>False) s:=
 wpAny_call (hp _ fun T' h' tk y x W' rv _=>hQ T' ρ h' tk y (x.up (Nat.le_succ _) (Nat.le_succ _)) (List.prefix_refl _) (H.across x W') (rv ρ))
theorem sim_callP (B:BF X) (hrc:RawSim X k rc) (hr:Room A k) {a:Addr} (hk:keepIn X.K (.ref a) = true) (hp:as.any isStar = false) (h:Sims X d r env names A (evalEach as env) fs) :
  SimV X d r env names A (callWith pos (.ref a) [] (backTo pos (starEach as env)) []) (eCallP rc a fs):=by
 intro T ρ s S H v S' e Q hQ
 obtain ⟨vs,S1,e1,e⟩:=bnd_some e
 obtain ⟨xs,S2,e2,e⟩:=bnd_some e
 obtain ⟨e3,rfl⟩:=lift_some e
 refine sim_call B (.keep hk) hp h H e1 fun T1 ρ1 h1 tk1 ys X1 p1 H1 r1=>?_
 obtain ⟨T2,X2,H2,r2,n2⟩:=freeze_sound H1 r1 e2
 exact pureAt_wp (s:={ s with heap:=h1,toks:=tk1 }) H2 (pure_raw hrc e3 hr H2.w r2 n2) (Cont.after (Cont.after hQ X1 p1 (tk:=tk1)) X2 (List.prefix_refl _))
theorem sim_callL (B:BF X) (hrc:RawSim X k rc) (hr:Room A k) {a:Addr} (hk:keepIn X.K (.ref a) = true) (hp:as.any isStar = false) (h:Sims X d r env names A (evalEach as env) fs) :
  SimV X d r env names A (callWith pos (.ref a) [] (backTo pos (starEach as env)) []) (eCallL rc a fs):=by
 intro T ρ s S H v S' e Q hQ
 obtain ⟨vs,S1,e1,e⟩:=bnd_some e
 obtain ⟨xs,e2,e⟩:=bi e
 obtain ⟨u,e3,e⟩:=bi e
 obtain ⟨hs,e⟩:=ii e
 obtain ⟨k1,k2⟩:=sp e
 subst k1 k2
 exact sim_call B (.keep hk) hp h H e1 fun T1 ρ1 h1 tk1 ys X1 p1 H1 r1=>pureAt_wp (s:={ s with heap:=h1,toks:=tk1 }) H1 (lent_raw hrc e2 e3 hs hr H1.w H1.o r1) (Cont.after hQ X1 p1 (tk:=tk1))
theorem sim_impCall {T:TT} {ρ:List Addr} {s:Shared} {S S':SS} (hrc:RawSim X k rc) (hr:Room A k) (H:St X d r T ρ env names S s.heap) {a:Addr} {vs:List V} {ys:List Value} (rv:VRels X T ρ vs ys) {v:V} (e:impCall rc a vs S = some (v,S')) {Q:Value->Shared->Prop}
  (hQ:Cont X d r env names T ρ s S' (RV X) v Q):wpAny (model X.prog X.w) A (PySem.call (.ref a) ys) Q (fun _ _=>False) s:=by
 obtain ⟨⟨v0,hp⟩,h1,e⟩:=mi e
 obtain ⟨k1,k2⟩:=pd e
 subst k1 k2
 exact wpAny_call (hrc a vs _ _ _ h1 A d r T ρ ys s hr H.w H.o rv _ fun T2 ρ2 h2 tk y X2 p2 W2 O2 r2=>hQ T2 ρ2 h2 tk y (X2.up (Nat.le_succ _) (Nat.le_refl _)) p2 ⟨W2,H.f.across X2 p2,O2⟩ r2)
theorem sim_callI (B:BF X) (hrc:RawSim X k rc) (hr:Room A k) {a:Addr} (hk:keepIn X.K (.ref a) = true) (hp:as.any isStar = false) (h:Sims X d r env names A (evalEach as env) fs) :
  SimV X d r env names A (callWith pos (.ref a) [] (backTo pos (starEach as env)) []) (eCallI rc a fs):=by
 intro T ρ s S H v S' e Q hQ
 obtain ⟨vs,S1,e1,e⟩:=bnd_some e
 refine sim_call B (.keep hk) hp h H e1 fun T1 ρ1 h1 tk1 ys X1 p1 H1 r1=>?_
 exact sim_impCall (s:={ s with heap:=h1,toks:=tk1 }) hrc hr H1 r1 e (Cont.after hQ X1 p1 (tk:=tk1))
theorem sim_newP (B:BA X) (hrc:RawSim X k rc) (hr:Room1 A k) {a i:Addr} (hi:X.P.init a = some i) (hp:as.any isStar = false) (h:Sims X d r env names A (evalEach as env) fs) :
  SimV X d r env names A (callWith pos (.ref a) [] (backTo pos (starEach as env)) []) (eNewP rc a i fs):=by
 intro T ρ s S H v S' e Q hQ
 obtain ⟨vs,S1,e1,e⟩:=bnd_some e
 obtain ⟨xs,S2,e2,e⟩:=bnd_some e
 obtain ⟨e3,rfl⟩:=lift_some e
 refine sim_call B.toBF (.keep (B.init a i hi).2.2.2) hp h H e1 fun T1 ρ1 h1 tk1 ys X1 p1 H1 r1=>?_
 obtain ⟨T2,X2,H2,r2,n2⟩:=freeze_sound H1 r1 e2
 exact pureAt_wp (s:={ s with heap:=h1,toks:=tk1 }) H2 (new_raw B hrc hi e3 hr H2.w r2 n2) (Cont.after (Cont.after hQ X1 p1 (tk:=tk1)) X2 (List.prefix_refl _))
theorem sim_newI (B:BA X) (hrc:RawSim X k rc) (hr:Room1 A k) {a i:Addr} (hi:X.P.init a = some i) (hp:as.any isStar = false) (h:Sims X d r env names A (evalEach as env) fs) :
  SimV X d r env names A (callWith pos (.ref a) [] (backTo pos (starEach as env)) []) (eNewI rc a i fs):=by
 intro T ρ s S H v S' e Q hQ
 obtain ⟨vs,S1,e1,e⟩:=bnd_some e
 obtain ⟨x,S2,e2,e⟩:=bnd_some e
 obtain ⟨u,S3,e3,e4⟩:=bnd_some e
 clear e
 obtain ⟨k1,k2⟩:=sp e2
 subst k1 k2
 obtain ⟨hu,e5⟩:=im e4
 obtain ⟨k3,k4⟩:=ret_some e5
 obtain ⟨⟨v0,hp'⟩,h1,e6⟩:=mi e3
 obtain ⟨k5,k6⟩:=pd e6
 rw [show v0 = .none from k5.trans (isNo_some hu)] at h1
 subst k3 k4 k6
 exact sim_call B.toBF (.keep (B.init a i hi).2.2.2) hp h H e1 fun T1 ρ1 h1' tk1 ys X1 p1 H1 r1=>imp_new_raw (s:={ s with heap:=h1',toks:=tk1 }) B hrc hi hr H1 r1 h1 (Cont.after hQ X1 p1 (tk:=tk1))
end
theorem type_some {v:V} {t:String} (h:typeOf v = some t):v = .st (.type t):=by
 cases v with
 | st x=>cases x with
  | type u=>exact congrArg (fun u=>V.st (.type u)) (Option.some.inj h)
  | _=>exact no h
 | _=>exact no h
structure BC (X:Ctx):Prop extends BA X where
 keep:∀ x a,X.P.glob x = some (.st (.ref a))->keepIn X.K (.ref a) = true
section
variable {k:Nat} {rc:Raw} {as:List Expr} {fs:List (M V)} {pos:Pos}
theorem sim_callB (B:BF X) (hh:A.handled = none) {m:Bool} {id:String} (hp:as.any isStar = false) (h:Sims X d r env names A (evalEach as env) fs) :
  SimV X d r env names A (callWith pos (.builtin id) [] (backTo pos (starEach as env)) []) (callB m id fs):=by
 cases fs with
 | nil=>exact sim_lift_none
 | cons f fs=>
  cases fs with
  | nil=>
   by_cases q:id = "len"
   ·rw [show callB m id [f] = eLen f from if_pos q,q]
    intro T ρ s S H v S' e Q hQ
    obtain ⟨a,S1,e1,e⟩:=bnd_some e
    obtain ⟨l,e2,e3⟩:=mi e
    refine sim_call B .builtin hp h H (one_of e1) fun T1 ρ1 h1 tk1 ys X1 p1 H1 r1=>?_
    obtain ⟨y,k,ry⟩:=r1.one
    rw [k]
    exact sim_len (s:={ s with heap:=h1,toks:=tk1 }) H1 ry e2 fun t tk=>Cont.same (Cont.after hQ X1 p1 (tk:=tk)) (tk:=tk) H1 e3 ⟨_,rfl⟩
   ·rw [show callB m id [f] = _ from if_neg q]
    by_cases q:id = "sorted"
    ·rw [if_pos q,q]
     intro T ρ s S H v S' e Q hQ
     obtain ⟨a,S1,e1,e⟩:=bnd_some e
     obtain ⟨l,hl,e⟩:=bi e
     refine sim_call B .builtin hp h H (one_of e1) fun T1 ρ1 h1 tk1 ys X1 p1 H1 r1=>?_
     obtain ⟨y,k,ry⟩:=r1.one
     rw [k]
     exact sim_sorted (s:={ s with heap:=h1,toks:=tk1 }) H1 ry hl e (Cont.after hQ X1 p1 (tk:=tk1))
    ·rw [if_neg q];exact sim_lift_none
  | cons g fs=>
   cases fs with
   | cons _ _=>exact sim_lift_none
   | nil=>
    by_cases q:id = "max"
    ·rw [show callB m id [f,g] = eMax f g from if_pos q,q]
     intro T ρ s S H v S' e Q hQ
     obtain ⟨a,S1,e1,e⟩:=bnd_some e
     obtain ⟨b,S2,e2,e⟩:=bnd_some e
     obtain ⟨i,ka,e⟩:=i1 e
     obtain ⟨j,kb,e⟩:=i1 e
     obtain ⟨k1,k2⟩:=sp e
     subst ka kb k1 k2
     refine sim_call B .builtin hp h H (two_of e1 e2) fun T1 ρ1 h1 tk1 ys X1 p1 H1 r1=>?_
     obtain ⟨y,z,k,ry,rz⟩:=r1.two
     rw [k]
     exact sim_max (s:={ s with heap:=h1,toks:=tk1 }) H1 hh ry rz (Cont.after hQ X1 p1 (tk:=tk1))
    ·rw [show callB m id [f,g] = _ from if_neg q]
     by_cases q:id = "isinstance"
     ·rw [if_pos q,q]
      intro T ρ s S H v S' e Q hQ
      obtain ⟨a,S1,e1,e⟩:=bnd_some e
      obtain ⟨b,S2,e2,e⟩:=bnd_some e
      obtain ⟨t,kt,e⟩:=bi e
      obtain ⟨ht,e⟩:=ii e
      obtain ⟨b',e3,e4⟩:=mi e
      refine sim_call B .builtin hp h H (two_of e1 e2) fun T1 ρ1 h1 tk1 ys X1 p1 H1 r1=>?_
      obtain ⟨y,z,k,ry,rz⟩:=r1.two
      rw [type_some kt] at rz
      rw [k,show z = .type t from rz]
      exact sim_isInst (s:={ s with heap:=h1,toks:=tk1 }) H1 ry ht e3 fun tk=>Cont.same (Cont.after hQ X1 p1 (tk:=tk)) (tk:=tk) H1 e4 rfl
     ·rw [if_neg q];exact sim_lift_none
theorem sim_callT (B:BF X) {m:Bool} {t:String} (hp:as.any isStar = false) (h:Sims X d r env names A (evalEach as env) fs) :
  SimV X d r env names A (callWith pos (.type t) [] (backTo pos (starEach as env)) []) (callT m t fs):=by
 cases fs with
 | nil=>exact sim_lift_none
 | cons f fs=>
  cases fs with
  | cons _ _=>exact sim_lift_none
  | nil=>
   by_cases q:t = "list"
   ·rw [show callT m t [f] = eListOf m f from if_pos q,q]
    intro T ρ s S H v S' e Q hQ
    obtain ⟨a,S1,e1,e⟩:=bnd_some e
    obtain ⟨l,hl,e⟩:=bi e
    refine sim_call B .type hp h H (one_of e1) fun T1 ρ1 h1 tk1 ys X1 p1 H1 r1=>?_
    obtain ⟨y,k,ry⟩:=r1.one
    rw [k]
    exact sim_listOf (s:={ s with heap:=h1,toks:=tk1 }) H1 ry hl e (Cont.after hQ X1 p1 (tk:=tk1))
   ·rw [show callT m t [f] = _ from if_neg q]
    by_cases q:t = "int"
    ·rw [if_pos q,q]
     intro T ρ s S H v S' e Q hQ
     obtain ⟨a,S1,e1,e⟩:=bnd_some e
     obtain ⟨i,hi,e⟩:=mi e
     refine sim_call B .type hp h H (one_of e1) fun T1 ρ1 h1 tk1 ys X1 p1 H1 r1=>?_
     obtain ⟨y,k,ry⟩:=r1.one
     rw [k]
     exact sim_int (s:={ s with heap:=h1,toks:=tk1 }) ry hi fun t tk=>Cont.same (Cont.after hQ X1 p1 (tk:=tk)) (tk:=tk) H1 e ⟨_,rfl⟩
    ·rw [if_neg q];exact sim_lift_none
theorem sim_callR (B:BC X) {cx:Cx} (hrc:RawSim X k cx.rc) (hr:Room1 A k) (hinit:cx.init = X.P.init) {a:Addr} {x:Str} (hx:X.P.glob x = some (.st (.ref a))) (hp:as.any isStar = false) (h:Sims X d r env names A (evalEach as env) fs) :
  SimV X d r env names A (callWith pos (.ref a) [] (backTo pos (starEach as env)) []) (callR cx a fs):=by
 have hk:=B.keep x a hx
 unfold callR
 generalize hi:cx.init a = o
 rw [hinit] at hi
 cases o with
 | some i=>
  cases cx.kind a with
  | pure=>exact sim_newP B.toBA hrc hr hi hp h
  | lent=>exact sim_newI B.toBA hrc hr hi hp h
  | imp=>exact sim_newI B.toBA hrc hr hi hp h
 | none=>
  cases cx.kind a with
  | pure=>exact sim_callP B.toBF hrc hr.room hk hp h
  | lent=>exact sim_callL B.toBF hrc hr.room hk hp h
  | imp=>exact sim_callI B.toBF hrc hr.room hk hp h
theorem sim_callOf (B:BC X) {cx:Cx} (hrc:RawSim X k cx.rc) (hr:Room1 A k) (hinit:cx.init = X.P.init) {m:Bool} {v:V} {y:Value} (hv:v = .st y) (hg:∃ x,X.P.glob x = some v) (hp:as.any isStar = false) (h:Sims X d r env names A (evalEach as env) fs) :
  SimV X d r env names A (callWith pos y [] (backTo pos (starEach as env)) []) (callOf cx m (some v) fs):=by
 subst hv
 obtain ⟨x,hx⟩:=hg
 cases y with
 | builtin id=>exact sim_callB B.toBF hr.2.2 hp h
 | type t=>exact sim_callT B.toBF hp h
 | ref a=>exact sim_callR B hrc hr hinit hx hp h
 | _=>exact sim_lift_none
end
end
section
variable {X:Ctx} {d r:Nat} {env:Env} {names:List (Str × NameKind)} {A:Around}
theorem mkOf_name {n:Str}:(mkOf n).name = n:=by
 unfold mkOf
 by_cases q:n = "append"
 ·rw [if_pos q,q];rfl
 rw [if_neg q];clear q
 by_cases q:n = "extend"
 ·rw [if_pos q,q];rfl
 rw [if_neg q];clear q
 by_cases q:n = "pop"
 ·rw [if_pos q,q];rfl
 rw [if_neg q];clear q
 by_cases q:n = "index"
 ·rw [if_pos q,q];rfl
 rw [if_neg q];clear q
 by_cases q:n = "get"
 ·rw [if_pos q,q];rfl
 rw [if_neg q];rfl
inductive ShAt (X:Ctx) (T:TT) (ρ:List Addr) (h:Heap) (nm:Str) (x:Value):Sh->Prop
 | list (a:Addr) (l:Array Value) (n:Nat) (e:x = .ref a) (q:h.get? a = some { cls:=.type "list",data:=.seq l n }):ShAt X T ρ h nm x .list
 | dict (ks:List Ky) (l:List V) (D:DictAt X T ρ h ks l x):ShAt X T ρ h nm x .dict
 | inst (c:Addr) (ns:List Str) (l:List V) (q:ns.contains nm = false) (I:InsAt X T ρ h c ns l x):ShAt X T ρ h nm x (.inst c)
theorem ListAt.sh {T:TT} {ρ:List Addr} {h:Heap} {l:List V} {x:Value} {nm:Str} (H:ListAt X T ρ h l x):ShAt X T ρ h nm x .list:=by
 obtain ⟨_,a,o,vs,e,ho,⟨n,q⟩,_⟩:=H
 exact .list a _ n e (q ▸ ho)
theorem InsAt.sh {T:TT} {ρ:List Addr} {h:Heap} {c:Addr} {ns:List Str} {l:List V} {x:Value} {nm:Str} {sh:Sh} (I:InsAt X T ρ h c ns l x) (e:shIns nm c ns = some sh):ShAt X T ρ h nm x sh:=by
 obtain ⟨q,e⟩:=ni e
 exact Option.some.inj e ▸ .inst c ns l (Bool.eq_false_iff.mpr q) I
theorem shape_at {T:TT} {ρ:List Addr} {S:SS} {h:Heap} (H:St X d r T ρ env names S h) {v:V} {x:Value} (rv:VRel X T ρ v x) {nm:Str} {sh:Sh} (e:shapeOf nm v S.ob = some sh):ShAt X T ρ h nm x sh:=by
 cases v with
 | lst l=>exact Option.some.inj e ▸ (rv.at H.w).sh
 | dic ks l=>exact Option.some.inj e ▸ .dict ks l (.of_dic H.w rv)
 | ins c ns l=>exact (InsAt.of_ins H.w rv).sh e
 | ref n=>
  obtain ⟨o,ho,e⟩:=bi e
  cases o with
  | list l=>exact Option.some.inj e ▸ (ref_at H rv (show lref n S.ob = some l by unfold lref;rw [ho];rfl)).sh
  | dict ks l=>exact Option.some.inj e ▸ .dict ks l (.of_ref H rv ho)
  | inst c ns l=>exact (InsAt.of_ref H rv ho).sh e
 | _=>exact no e
noncomputable def Gets (X:Ctx) (A:Around) (n:Str) (x:Value) (s:Shared) (f:Value):Prop:=∀ (pl:Sem Bool) (Q:Value × List Value->Shared->Prop),Q (f,[x]) s->wpAny (model X.prog X.w) A (getMethod x n pl) Q (fun _ _=>False) s
theorem gets_inst (B:BA X) {T:TT} {ρ:List Addr} {S:SS} {s:Shared} (H:St X d r T ρ env names S s.heap) {x:Value} {nm:Str} {c f:Addr} (e:ShAt X T ρ s.heap nm x (.inst c)) (hm:X.P.meth c nm = some f):Gets X A nm x s (.ref f):=by
 intro pl Q q
 cases e with
 | inst _ ns l hn I=>
 obtain ⟨_,a,dx,es,k,xs,f,h1,h2,rel,b⟩:=I
 obtain ⟨m1,m2,m3,m4⟩:=B.meth c nm _ hm
 subst f
 exact method_fn (od:=some (dictOf es k)) (B.kinAt H.w) (⟨h1,rfl,rfl,h2⟩:PySem.W.InstAt s.heap a (instObj c dx) c (some (dictOf es k))) (plainGet_of m1).1 (plainGet_of m1).2 m2 (beq_iff_eq.mp m3)
  (by show (lookIn nm (dictOf es k)).map _ = _;rw [lookIn_dict,rel.getL_none hn];rfl) q
theorem gets_list {T:TT} {ρ:List Addr} {s:Shared} {x:Value} {nm:Str} {id:String} (e:ShAt X T ρ s.heap nm x .list) (sl:Slot "list" nm id) (ty:PySem.typeOf (.builtin id) = pure (.type "method_descriptor")) :
  Gets X A nm x s (.builtin id):=by
 intro pl Q q
 cases e with
 | list a l n f ho=>
 subst f
 exact getMethod_builtin ⟨_,ho,rfl⟩ PySem.F.plainAttrs_list sl ty (fun b e=>by cases e;exact ⟨_,ho,rfl⟩) q
theorem gets_dict {T:TT} {ρ:List Addr} {s:Shared} {x:Value} {nm:Str} {id:String} (e:ShAt X T ρ s.heap nm x .dict) (sl:Slot "dict" nm id) (ty:PySem.typeOf (.builtin id) = pure (.type "method_descriptor")) :
  Gets X A nm x s (.builtin id):=by
 intro pl Q q
 cases e with
 | dict ks l D=>
 obtain ⟨a,vs,f,_,⟨o,es,ep,ho,hc,_⟩,_⟩:=D.dictOf
 subst f
 exact getMethod_builtin ⟨_,ho,hc.1⟩ PySem.F.plainAttrs_dict sl ty (fun b e=>by cases e;exact ⟨_,ho,hc.2.1⟩) q
section
variable {k:Nat} {rc:Raw} {as:List Expr} {f:M V} {fs:List (M V)} {pos ap:Pos} {o:Expr} {n:Str} {v u:V} {vs:List V} {S1 S2 S':SS}
inductive Met (X:Ctx) (d r:Nat) (env:Env) (names:List (Str × NameKind)) (A:Around) (n:Str) (v:V) (vs:List V) (S1 S2 S':SS) (u:V):Prop
 | mk (fv:Value) (hc:Calls' X A fv) (hg:∀ {T ρ} {s:Shared} {x},St X d r T ρ env names S1 s.heap->VRel X T ρ v x->Gets X A n x s fv)
  (hq:∀ {T ρ} {s:Shared} {x ys},St X d r T ρ env names S2 s.heap->VRel X T ρ v x->VRels X T ρ vs ys->∀ {Q:Value->Shared->Prop},Cont X d r env names T ρ s S' (RV X) u Q->wpAny (model X.prog X.w) A (PySem.call fv (x :: ys)) Q (fun _ _=>False) s)
theorem form_ok (hn:as.length < 20) (hp:as.any isStar = false):methodCallForm (as.length + ([]:List Keyword).length) (backTo pos (starEach as env)) (backToKw pos (keywordEach [] env)) = true:=by
 have a1:(backTo pos (starEach as env)).all (fun x=>!x.1) = true:=by
  rw [starEach_plain hp,backTo_plain];simp
 unfold methodCallForm
 rw [a1]
 exact decide_eq_true (Nat.lt_trans hn (by decide:20 < 30))
theorem pos_ok (hl:(ap.endLine == pos.line) = true):methodCallPos true o env ap pos = pure pos:=by
 unfold methodCallPos
 rw [hl];rfl
theorem sim_methGo (B:BA X) (hb:isSuper o = false) (hl:(ap.endLine == pos.line) = true) (hn:as.length < 20) (hp:as.any isStar = false) (hf:SimV X d r env names A (eval o env) f) (h:Sims X d r env names A (evalEach as env) fs)
  {T:TT} {ρ:List Addr} {s:Shared} {S:SS} (H:St X d r T ρ env names S s.heap) (e1:f S = some (v,S1)) (e2:eSeq fs S1 = some (vs,S2)) (M:Met X d r env names A n v vs S1 S2 S' u)
  {Q:Value->Shared->Prop} (hQ:Cont X d r env names T ρ s S' (RV X) u Q):wpAny (model X.prog X.w) A (eval (.Call (.Attribute o n ap) as [] pos) env) Q (fun _ _=>False) s:=by
 obtain ⟨fv,hc,hg,hq⟩:=M
 rw [arm_eval_Call,base_plain hb]
 refine wpAny_bind (hf T ρ s S H v S1 e1 _ fun T1 ρ1 h1 tk1 x X1 p1 H1 r1=>wpAny_bind (wpAny_standAt ?_))
 unfold methodCall
 rw [form_ok hn hp]
 refine wpAny_bind (wpAny_holding (hg (s:={ s with heap:=h1,toks:=tk1 }) H1 r1 _ _ ?_))
 refine wpAny_bind (wpAny_of_eq (pos_ok hl) ?_)
 refine sim_call (s:={ s with heap:=h1,toks:=tk1 }) B.toBF hc hp h H1 e2 fun T2 ρ2 h2 tk2 ys X2 p2 H2 r2=>?_
 exact hq (s:={ s with heap:=h2,toks:=tk2 }) H2 (r1.after X2 p2) r2 (Cont.after (Cont.after hQ X1 p1 (tk:=tk1)) X2 p2)
theorem met_dict {ks:List Ky} {l:List V} {kk:MK} (hs:shapeOf kk.name v S1.ob = some .dict) (hD:∀ {T ρ} {h:Heap} {x},St X d r T ρ env names S2 h->VRel X T ρ v x->DictAt X T ρ h ks l x) (e:dictMeth kk ks l vs S2 = some (u,S')):Met X d r env names A kk.name v vs S1 S2 S' u:=by
 cases kk with
 | get=>
  obtain ⟨w,hw,e⟩:=mi e
  exact ⟨.builtin "dict.get",.builtin,fun H rv=>gets_dict (shape_at H rv hs) PySem.F.slot_dict_get PySem.F.type_dict_get,fun H rv ra _ hQ=>sim_dget (hD H rv) ra hw fun z tk rz=>Cont.same hQ (tk:=tk) H e rz⟩
 | _=>exact no e
theorem met_lst {l:List V} {kk:MK} (hu:A.units + 120<=cLine) (e:lstMeth kk l vs S2 = some (u,S')):Met X d r env names A kk.name (.lst l) vs S1 S2 S' u:=by
 cases kk with
 | index=>
  obtain ⟨w,f,e⟩:=a1 e
  obtain ⟨ha,e⟩:=ii e
  obtain ⟨j,hj,e5⟩:=mi e
  subst f
  refine ⟨.builtin "list.index",.builtin,fun H rv=>gets_list (shape_at H rv rfl) PySem.F.slot_list_index PySem.F.type_list_index,fun H rv ra _ hQ=>?_⟩
  obtain ⟨z,f,rz⟩:=ra.one
  exact f ▸ sim_index H hu rv rz ha hj fun t tk=>Cont.same hQ (tk:=tk) H e5 ⟨_,rfl⟩
 | _=>exact no e
theorem met_list {l:List V} {i:Nat} {kk:MK} (hs:shapeOf kk.name (.ref i) S1.ob = some .list) (ho:olook i S2.ob = some (.list l)) (e:listMeth kk i l vs S2 = some (u,S')):Met X d r env names A kk.name (.ref i) vs S1 S2 S' u:=by
 cases kk with
 | append=>
  obtain ⟨w,f,_⟩:=a1 e
  subst f
  refine ⟨.builtin "list.append",.builtin,fun H rv=>gets_list (shape_at H rv hs) PySem.F.slot_list_append PySem.F.type_list_append,fun H rv ra Q hQ=>?_⟩
  obtain ⟨z,f,rz⟩:=ra.one
  exact f ▸ sim_append H rv ho rz u S' e Q hQ
 | extend=>
  obtain ⟨w,f,_⟩:=a1 e
  subst f
  refine ⟨.builtin "list.extend",.builtin,fun H rv=>gets_list (shape_at H rv hs) PySem.F.slot_list_extend PySem.F.type_list_extend,fun H rv ra Q hQ=>?_⟩
  obtain ⟨z,f,rz⟩:=ra.one
  exact f ▸ sim_extend H rv ho rz u S' e Q hQ
 | pop=>
  have f:=List.isEmpty_iff.mp (ii e).1
  subst f
  refine ⟨.builtin "list.pop",.builtin,fun H rv=>gets_list (shape_at H rv hs) PySem.F.slot_list_pop PySem.F.type_list_pop,fun H rv ra Q hQ=>?_⟩
  cases ra
  exact sim_pop H rv ho u S' e Q hQ
 | _=>exact no e
theorem met_inst (B:BC X) (hrc:RawSim X k rc) (hr:Room A k) {c:Addr} {ns:List Str} {i:Nat} {kk:MK} {sh:Sh} (hs:shapeOf kk.name (.ref i) S1.ob = some sh) (hs2:shIns kk.name c ns = some sh)
  (e:insMeth X.P.meth kk c ns (fun f=>impCall rc f (.ref i :: vs) S2) = some (u,S')):Met X d r env names A kk.name (.ref i) vs S1 S2 S' u:=by
 obtain ⟨g,hm,e⟩:=bi e
 have hk:=Option.some.inj (ni hs2).2
 subst hk
 refine ⟨.ref g,.keep (B.meth c _ g hm).2.2.2,fun H rv=>gets_inst B.toBA H (shape_at H rv hs) hm,fun H rv ra Q hQ=>?_⟩
 exact sim_impCall hrc hr H (vs:=.ref i :: vs) ⟨_,_,rfl,rv,ra⟩ (ni e).2 hQ
theorem met_ins (B:BC X) (hrc:RawSim X k rc) (hr:Room A k) {c:Addr} {ns:List Str} {l:List V} {kk:MK}
  (e:insMeth X.P.meth kk c ns (fun f=>if nrs l = true then (bnd (freeze vs) fun xs=>lift (pureCall rc f (.ins c ns l :: xs))) S2 else none) = some (u,S')):Met X d r env names A kk.name (.ins c ns l) vs S1 S2 S' u:=by
 obtain ⟨g,hm,e⟩:=bi e
 obtain ⟨hn,e⟩:=ni e
 obtain ⟨hl,e⟩:=ii e
 obtain ⟨xs,S3,e3,e⟩:=bnd_some e
 obtain ⟨e4,f⟩:=lift_some e
 subst f
 have hs:shapeOf kk.name (.ins c ns l) S1.ob = some (.inst c):=if_neg hn
 refine ⟨.ref g,.keep (B.meth c _ g hm).2.2.2,fun H rv=>gets_inst B.toBA H (shape_at H rv hs) hm,fun {T ρ s y ys} H rv ra Q hQ=>?_⟩
 obtain ⟨T2,X2,H2,r2,n2⟩:=freeze_sound H ra e3
 exact pureAt_wp H2 (pure_raw hrc e4 hr H2.w (vals:=y :: ys) (ρ:=ρ) ⟨y,ys,rfl,rv.after X2 (List.prefix_refl _),r2⟩ (by show (nrs l && nrs xs) = true;rw [hl,n2];rfl)) (Cont.after hQ X2 (List.prefix_refl _))
theorem met_all (B:BC X) (hrc:RawSim X k rc) (hr:Room A k) {kk:MK} {sh:Sh} (hs:shapeOf kk.name v S1.ob = some sh) (hs2:shapeOf kk.name v S2.ob = some sh) (e:methCall rc X.P.meth kk v vs S2 = some (u,S')):Met X d r env names A kk.name v vs S1 S2 S' u:=by
 have hu:A.units + 120<=cLine:=Nat.le_trans (by omega) hr.2.1
 cases v with
 | lst l=>exact met_lst hu e
 | dic ks l=>exact met_dict rfl (fun H rv=>.of_dic H.w rv) e
 | ins c ns l=>exact met_ins B hrc hr e
 | ref i=>
  obtain ⟨o,ho,e⟩:=bi e
  obtain ⟨o',ho',e'⟩:=bi hs2
  rw [ho] at ho'
  rw [← Option.some.inj ho'] at e'
  cases o with
  | list l=>exact met_list (hs.trans e'.symm) ho e
  | dict ks l=>exact met_dict (hs.trans e'.symm) (fun H rv=>.of_ref H rv ho) e
  | inst c ns l=>exact met_inst B hrc hr hs e' e
 | _=>exact no e
theorem sim_Meth (B:BC X) (hrc:RawSim X k rc) (hr:Room A k) {mt:Addr->Str->Option Addr} (hmt:mt = X.P.meth) (hb:isSuper o = false) (hl:(ap.endLine == pos.line) = true) (hn:as.length < 20) (hp:as.any isStar = false)
  (hf:SimV X d r env names A (eval o env) f) (h:Sims X d r env names A (evalEach as env) fs):SimV X d r env names A (eval (.Call (.Attribute o n ap) as [] pos) env) (eMeth rc mt (mkOf n) f fs):=by
 intro T ρ s S H u S' e Q hQ
 obtain ⟨v,S1,e1,e⟩:=bnd_some e
 obtain ⟨sh,hs,e⟩:=bi e
 obtain ⟨vs,S2,e2,e⟩:=bnd_some e
 obtain ⟨hs2,e⟩:=ii e
 rw [hmt] at e
 exact sim_methGo B.toBA hb hl hn hp hf h H e1 e2 (mkOf_name (n:=n) ▸ met_all B hrc hr hs hs2 e) hQ
end
end
section
variable {X:Ctx} {d r:Nat} {env:Env} {names:List (Str × NameKind)} {A:Around}
noncomputable def Kinds (env:Env) (names:List (Str × NameKind)):Prop:=∀ x,(names.lookup x = some .local ↔ env.kindOf x = some .local)/\(names.lookup x = some .cell->env.kindOf x = some .cell)
theorem WRel.poke {T:TT} {h h':Heap} {a:Addr} {e:Nat} (W:WRel X T h) (t:T a = .frm e) (k:∀ b o,b ≠ a->h.get? b = some o->h'.get? b = some o) (ho:∃ o,h'.get? a = some o):WRel X T h' where
 fro b o q:=k b o (by rintro rfl;rw [t] at q;cases q) (W.fro b o q)
 itr b o q:=k b o (by rintro rfl;rw [t] at q;cases q) (W.itr b o q)
 live b q:=by
  by_cases z:b = a
  ·subst z;exact ho
  ·obtain ⟨o,e⟩:=W.live b q;exact ⟨o,k b o z e⟩
 base:=W.base
theorem ORels.poke {T:TT} {ρ:List Addr} {ob:OB} {nx:Nat} {h h':Heap} {a:Addr} {e:Nat} (O:ORels X r T ρ ob nx h) (t:T a = .frm e) (k:∀ b o,b ≠ a->h.get? b = some o->h'.get? b = some o):ORels X r T ρ ob nx h':=
 ⟨O.len,fun n o q=>(O.obj n o q).mono (fun _ _ q=>q) (List.prefix_refl _) (fun _ q=>q) (fun _ q=>q) fun b x q=>k b x (by rintro rfl;rcases q with q | q <;> rw [t] at q <;> cases q)⟩
theorem Ext.poke {T:TT} {h h':Heap} {a:Addr} (t:T a = .frm d) (k:∀ b o,b ≠ a->h.get? b = some o->h'.get? b = some o):Ext d r T h T h' where
 fro _ _ e:=e
 itr _ _ e:=e
 frm _ _ e _:=e
 frmK b e o q l:=k b o (by rintro rfl;rw [t] at q;cases q;exact absurd l (Nat.lt_irrefl _))
 mu _ _ _ e _:=e
 muK b e n o q _:=k b o (by rintro rfl;rw [t] at q;cases q)
 md _ _ _ e _:=e
 mdK b e n o q _:=k b o (by rintro rfl;rw [t] at q;cases q)
inductive SlotT (x:Str) (names:List (Str × NameKind)) (n i:Nat):Prop
 | mk (a:slotIx x names n = some i) (k:NameKind) (e:kindIx x names = some k) (q:k = .local ∨ k = .cell)
theorem slotT_slot {x:Str} {names:List (Str × NameKind)} {i:Nat}:∀ {n:Nat},slotT x names n = some i->SlotT x names n i:=by
 induction names with
 | nil=>intro n h;exact no h
 | cons p r ih=>
  intro n h
  by_cases z:x = p.1
  ·have h':(if p.2 = .local ∨ p.2 = .cell then some n else none) = some i:=(if_pos z).symm.trans h
   obtain ⟨q,e⟩:=ii h'
   exact ⟨(if_pos z).trans ((if_pos (by rcases q with q | q <;> rw [q] <;> rfl)).trans e),p.2,if_pos z,q⟩
  ·have h':slotT x r (n + 1) = some i:=(if_neg z).symm.trans h
   obtain ⟨a,k,e,q⟩:=ih h'
   exact ⟨(if_neg z).trans a,k,(if_neg z).trans e,q⟩
theorem slotIx_inj {x y:Str} {names:List (Str × NameKind)} {i:Nat}:∀ {n:Nat},slotIx x names n = some i->slotIx y names n = some i->x = y:=by
 induction names with
 | nil=>intro n h;exact no h
 | cons p r ih=>
  intro n h g
  by_cases e1:x = p.1
  ·by_cases e2:y = p.1
   ·exact e1.trans e2.symm
   ·have h':(if isVar p.2 = true then some n else none) = some i:=(if_pos e1).symm.trans h
    have g':slotIx y r (n + 1) = some i:=(if_neg e2).symm.trans g
    have a:=(slotIx_lt g').1
    rw [← Option.some.inj (ii h').2] at a
    exact absurd a (Nat.not_succ_le_self n)
  ·have h':slotIx x r (n + 1) = some i:=(if_neg e1).symm.trans h
   by_cases e2:y = p.1
   ·have g':(if isVar p.2 = true then some n else none) = some i:=(if_pos e2).symm.trans g
    have a:=(slotIx_lt h').1
    rw [← Option.some.inj (ii g').2] at a
    exact absurd a (Nat.not_succ_le_self n)
   ·exact ih h' ((if_neg e2).symm.trans g)
theorem ORels.sub {T:TT} {ρ:List Addr} {ob ob':OB} {nx:Nat} {h:Heap} (O:ORels X r T ρ ob nx h) (q:∀ n o,olook n ob' = some o->olook n ob = some o):ORels X r T ρ ob' nx h:=⟨O.len,fun n o e=>O.obj n o (q n o e)⟩
theorem dropOld_sub {i:Nat} {v:V} {S:SS} {n:Nat} {o:MO} (h:olook n (dropOld i v S) = some o):olook n S.ob = some o:=by
 unfold dropOld at h
 generalize S.sl[i]? = q at h
 cases q with
 | none=>exact h
 | some q=>cases q with
  | none=>exact h
  | some q=>cases q with
   | ref m=>cases v with
    | ref k=>
     have h':olook n (if k = m then S.ob else odrop m S.ob) = some o:=h
     by_cases z:k = m
     ·rw [if_pos z] at h';exact h'
     ·rw [if_neg z] at h';exact (olook_odrop h').2
    | _=>exact (olook_odrop h).2
   | _=>exact h
section
variable {T:TT} {ρ:List Addr} {sl:List (Option V)} {h h':Heap} {x:Str} {i:Nat} {v:V} {y:Value} {m:Str->Option Value}
theorem set_val {w:V} (hi:i < sl.length) (q:(sl.set i (some v))[i]? = some (some w)):v = w:=by
 rw [List.getElem?_set_self hi] at q
 exact Option.some.inj (Option.some.inj q)
theorem ns_local (F:FRel X d T ρ env names sl h) (hm:∀ i x k,slotIx x names 0 = some i->kindIx x names = some k->LocR X T ρ env sl[i]? x k m ∨ CelR X d T ρ env sl[i]? h x k) (hi:i < sl.length) (hix:slotIx x names 0 = some i) (hk:kindIx x names = some .local)
  (b:env.kindOf x = some .local) (rv:VRel X T ρ v y) (kp:∀ b o,b ≠ env.locals->h.get? b = some o->h'.get? b = some o) (j:Nat) (x':Str) (k':NameKind) (hj:slotIx x' names 0 = some j) (hk':kindIx x' names = some k') :
  LocR X T ρ env (sl.set i (some v))[j]? x' k' (fun z=>if z = x then some y else m z) ∨ CelR X d T ρ env (sl.set i (some v))[j]? h' x' k':=by
 by_cases z:j = i
 ·rw [z] at hj ⊢
  have e:=slotIx_inj hj hix
  rw [e] at hk' ⊢
  exact .inl ⟨Option.some.inj (hk'.symm.trans hk),b,fun w hw=>⟨y,if_pos rfl,set_val hi hw ▸ rv⟩⟩
 ·rw [List.getElem?_set_ne (Ne.symm z)]
  have nx:x' ≠ x:=fun e=>z (Option.some.inj (hj.symm.trans (e ▸ hix)))
  rcases hm j x' k' hj hk' with ⟨a,b,c⟩ | ⟨a,b,c,vo,e,h1,h2,h3,h4,⟨o,q,q'⟩,h6⟩
  ·exact .inl ⟨a,b,fun w hw=>let ⟨z,z1,z2⟩:=c w hw;⟨z,(if_neg nx).trans z1,z2⟩⟩
  ·exact .inr ⟨a,b,c,vo,e,h1,h2,h3,h4,⟨o,kp _ _ (F.cl _ _ h1) q,q'⟩,h6⟩
theorem ns_cell (F:FRel X d T ρ env names sl h) (hm:∀ i x k,slotIx x names 0 = some i->kindIx x names = some k->LocR X T ρ env sl[i]? x k m ∨ CelR X d T ρ env sl[i]? h x k) (hi:i < sl.length) (hix:slotIx x names 0 = some i) (hk:kindIx x names = some .cell)
  {c:Addr} {e:Nat} (b:env.kindOf x = some .cell) (h1:env.cells.lookup x = some c) (h2:T c = .frm e) (h3:e<=d) (h4:e = d) (h5:h'.IsCell c (some y)) (rv:VRel X T ρ v y) (kp:∀ b o,b ≠ c->h.get? b = some o->h'.get? b = some o)
  (j:Nat) (x':Str) (k':NameKind) (hj:slotIx x' names 0 = some j) (hk':kindIx x' names = some k'):LocR X T ρ env (sl.set i (some v))[j]? x' k' m ∨ CelR X d T ρ env (sl.set i (some v))[j]? h' x' k':=by
 by_cases z:j = i
 ·rw [z] at hj ⊢
  have f:=slotIx_inj hj hix
  rw [f] at hk' ⊢
  have k:=Option.some.inj (hk'.symm.trans hk)
  exact .inr ⟨(by rw [k];intro q;cases q),.inl b,c,_,e,h1,h2,h3,fun _=>⟨b,h4⟩,h5,fun w hw=>⟨y,rfl,set_val hi hw ▸ rv⟩⟩
 ·rw [List.getElem?_set_ne (Ne.symm z)]
  have nx:x' ≠ x:=fun e=>z (Option.some.inj (hj.symm.trans (e ▸ hix)))
  rcases hm j x' k' hj hk' with q | ⟨a,b,c',vo,e,g1,g2,g3,g4,⟨o,q,q'⟩,g6⟩
  ·exact .inl q
  ·exact .inr ⟨a,b,c',vo,e,g1,g2,g3,g4,⟨o,kp _ _ (fun e=>nx (F.apart _ _ _ (e ▸ g1) h1)) q,q'⟩,g6⟩
end
theorem sim_store {T:TT} {ρ:List Addr} {s:Shared} {S:SS} (H:St X d r T ρ env names S s.heap) {x:Str} {i:Nat} (hx:slotT x names 0 = some i) {v:V} {y:Value} (rv:VRel X T ρ v y) :
  SimAt X d r env names A T ρ s S (storeName env x y) (put1 i v) RU:=by
 intro u S' e Q hQ
 obtain ⟨hi,e⟩:=ii e
 have e:=congrArg Prod.snd (Option.some.inj e)
 subst e
 obtain ⟨hix,k,hk,hkk⟩:=slotT_slot hx
 have F:=H.f
 obtain ⟨m,hns,hm⟩:=F.ns
 have O':∀ {h'},(ORels X r T ρ S.ob S.nx h')->ORels X r T ρ (dropOld i v S) S.nx h':=fun o=>o.sub fun _ _=>dropOld_sub
 have len:(S.sl.set i (some v)).length = names.length:=List.length_set.trans F.len
 rcases hm i x k hix hk with ⟨f,b,_⟩ | ⟨hnl,_,c,vo,e',h1,h2,h3,h4,h5,_⟩
 ·subst f
  refine wpAny_storeName_local b hns (fun h' hns' hs'=>?_) (by rw [F.kind];rfl)
  have kp:∀ b o,b ≠ env.locals->s.heap.get? b = some o->h'.get? b = some o:=fun b o hb e=>(hs'.2 b hb).trans e
  have ho:∃ o,h'.get? env.locals = some o:=let ⟨o,_,_,q,_⟩:=hns';⟨o,q⟩
  exact hQ T ρ h' _ () (Ext.poke F.loc kp) (List.prefix_refl _) ⟨H.w.poke F.loc kp ho,{ F with len:=len,ns:=⟨_,hns',ns_local F hm hi hix hk b rv kp⟩},O' (H.o.poke F.loc kp)⟩ trivial
 ·have hc:k = .cell:=hkk.resolve_left hnl
  subst hc
  obtain ⟨hke,hd⟩:=h4 rfl
  refine wpAny_storeName_cell F.kind hke h1 h5 fun h' hc' hs'=>?_
  have kp:∀ b o,b ≠ c->s.heap.get? b = some o->h'.get? b = some o:=fun b o hb e=>(hs'.2 b hb).trans e
  have ho:∃ o,h'.get? c = some o:=let ⟨o,q,_⟩:=hc';⟨o,q⟩
  have hns':h'.Ns env.locals m:=let ⟨o,es,ep,q,q'⟩:=hns;⟨o,es,ep,kp _ _ (Ne.symm (F.cl _ _ h1)) q,q'⟩
  exact hQ T ρ h' s.toks () (Ext.poke (hd ▸ h2) kp) (List.prefix_refl _) ⟨H.w.poke h2 kp ho,{ F with len:=len,ns:=⟨m,hns',ns_cell F hm hi hix hk hke h1 h2 h3 hd hc' rv kp⟩},O' (H.o.poke h2 kp)⟩ trivial
inductive Tgts (names:List (Str × NameKind)):List Expr->List Nat->Prop
 | nil:Tgts names [] []
 | cons {x p es i is}:slotT x names 0 = some i->Tgts names es is->Tgts names (.Name x p :: es) (i :: is)
theorem tgts_is {names:List (Str × NameKind)} {es:List Expr}:∀ {is:List Nat},tgts names es = some is->Tgts names es is:=by
 induction es with
 | nil=>intro is h;exact Option.some.inj h ▸ .nil
 | cons e es ih=>
  intro is h
  cases e with
  | Name x p=>
   obtain ⟨i,h1,h⟩:=bi h
   obtain ⟨js,h2,h⟩:=mi h
   exact h ▸ .cons h1 (ih h2)
  | _=>exact no h
inductive EachI (es:List Expr) (env:Env) (is:List Nat):Prop
 | mk (a:(assignEach es env).length = is.length) (b:(assignEach es env).findIdx? (·.1) = none)
theorem Tgts.each {es:List Expr} {is:List Nat} (h:Tgts names es is):EachI es env is:=by
 induction h with
 | nil=>exact ⟨rfl,rfl⟩
 | @cons x p es i is h1 h2 ih=>
  obtain ⟨a,b⟩:=ih
  refine ⟨congrArg (· + 1) a,?_⟩
  show ((false,assign (.Name x p) env) :: assignEach es env).findIdx? _ = none
  rw [List.findIdx?_cons,b]
  rfl
theorem sim_puts {es:List Expr} {is:List Nat} (h:Tgts names es is):∀ {T:TT} {ρ:List Addr} {s:Shared} {S:SS} {l:List V} {ys:List Value},St X d r T ρ env names S s.heap->VRels X T ρ l ys ->
  SimAt X d r env names A T ρ s S (assignInOrder ((assignEach es env).map (·.2)) ys) (puts is l) RU:=by
 induction h with
 | nil=>
  intro T ρ s S l ys H rv u S' e Q hQ
  cases l with
  | nil=>exact wpAny_pure (hQ T ρ s.heap s.toks () Ext.refl (List.prefix_refl _) ((ret_some e).2 ▸ H) trivial)
  | cons _ _=>exact no e
 | @cons x p es i is h1 h2 ih=>
  intro T ρ s S l ys H rv u S' e Q hQ
  cases l with
  | nil=>exact no e
  | cons v l=>
   obtain ⟨y,ys,f,ry,rl⟩:=rv
   obtain ⟨u1,S1,e1,e⟩:=bnd_some e
   subst f
   refine assignInOrder_cons (assign_Name ?_)
   refine sim_store H h1 ry u1 S1 e1 _ fun T1 ρ1 g1 tk1 _ X1 p1 H1 _=>?_
   exact ih (s:={ s with heap:=g1,toks:=tk1 }) H1 (rl.after X1 p1) u S' e Q fun T2 ρ2 h2 tk2 z X2 p2 H2 r2=>hQ T2 ρ2 h2 tk2 z (X1.trans X2) (p1.trans p2) H2 r2
theorem puts_len {is:List Nat}:∀ {l:List V} {S S':SS} {u:Unit},puts is l S = some (u,S')->l.length = is.length:=by
 induction is with
 | nil=>
  intro l S S' u e
  cases l with
  | nil=>rfl
  | cons _ _=>exact no e
 | cons i is ih=>
  intro l S S' u e
  cases l with
  | nil=>exact no e
  | cons _ _=>
   obtain ⟨_,_,_,e⟩:=bnd_some e
   exact congrArg (· + 1) (ih e)
theorem sim_putT (hh:A.handled = none) {t:Expr} {tg:Tg} (h:tgtOf names t = some tg) {T:TT} {ρ:List Addr} {s:Shared} {S:SS} {v:V} {y:Value} (H:St X d r T ρ env names S s.heap) (rv:VRel X T ρ v y) :
  SimAt X d r env names A T ρ s S (assign t env y) (putT tg v) RU:=by
 intro u S' e Q hQ
 cases t with
 | Name x p=>
  obtain ⟨i,hi,f⟩:=mi h
  subst f
  exact assign_Name (sim_store H hi rv u S' e Q hQ)
 | Tuple es k p=>
  obtain ⟨is,hi,f⟩:=mi h
  subst f
  have ht:=tgts_is hi
  obtain ⟨l,f,e⟩:=t1 e
  subst f
  obtain ⟨a,vs,f,hl,rl⟩:=isTuple_of H.w rv
  subst f
  obtain ⟨a1,a2⟩:=ht.each (env:=env)
  refine wpAny_assign_Tuple hh hl (a1.trans ((puts_len e).symm.trans (VRels.length _ rl).symm)) a2 fun h' he=>?_
  have kp:Keeps' T s.heap h':=Keeps'.extBut H.w.fresh he
  exact sim_puts ht (s:={ s with heap:=h' }) (H.keep kp) rl u S' e Q fun T2 ρ2 h2 tk2 z X2 p2 H2 r2=>hQ T2 ρ2 h2 tk2 z ((Ext.keep kp).trans X2) p2 H2 r2
 | _=>exact no h
end
section
variable {X:Ctx} {d r:Nat} {env:Env} {names:List (Str × NameKind)} {A:Around}
noncomputable abbrev SimS (X:Ctx) (d r:Nat) (env:Env) (names:List (Str × NameKind)) (A:Around) (t:Sem Flow) (f:T):Prop:=Sim X d r env names A t f (RF X)
theorem Cont.flow {T:TT} {ρ:List Addr} {s:Shared} {S S':SS} {v w:Fl} {Q:Flow->Shared->Prop} (c:Cont X d r env names T ρ s S' (RF X) v Q) (e:(ret' w:M Fl) S = some (v,S')) {T1:TT} {ρ1:List Addr} {h1:Heap} {tk1:Nat}
  (x:Ext d r T s.heap T1 h1) (p:ρ <+: ρ1) (H:St X d r T1 ρ1 env names S h1) {y:Flow} (hr:RF X T1 ρ1 w y):Q y { s with heap:=h1,toks:=tk1 }:=by
 obtain ⟨e1,e2⟩:=ret_some e
 rw [← e1,← e2] at c
 exact c T1 ρ1 h1 tk1 y x p H hr
theorem Cont.flow0 {T:TT} {ρ:List Addr} {s:Shared} {S S':SS} {v w:Fl} {Q:Flow->Shared->Prop} (c:Cont X d r env names T ρ s S' (RF X) v Q) (e:(ret' w:M Fl) S = some (v,S'))
  (H:St X d r T ρ env names S s.heap) {y:Flow} (hr:RF X T ρ w y):Q y s:=c.flow e (tk1:=s.toks) Ext.refl (List.prefix_refl _) H hr
theorem sim_Pass {pos:Pos}:SimS X d r env names A (exec (.Pass pos) env) sNext:=fun _ _ _ _ H _ _ e _ hQ=>wpAny_bind (wpAny_standAt (wpAny_pure (Cont.flow0 hQ e H .next)))
theorem sim_Break {pos:Pos}:SimS X d r env names A (exec (.Break pos) env) sBrk:=fun _ _ _ _ H _ _ e _ hQ=>wpAny_bind (wpAny_standAt (wpAny_pure (Cont.flow0 hQ e H .brk)))
theorem sim_Continue {pos:Pos}:SimS X d r env names A (exec (.Continue pos) env) sCont:=fun _ _ _ _ H _ _ e _ hQ=>wpAny_bind (wpAny_standAt (wpAny_pure (Cont.flow0 hQ e H .cont)))
theorem sim_nil:SimS X d r env names A (execs [] env) sNext:=fun _ _ _ _ H _ _ e _ hQ=>wpAny_execs_nil (Cont.flow0 hQ e H .next)
theorem sim_cons {st:Stmt} {rest:List Stmt} {f g:M Fl} (hf:SimS X d r env names A (exec st env) f) (hg:SimS X d r env names A (execs rest env) g):SimS X d r env names A (execs (st :: rest) env) (sSeq f g):=by
 intro T ρ s S H v S' e Q hQ
 obtain ⟨a,S1,e1,e⟩:=bnd_some e
 refine wpAny_execs_cons (hf T ρ s S H a S1 e1 _ fun T1 ρ1 h1 tk1 x X1 p1 H1 r1=>?_)
 cases r1 with
 | next=>exact hg T1 ρ1 _ S1 H1 v S' e Q (Cont.after hQ X1 p1 (tk:=tk1))
 | brk=>exact Cont.flow hQ e X1 p1 H1 .brk
 | cont=>exact Cont.flow hQ e X1 p1 H1 .cont
 | ret v y h=>exact Cont.flow hQ e X1 p1 H1 (.ret v y h)
theorem kind_fun {T:TT} {ρ:List Addr} {S:SS} {h:Heap} (H:St X d r T ρ env names S h):interactive env = false:=by
 unfold interactive;rw [H.f.kind];rfl
theorem sim_Expr {x:Expr} {pos:Pos} {f:M V} (hc:isComp x = false) (hf:SimV X d r env names A (eval x env) f):SimS X d r env names A (exec (.Expr x pos) env) (sExp f):=by
 intro T ρ s S H v S' e Q hQ
 obtain ⟨a,S1,e1,e⟩:=bnd_some e
 refine wpAny_Expr_any (hf T ρ s S H a S1 e1 _ fun T1 ρ1 h1 tk1 x X1 p1 H1 r1=>Cont.flow hQ e X1 p1 H1 .next) (kind_fun H) ?_
 cases x <;> first | rfl | exact nob hc.symm
theorem sim_Return {x:Expr} {pos:Pos} {f:M V} (hf:SimV X d r env names A (eval x env) f):SimS X d r env names A (exec (.Return (some x) pos) env) (sRet f):=by
 intro T ρ s S H v S' e Q hQ
 obtain ⟨a,S1,e1,e⟩:=bnd_some e
 exact wpAny_Return_some (hf T ρ s S H a S1 e1 _ fun T1 ρ1 h1 tk1 x X1 p1 H1 r1=>Cont.flow hQ e X1 p1 H1 (.ret a x r1))
theorem sim_Return0 {pos:Pos}:SimS X d r env names A (exec (.Return none pos) env) (sRet (eK .none)):=fun _ _ _ _ H _ _ e _ hQ=>wpAny_Return_none (Cont.flow0 (w:=.ret .none) hQ e H (.ret _ _ rfl))
theorem sim_If {t:Expr} {b o:List Stmt} {pos:Pos} {c:M Bool} {f g:M Fl} (ht:SimB X d r env names A (isTrue t env (eval t env)) c) (hf:SimS X d r env names A (execs b env) f) (hg:SimS X d r env names A (execs o env) g) :
  SimS X d r env names A (exec (.If t b o pos) env) (sIf c f g):=by
 intro T ρ s S H v S' e Q hQ
 obtain ⟨a,S1,e1,e⟩:=bnd_some e
 refine wpAny_If (ht T ρ s S H a S1 e1 _ fun T1 ρ1 h1 tk1 x X1 p1 H1 r1=>?_)
 rw [← show a = x from r1]
 cases a with
 | true=>exact hf T1 ρ1 _ S1 H1 v S' e Q (Cont.after hQ X1 p1)
 | false=>exact hg T1 ρ1 _ S1 H1 v S' e Q (Cont.after hQ X1 p1)
theorem not_swap {x:Expr} {t:Expr} {line:Nat} (hc:isComp x = false):swapsWith x (some t) line env = pure false:=by
 cases x <;> first | rfl | exact nob hc.symm
theorem sim_AsgName {x:Str} {p pos:Pos} {w:Expr} {tg:Tg} {f:M V} (hc:isComp w = false) (ht:tgtOf names (.Name x p) = some tg) (hf:SimV X d r env names A (eval w env) f) :
  SimS X d r env names A (exec (.Assign [.Name x p] w pos) env) (sAsg tg f):=by
 intro T ρ s S H v S' e Q hQ
 obtain ⟨a,S1,e1,e⟩:=bnd_some e
 obtain ⟨u,S2,e2,e3⟩:=bnd_some e
 clear e
 refine wpAny_Assign_Name (hf T ρ s S H a S1 e1 _ fun T1 ρ1 h1 tk1 y X1 p1 H1 r1=>?_) (not_swap hc)
 obtain ⟨i,hi,f⟩:=mi ht
 subst f
 exact sim_store (s:={ s with heap:=h1,toks:=tk1 }) H1 hi r1 u S2 e2 _ fun T2 ρ2 h2 tk2 z X2 p2 H2 r2=>Cont.flow hQ e3 (X1.trans X2) (p1.trans p2) H2 .next
theorem swapped_none {es:List Expr} {k:Nat} {p:Pos} {w:Expr} (hw:∀ vs k p,w ≠ .Tuple vs k p):swappedStores [.Tuple es k p] w env = pure none:=by
 unfold swappedStores
 cases w <;> first | rfl | exact absurd rfl (hw _ _ _)
theorem sim_AsgTup (hh:A.handled = none) {es:List Expr} {k:Nat} {p pos:Pos} {w:Expr} {tg:Tg} {f:M V} (hc:isComp w = false) (hw:swappedStores [.Tuple es k p] w env = pure none) (ht:tgtOf names (.Tuple es k p) = some tg) (hf:SimV X d r env names A (eval w env) f) :
  SimS X d r env names A (exec (.Assign [.Tuple es k p] w pos) env) (sAsg tg f):=by
 intro T ρ s S H v S' e Q hQ
 obtain ⟨a,S1,e1,e⟩:=bnd_some e
 obtain ⟨u,S2,e2,e⟩:=bnd_some e
 refine Assign_Tuple (hf T ρ s S H a S1 e1 _ fun T1 ρ1 h1 tk1 y X1 p1 H1 r1=>?_) (by unfold swapsWithSole;exact not_swap hc) hw
 exact sim_putT (s:={ s with heap:=h1,toks:=tk1 }) hh ht H1 r1 u S2 e2 _ fun T2 ρ2 h2 tk2 z X2 p2 H2 r2=>Cont.flow hQ e (X1.trans X2) (p1.trans p2) H2 .next
theorem sim_AsgAttr (B:BA X) {o:Expr} {n:Str} {p pos:Pos} {w:Expr} {f g:M V} {aok:Addr->Str->Bool} (haok:aok = X.P.aok) (hf:SimV X d r env names A (eval o env) f) (hg:SimV X d r env names A (eval w env) g) :
  SimS X d r env names A (exec (.Assign [.Attribute o n p] w pos) env) (sAttr aok f n g):=by
 intro T ρ s S H v S' e Q hQ
 obtain ⟨a,S1,e1,e⟩:=bnd_some e
 obtain ⟨b,S2,e2,e⟩:=bnd_some e
 obtain ⟨u,S3,e3,e⟩:=bnd_some e
 refine plainObj_wpAny_Assign_Attribute (hg T ρ s S H a S1 e1 _ fun T1 ρ1 h1 tk1 y X1 p1 H1 r1=>hf T1 ρ1 _ S1 H1 b S2 e2 _ fun T2 ρ2 h2 tk2 z X2 p2 H2 r2=>?_) (by cases w <;> rfl)
 exact sim_setAttr (s:={ s with heap:=h2,toks:=tk2 }) B haok H2 r2 (r1.after X2 p2) u S3 e3 _ fun T3 ρ3 h3 tk3 _ X3 p3 H3 _=>Cont.flow hQ e ((X1.trans X2).trans X3) ((p1.trans p2).trans p3) H3 .next
theorem sim_AsgSub {o i:Expr} {p pos:Pos} {w:Expr} {f h g:M V} (hf:SimV X d r env names A (eval o env) f) (hi:SimV X d r env names A (eval i env) h) (hg:SimV X d r env names A (eval w env) g) :
  SimS X d r env names A (exec (.Assign [.Subscript o i p] w pos) env) (sSet f h g):=by
 intro T ρ s S H v S' e Q hQ
 obtain ⟨a,S1,e1,e⟩:=bnd_some e
 obtain ⟨b,S2,e2,e⟩:=bnd_some e
 obtain ⟨c,S3,e3,e⟩:=bnd_some e
 obtain ⟨u,S4,e4,e⟩:=bnd_some e
 refine wpAny_Assign_Subscript (hg T ρ s S H a S1 e1 _ fun T1 ρ1 h1 tk1 y X1 p1 H1 r1=>hf T1 ρ1 _ S1 H1 b S2 e2 _ fun T2 ρ2 h2 tk2 z X2 p2 H2 r2=>hi T2 ρ2 _ S2 H2 c S3 e3 _ fun T3 ρ3 h3 tk3 x X3 p3 H3 r3=>?_) (by cases w <;> rfl)
 exact sim_setItem (s:={ s with heap:=h3,toks:=tk3 }) H3 (r2.after X3 p3) r3 ((r1.after X2 p2).after X3 p3) u S4 e4 _ fun T4 ρ4 h4 tk4 _ X4 p4 H4 _=>Cont.flow hQ e (((X1.trans X2).trans X3).trans X4) (((p1.trans p2).trans p3).trans p4) H4 .next
inductive SlotsOf (names:List (Str × NameKind)):List Str->List Nat->Prop
 | nil:SlotsOf names [] []
 | cons {x i xs is}:slotT x names 0 = some i->SlotsOf names xs is->SlotsOf names (x :: xs) (i :: is)
theorem slotsOf_is {xs:List Str}:∀ {is:List Nat},slotsOf names xs = some is->SlotsOf names xs is:=by
 induction xs with
 | nil=>intro is h;exact Option.some.inj h ▸ .nil
 | cons x xs ih=>
  intro is h
  obtain ⟨i,h1,h⟩:=bi h
  obtain ⟨js,h2,h⟩:=mi h
  exact h ▸ .cons h1 (ih h2)
theorem SlotsOf.len {xs:List Str} {is:List Nat} (h:SlotsOf names xs is):xs.length = is.length:=by
 induction h with
 | nil=>rfl
 | cons _ _ ih=>exact congrArg (· + 1) ih
theorem SlotsOf.snoc {xs ys:List Str} {is js:List Nat} (h:SlotsOf names xs is) (g:SlotsOf names ys js):SlotsOf names (xs++ys) (is++js):=by
 induction h with
 | nil=>exact g
 | cons a _ ih=>exact .cons a ih
theorem SlotsOf.rev {xs:List Str} {is:List Nat} (h:SlotsOf names xs is):SlotsOf names xs.reverse is.reverse:=by
 induction h with
 | nil=>exact .nil
 | cons a _ ih=>rw [List.reverse_cons,List.reverse_cons];exact ih.snoc (.cons a .nil)
theorem sim_putN {xs:List Str} {is:List Nat} (h:SlotsOf names xs is):∀ {T:TT} {ρ:List Addr} {s:Shared} {S:SS} {l:List V} {ys:List Value},St X d r T ρ env names S s.heap->VRels X T ρ l ys ->
  SimAt X d r env names A T ρ s S (assignInOrder (xs.map fun n=>bindName env n) ys) (puts is l) RU:=by
 induction h with
 | nil=>
  intro T ρ s S l ys H rv u S' e Q hQ
  cases l with
  | nil=>exact wpAny_pure (hQ T ρ s.heap s.toks () Ext.refl (List.prefix_refl _) ((ret_some e).2 ▸ H) trivial)
  | cons _ _=>exact no e
 | @cons x i xs is h1 h2 ih=>
  intro T ρ s S l ys H rv u S' e Q hQ
  cases l with
  | nil=>exact no e
  | cons v l=>
   obtain ⟨y,ys,f,ry,rl⟩:=rv
   obtain ⟨u1,S1,e1,e⟩:=bnd_some e
   subst f
   refine assignInOrder_cons (wpAny_bindName ?_)
   refine sim_store H h1 ry u1 S1 e1 _ fun T1 ρ1 g1 tk1 _ X1 p1 H1 _=>?_
   exact ih (s:={ s with heap:=g1,toks:=tk1 }) H1 (rl.after X1 p1) u S' e Q fun T2 ρ2 h2 tk2 z X2 p2 H2 r2=>hQ T2 ρ2 h2 tk2 z (X1.trans X2) (p1.trans p2) H2 r2
noncomputable def swapSpec (env:Env) (es vs:List Expr):Sem (Option (List Str)):=
 if !(es.length == 2 || es.length == 3) || vs.length != es.length || env.blockKind != .function then pure none
 else if vs.any isStar then pure none
 else
  let xs:=es.filterMap (nameOn (fun id=>env.kindOf id == some .local) ((es.head?.map (·.pos.line)).getD 0))
  if xs.length != es.length || xs.eraseDups.length != xs.length then pure none
  else if vs.all (foldedForSure 8) then pure none
  else do
   if vs.all (constantsAlone 8) then unsupported "assign.tuple-of-constant-expressions:order-of-the-stores"
   pure (some xs)
theorem swap_spec {es vs:List Expr} {k k2:Nat} {p p2:Pos}:swappedStores [.Tuple es k p] (.Tuple vs k2 p2) env = swapSpec env es vs:=by
 unfold swappedStores swapSpec
 have h1:(fun (e:Expr)=>match e with | .Starred ..=>true | _=>false) = isStar:=by funext e;cases e <;> rfl
 have h2:(fun (e:Expr)=>match e with
  | .Name id pos=>if env.kindOf id == some .local && pos.line == (es.head?.map (·.pos.line)).getD 0 then some id else none
  | _=>none) = nameOn (fun id=>env.kindOf id == some .local) ((es.head?.map (·.pos.line)).getD 0):=by funext e;cases e <;> rfl
 rw [← h1,← h2]
 rfl
theorem swapped_go {es vs:List Expr} {xs ys:List Str} (hb:env.blockKind = .function) (hp:vs.any isStar = false) (hx:es.filterMap (nameOn (fun id=>env.kindOf id == some .local) ((es.head?.map (·.pos.line)).getD 0)) = ys) (h:swapOk es vs ys = some xs) :
  swapSpec env es vs = pure (some xs):=by
 unfold swapOk at h
 obtain ⟨c1,h⟩:=ni h
 obtain ⟨c2,h⟩:=ni h
 obtain ⟨c3,h⟩:=ni h
 obtain ⟨c4,h⟩:=ni h
 obtain ⟨c5,h⟩:=ni h
 obtain ⟨c6,h⟩:=ni h
 unfold swapSpec
 dsimp only
 rw [hx,hb,Bool.eq_false_iff.mpr c1,Bool.eq_false_iff.mpr c2,hp,Bool.eq_false_iff.mpr c3,Bool.eq_false_iff.mpr c4,Bool.eq_false_iff.mpr c5,Bool.eq_false_iff.mpr c6,Option.some.inj h]
 rfl
theorem swapped_some (hen:Kinds env names) (hk:env.scope.kind = .function) {es vs:List Expr} {k k2:Nat} {p p2:Pos} {xs:List Str} (hp:vs.any isStar = false) (h:swapAt names es vs = some xs) :
  swappedStores [.Tuple es k p] (.Tuple vs k2 p2) env = pure (some xs):=by
 have hq:(fun id=>env.kindOf id == some .local) = (fun id=>kindIx id names == some .local):=by
  funext id
  rw [kindIx_lookup]
  rw [Bool.eq_iff_iff,beq_iff_eq,beq_iff_eq]
  exact (hen id).1.symm
 rw [swap_spec]
 exact swapped_go (by unfold Env.blockKind;rw [hk];rfl) hp (by rw [hq];rfl) h
theorem swapped_not {es vs:List Expr} {k k2:Nat} {p p2:Pos} (h:two3 es = false):swappedStores [.Tuple es k p] (.Tuple vs k2 p2) env = pure none:=by
 rw [swap_spec]
 unfold swapSpec
 rw [show (es.length == 2 || es.length == 3) = false from h]
 rfl
theorem sim_AsgSwap (hen:Kinds env names) (hh:A.handled = none) {es vs:List Expr} {k k2:Nat} {p p2 pos:Pos} {xs:List Str} {is:List Nat} {f:M V} (hp:vs.any isStar = false) (hx:swapAt names es vs = some xs) (hi:slotsOf names xs = some is)
  (hf:SimV X d r env names A (eval (.Tuple vs k2 p2) env) f):SimS X d r env names A (exec (.Assign [.Tuple es k p] (.Tuple vs k2 p2) pos) env) (sAsgR is f):=by
 intro T ρ s S H v S' e Q hQ
 obtain ⟨a,S1,e1,e⟩:=bnd_some e
 obtain ⟨l,f,e0⟩:=t1 e
 clear e
 subst f
 obtain ⟨u,S2,e2,e⟩:=bnd_some e0
 clear e0
 have hs:=slotsOf_is hi
 refine Assign_Tuple_swapped (hf T ρ s S H (.tup l) S1 e1 _ fun T1 ρ1 h1 tk1 y X1 p1 H1 r1=>?_) rfl (swapped_some (k:=k) (k2:=k2) (p:=p) (p2:=p2) hen H.f.kind hp hx)
 obtain ⟨b,ws,f,hl,rl⟩:=isTuple_of H1.w r1
 subst f
 have hn:xs.length = ws.toArray.size:=by
  have q:=puts_len e2
  rw [List.length_reverse,List.length_reverse] at q
  exact (hs.len.trans q.symm).trans (VRels.length _ rl).symm
 rw [hn]
 refine wpAny_unpackItems_tuple hh hl fun h' he=>?_
 have kp:Keeps' T1 h1 h':=Keeps'.extBut H1.w.fresh he
 exact sim_putN hs.rev (s:={ s with heap:=h',toks:=tk1 }) (H1.keep kp) (VRels.reverse l rl) u S2 e2 _ fun T2 ρ2 h2 tk2 z X2 p2 H2 r2=>Cont.flow hQ e ((X1.trans (Ext.keep kp)).trans X2) (p1.trans p2) H2 .next
inductive At {α:Type} (X:Ctx) (d r:Nat) (env:Env) (names:List (Str × NameKind)) (T:TT) (ρ:List Addr) (s:Shared) (f:M α) (v:α) (S':SS) (s':Shared):Prop
 | mk (T1:TT) (ρ1:List Addr) (S1:SS) (h1:Heap) (tk1:Nat) (e:s' = { s with heap:=h1,toks:=tk1 }) (x:Ext d r T s.heap T1 h1) (p:ρ <+: ρ1) (H:St X d r T1 ρ1 env names S1 h1) (q:f S1 = some (v,S'))
theorem sim_While {t:Expr} {b:List Stmt} {pos:Pos} {c:M Bool} {f:M Fl} (ht:SimB X d r env names A (isTrue t env (eval t env)) c) (hf:SimS X d r env names A (execs b env) f):SimS X d r env names A (exec (.While t b [] pos) env) (sWhile c f):=by
 intro T ρ s S H v S' e Q hQ
 refine wpAny_While ?_
 refine codeAny_whileLoop (fun n=>At X d r env names T ρ s (wh c f n) v S') (fun n s' hI=>?_) turns ⟨T,ρ,S,s.heap,s.toks,rfl,Ext.refl,List.prefix_refl _,H,e⟩
 obtain ⟨T1,ρ1,S1,h1,tk1,es,X1,p1,H1,e1⟩:=hI
 clear H e
 subst es
 cases n with
 | zero=>exact no e1
 | succ n=>
  obtain ⟨q,S2,e2,e1⟩:=bnd_some e1
  refine wpAny_mono (ht T1 ρ1 _ S1 H1 q S2 e2 _ fun T2 ρ2 h2 tk2 x X2 p2 H2 r2=>?_) (fun _ _ z=>z) fun _ _ z=>z.elim
  replace X2:=X1.trans X2
  replace p2:=p1.trans p2
  clear X1 p1 e2 H1
  rw [← show q = x from r2]
  cases q with
  | true=>
   obtain ⟨fl,S3,e3,e1⟩:=bnd_some e1
   refine wpAny_mono (hf T2 ρ2 _ S2 H2 fl S3 e3 _ fun T3 ρ3 h3 tk3 y X3 p3 H3 r3=>?_) (fun _ _ z=>z) fun _ _ z=>z.elim
   cases r3 with
   | next=>exact ⟨n,Nat.lt_succ_self _,T3,ρ3,S3,h3,tk3,rfl,X2.trans X3,p2.trans p3,H3,e1⟩
   | brk=>exact Cont.flow hQ e1 (X2.trans X3) (p2.trans p3) H3 .next
   | cont=>exact ⟨n,Nat.lt_succ_self _,T3,ρ3,S3,h3,tk3,rfl,X2.trans X3,p2.trans p3,H3,e1⟩
   | ret v y h=>exact Cont.flow hQ e1 (X2.trans X3) (p2.trans p3) H3 (.ret v y h)
  | false=>exact wpAny_execs_nil (Cont.flow hQ e1 X2 p2 H2 .next)
end
section
variable {X:Ctx} {d r:Nat} {env:Env} {names:List (Str × NameKind)} {A:Around}
noncomputable def goneNames:List String:=["enumerate","zip","dict_itemiterator","dict_reverseitemiterator","odict_iterator","itertools.zip_longest","itertools.pairwise"]
theorem go_load {M:Model} {E:Value->Shared->Prop} {I:Addr} {v:Value} {s:Shared} {o:Obj} {n:String} {Q:Unit->Shared->Prop} (ho:s.heap.get? I = some o) (hc:o.cls = .type n) (hn:goneNames.contains n = false) (hQ:Q () s) {es:List Expr} {k:Nat} {p:Pos} :
  wpAny M A (letOwnedTupleGo (.Tuple es k p) (.ref I) v) Q E s:=by
 unfold letOwnedTupleGo
 cases v with
 | ref a=>
  refine wpAny_bind (wpAny_load ho ?_)
  rw [hc]
  cases o.data with
  | fields vs=>
   dsimp only
   rw [show (["enumerate","zip","dict_itemiterator","dict_reverseitemiterator","odict_iterator","itertools.zip_longest","itertools.pairwise"]:List String).contains n = false from hn]
   exact wpAny_pure hQ
  | _=>exact wpAny_pure hQ
 | _=>exact wpAny_pure hQ
theorem go_plain {M:Model} {E:Value->Shared->Prop} {t:Expr} {I:Addr} {v:Value} {s:Shared} {o:Obj} {n:String} {Q:Unit->Shared->Prop} (ho:s.heap.get? I = some o) (hc:o.cls = .type n) (hn:goneNames.contains n = false) (hQ:Q () s) :
  wpAny M A (letOwnedTupleGo t (.ref I) v) Q E s:=by
 cases t with
 | Tuple _ _ _=>exact go_load ho hc hn hQ
 | List _ p=>exact go_load (es:=[]) (k:=0) (p:=p) ho hc hn hQ
 | _=>exact wpAny_pure hQ
theorem fnil {P:Addr->Prop}:∀ b ∈ ([]:List Addr),P b:=fun _ m=>nomatch m
theorem fc {P:Addr->Prop} {a:Addr} {l:List Addr} (h:P a) (t:∀ b ∈ l,P b):∀ b ∈ a :: l,P b:=List.forall_mem_cons.mpr ⟨h,t⟩
theorem frest {P:Addr->Prop} {hs rest:List Addr} (h:∀ b ∈ rest,P b):∀ b ∈ hs++rest,b ∉ hs->P b:=fun b m n=>h b ((List.mem_append.mp m).resolve_left n)
inductive ItV (X:Ctx) (T:TT) (ρ:List Addr) (hs:List Addr) (h:Heap) (u:V) (v:Value):Bool->Prop
 | one (r:VRel X T ρ u v):ItV X T ρ hs h u v false
 | tup (a:Addr) (vals:Array Value) (us:List V) (eu:u = .tup us) (ev:v = .ref a) (n:a ∉ hs) (ht:h.IsTuple a vals) (r:VRels X T ρ us vals.toList):ItV X T ρ hs h u v true
structure Wk (X:Ctx) (A:Around) (T:TT) (ρ:List Addr) (t:Expr) (I:Addr) (fp hs:List Addr) (l:List V) (pd:Bool) (Wst:Nat->Heap->Prop) (Mid:Nat->Value->Heap->Prop):Prop where
 live:∀ i h,Wst i h->∀ b ∈ hs,∃ o,h.get? b = some o
 frame:∀ i h h',Wst i h->(∀ b ∈ fp,∀ o,h.get? b = some o->h'.get? b = some o)->Wst i h'
 item:∀ i (s:Shared) (Q:Option Value->Shared->Prop),i < l.length->Wst i s.heap ->
  (∀ v h' tk,Mid i v h'->(∀ b o,b ∉ hs->s.heap.get? b = some o->h'.get? b = some o)->Q (some v) { s with heap:=h',toks:=tk })->wpAny (model X.prog X.w) A (pyNext (.ref I)) Q (fun _ _=>False) s
 go:∀ i v (s:Shared) (Q:Unit->Shared->Prop),Mid i v s.heap->(∀ h',Wst (i + 1) h'->(∀ b o,b ∉ hs->s.heap.get? b = some o->h'.get? b = some o)->Q () { s with heap:=h' }) ->
  wpAny (model X.prog X.w) A (letOwnedTupleGo t (.ref I) v) Q (fun _ _=>False) s
 val:∀ i v h u,Mid i v h->l[i]? = some u->ItV X T ρ hs h u v pd
 self:∀ i (s:Shared) (Q:Value->Shared->Prop),Wst i s.heap->Q (.ref I) s->wpAny (model X.prog X.w) A (pyIter (.ref I)) Q (fun _ _=>False) s
 done:∀ (s:Shared) (Q:Option Value->Shared->Prop),Wst l.length s.heap->(∀ h' tk,(∀ b o,b ∉ hs->s.heap.get? b = some o->h'.get? b = some o)->Q none { s with heap:=h',toks:=tk })->wpAny (model X.prog X.w) A (pyNext (.ref I)) Q (fun _ _=>False) s
theorem Wk.mono {T T':TT} {ρ ρ':List Addr} {t:Expr} {I:Addr} {fp hs:List Addr} {l:List V} {pd:Bool} {Wst Mid} (W:Wk X A T ρ t I fp hs l pd Wst Mid) (g:∀ u ∈ l,∀ v,VRel X T ρ u v->VRel X T' ρ' u v) (g2:∀ us,V.tup us ∈ l->∀ vs,VRels X T ρ us vs->VRels X T' ρ' us vs):Wk X A T' ρ' t I fp hs l pd Wst Mid:=
 { W with
  val:=fun i v h u m e=>by
   have hm:u ∈ l:=List.mem_of_getElem? e
   cases W.val i v h u m e with
   | one b=>exact .one (g u hm v b)
   | tup b vals us eu e2 e3 e4 e5=>
    subst eu
    exact .tup b vals us rfl e2 e3 e4 (g2 us hm _ e5)}
inductive Known (h:Heap) (I:Addr):Prop
 | mk (o:Obj) (n:String) (ho:h.get? I = some o) (hc:o.cls = .type n) (hg:goneNames.contains n = false)
theorem Wk.plain {T:TT} {ρ:List Addr} {t:Expr} {I:Addr} {fp:List Addr} {l:List V} {n:Nat} {P:Nat->Value->Prop} {Wst:Nat->Heap->Prop} (W:Walks X.prog X.w A I fp [I] n P Wst) (hn:n = l.length)
  (hc:∀ i h,Wst i h->Known h I) (hv:∀ i v u,P i v->l[i]? = some u->VRel X T ρ u v) :
  Wk X A T ρ t I fp [I] l false Wst (fun i v h=>P i v/\Wst (i + 1) h) where
 live i h st:=let ⟨o,_,ho,_,_⟩:=hc i h st;fc ⟨o,ho⟩ fnil
 frame:=W.frame
 item i s Q hi st hQ:=W.item i s Q _ (hn ▸ hi) st fun v h' tk p st' k=>hQ v h' tk ⟨p,st'⟩ k
 go i v s Q m hQ:=let ⟨o,n,ho,hcl,hg⟩:=hc _ _ m.2;go_plain ho hcl hg (hQ s.heap m.2 fun _ _ _ e=>e)
 val i v h u m e:=.one (hv i v u m.1 e)
 self i s Q st hQ:=W.self i s Q _ st hQ
 done s Q st hQ:=W.done s Q _ (hn ▸ st) hQ
inductive MidT (Pt:Nat->Array Value->Prop) (hs:List Addr) (Mid:Nat->Addr->Heap->Prop) (i:Nat) (v:Value) (h:Heap):Prop
 | mk (a:Addr) (vals:Array Value) (e:v = .ref a) (p:Pt i vals) (n:a ∉ hs) (t:h.IsTuple a vals) (m:Mid i a h)
inductive TupR (X:Ctx) (T:TT) (ρ:List Addr) (u:V) (vs:List Value):Prop
 | mk (us:List V) (e:u = .tup us) (r:VRels X T ρ us vs)
theorem Wk.pairs {T:TT} {ρ:List Addr} {es:List Expr} {k:Nat} {pos:Pos} {I:Addr} {fp wr hs:List Addr} {l:List V} {n:Nat} {Pt:Nat->Array Value->Prop} {Wst:Nat->Heap->Prop} {Mid:Nat->Addr->Heap->Prop} (W:WalksT X.prog X.w A I fp wr n Pt Wst Mid) (hn:n = l.length)
  (hw:∀ b ∈ wr,b ∈ hs) (hl:∀ i h,Wst i h->∀ b ∈ hs,∃ o,h.get? b = some o) (hv:∀ i vals u,Pt i vals->l[i]? = some u->TupR X T ρ u vals.toList) :
  Wk X A T ρ (.Tuple es k pos) I fp hs l true Wst (MidT Pt hs Mid) where
 live:=hl
 frame:=W.frame
 item i s Q hi st hQ:=W.item i s Q _ (hn ▸ hi) st fun a vals h' tk p hsz ht hm k=>by
  refine hQ (.ref a) h' tk ⟨a,vals,rfl,p,?_,ht,hm⟩ fun b o hb e=>k b o (fun z=>hb (hw b z)) e
  intro z
  obtain ⟨o,ho⟩:=hl i _ st a z
  exact absurd (Heap.lt_size ho) (Nat.not_lt.mpr hsz)
 go i v s Q m hQ:=by
  obtain ⟨a,vals,e,p,na,ht,hm⟩:=m
  subst e
  exact W.go es k pos i a s Q _ hm fun h' st k=>hQ h' st fun b o hb e=>k b o (fun z=>hb (hw b z)) e
 val i v h u m e:=let ⟨a,vals,e1,p,na,ht,_⟩:=m;let ⟨us,e2,rv⟩:=hv i vals u p e;.tup a vals us e2 e1 na ht rv
 self i s Q st hQ:=W.self i s Q _ st hQ
 done s Q st hQ:=W.done s Q _ (hn ▸ st) fun h' tk k=>hQ h' tk fun b o hb e=>k b o (fun z=>hb (hw b z)) e
noncomputable def isTup:Expr->Bool
 | .Tuple _ _ _=>true
 | _=>false
noncomputable def LentA (T:TT) (ρ:List Addr) (q:Option Nat) (b:Addr):Prop:=(∃ o,T b = .fro o) ∨ ∃ n,q = some n/\ρ[n]? = some b
inductive SrcR (X:Ctx) (t:Expr) (T:TT) (ρ:List Addr) (ob:OB) (h:Heap) (p:Sq) (I:Addr):Prop
 | mk (fp hs:List Addr) (Wst:Nat->Heap->Prop) (Mid:Nat->Value->Heap->Prop) (w:∀ A:Around,A.handled = none->Wk X A T ρ t I fp hs p.1 p.2.2 Wst Mid) (st:Wst 0 h) (no:∀ b ∈ hs,T b = .no) (sub:∀ b ∈ hs,b ∈ fp)
  (fr:∀ b ∈ fp,b ∉ hs->LentA T ρ p.2.1 b) (hob:∀ n,p.2.1 = some n->∃ l,olook n ob = some (.list l))
noncomputable def ContI (X:Ctx) (d r:Nat) (env:Env) (names:List (Str × NameKind)) (t:Expr) (T:TT) (ρ:List Addr) (s:Shared) (S':SS) (p:Sq) (Q:Value->Shared->Prop):Prop:=
 ∀ T' ρ' h' tk' I,Ext d r T s.heap T' h'->ρ <+: ρ'->St X d r T' ρ' env names S' h'->SrcR X t T' ρ' S'.ob h' p I->Q (.ref I) { s with heap:=h',toks:=tk' }
theorem ContI.after {t:Expr} {T T1:TT} {ρ ρ1:List Addr} {s:Shared} {S:SS} {p:Sq} {Q:Value->Shared->Prop} (c:ContI X d r env names t T ρ s S p Q) {h1:Heap} {tk:Nat} (e:Ext d r T s.heap T1 h1) (q:ρ <+: ρ1) :
  ContI X d r env names t T1 ρ1 { s with heap:=h1,toks:=tk } S p Q:=fun T' ρ' h' tk' y e' q' H' hr=>c T' ρ' h' tk' y (e.trans e') (q.trans q') H' hr
noncomputable def SimSrc (X:Ctx) (d r:Nat) (env:Env) (names:List (Str × NameKind)) (A:Around) (t iter:Expr) (f:Src):Prop:=
 ∀ T ρ s S,St X d r T ρ env names S s.heap->∀ p S',f S = some (p,S')->isTup t = true ∨ p.2.2 = false->∀ Q:Value->Shared->Prop,ContI X d r env names t T ρ s S' p Q ->
  wpAny (model X.prog X.w) A (eval iter env) (fun x s₁=>wpAny (model X.prog X.w) A (pyIter x) Q (fun _ _=>False) s₁) (fun _ _=>False) s
section
variable {T:TT} {ρ:List Addr} {s:Shared} {S:SS}
theorem vrels_at {l:List V} {vs:List Value} (rv:VRels X T ρ l vs) {i:Nat} {v:Value} {u:V} (h:vs.toArray[i]? = some v) (e:l[i]? = some u):VRel X T ρ u v:=by
 obtain ⟨x,q,rx⟩:=VRels.get l rv i u e
 rw [List.getElem?_toArray] at h
 exact Option.some.inj (q.symm.trans h) ▸ rx
theorem srcR_plain {t:Expr} {ob:OB} {h:Heap} {I:Addr} {rest:List Addr} {l:List V} {n:Nat} {q:Option Nat} {P:Nat->Value->Prop} {Wst:Nat->Heap->Prop} (W:∀ A:Around,A.handled = none->Walks X.prog X.w A I (I :: rest) [I] n P Wst) (hn:n = l.length)
  (hc:∀ i h,Wst i h->Known h I) (hv:∀ i v u,P i v->l[i]? = some u->VRel X T ρ u v) (st:Wst 0 h) (no:T I = .no) (hq:∀ b ∈ rest,LentA T ρ q b) (hob:∀ n,q = some n->∃ l,olook n ob = some (.list l)):SrcR X t T ρ ob h (l,q,false) I:=
 ⟨I :: rest,[I],Wst,_,fun A hh=>Wk.plain (W A hh) hn hc hv,st,fc no fnil,fun _ m=>List.mem_append_left rest m,frest (hs:=[I]) hq,hob⟩
inductive LstAt (X:Ctx) (T:TT) (ρ:List Addr) (ob:OB) (h:Heap) (l:List V) (q:Option Nat) (x:Value):Prop
 | mk (a:Addr) (vs:List Value) (n:Nat) (e:x = .ref a) (ho:h.get? a = some { cls:=.type "list",data:=.seq vs.toArray n }) (rv:VRels X T ρ l vs) (hq:LentA T ρ q a) (hob:∀ n,q = some n->∃ l,olook n ob = some (.list l))
theorem lst_at {h:Heap} (H:St X d r T ρ env names S h) {v:V} {x:Value} (rv:VRel X T ρ v x) {p:List V × Option Nat} (e:lstOf v S.ob = some p):LstAt X T ρ S.ob h p.1 p.2 x:=by
 cases v with
 | lst k=>
  rw [← Option.some.inj e]
  obtain ⟨z,a,o,vs,e,ht,⟨n,q⟩,rv⟩:=rv
  exact ⟨a,vs,n,e,q ▸ H.w.fro _ _ ht,rv,.inl ⟨_,ht⟩,fun n e=>no e⟩
 | ref n=>
  obtain ⟨l,hl,e⟩:=mi e
  rw [← e]
  have ho:=lref_some hl
  obtain ⟨b,q1,e⟩:=rv
  obtain ⟨z,a,o,vs,w1,w2,w3,⟨c,q⟩,w5⟩:=H.o.obj n _ ho
  have k:=Option.some.inj (q1.symm.trans w1)
  subst k
  exact ⟨b,vs,c,e,q ▸ w3,w5,.inr ⟨n,rfl,q1⟩,fun m e=>⟨l,Option.some.inj e ▸ ho⟩⟩
 | _=>exact no e
theorem iter_list {t:Expr} (H:St X d r T ρ env names S s.heap) {l:List V} {q:Option Nat} {x:Value} (L:LstAt X T ρ S.ob s.heap l q x) {Q:Value->Shared->Prop} (hQ:ContI X d r env names t T ρ s S (l,q,false) Q) :
  wpAny (model X.prog X.w) A (pyIter x) Q (fun _ _=>False) s:=by
 obtain ⟨a,vs,n,e,ho,rv,hq,hob⟩:=L
 subst e
 refine wpAny_pyIter_list (items:=vs.toArray) ⟨_,ho,rfl,n,rfl⟩ ?_
 have kp:=Keeps'.push H.w { cls:=.type "list_iterator",data:=.fields #[.ref a,.int 0 0]}
 exact hQ T ρ _ s.toks _ (Ext.keep kp) (List.prefix_refl _) (H.keep kp) (srcR_plain (fun A hh=>Walks.list hh s.heap.objs.size a (Nat.ne_of_lt (Heap.lt_size ho)) vs.toArray) (VRels.length _ rv)
  (fun i h st=>let ⟨⟨o,ho,hc,_⟩,_⟩:=st;⟨o,_,ho,hc,rfl⟩) (fun i v u p e=>vrels_at rv p e) ⟨⟨_,Heap.get?_push_size _ rfl,rfl,rfl⟩,⟨_,Heap.get?_push_of_some _ ho,rfl,n,rfl⟩⟩ H.w.fresh (fc hq fnil) hob)
theorem iter_tuple {t:Expr} (H:St X d r T ρ env names S s.heap) {l:List V} {x:Value} (rv:VRel X T ρ (.tup l) x) {Q:Value->Shared->Prop} (hQ:ContI X d r env names t T ρ s S (l,none,false) Q) :
  wpAny (model X.prog X.w) A (pyIter x) Q (fun _ _=>False) s:=by
 obtain ⟨z,a,o,vs,e,ht,⟨n,f⟩,rv⟩:=rv
 subst e f
 have ho:=H.w.fro _ _ ht
 refine wpAny_pyIter_tuple (items:=vs.toArray) ⟨_,ho,rfl,n,rfl⟩ ?_
 have kp:=Keeps'.push H.w { cls:=.type "tuple_iterator",data:=.fields #[.ref a,.int 0 0]}
 exact hQ T ρ _ s.toks _ (Ext.keep kp) (List.prefix_refl _) (H.keep kp) (srcR_plain (fun A hh=>Walks.tuple hh s.heap.objs.size a (Nat.ne_of_lt (Heap.lt_size ho)) vs.toArray) (VRels.length _ rv)
  (fun i h st=>let ⟨⟨o,ho,hc,_⟩,_⟩:=st;⟨o,_,ho,hc,rfl⟩) (fun i v u p e=>vrels_at rv p e) ⟨⟨_,Heap.get?_push_size _ rfl,rfl,rfl⟩,⟨_,Heap.get?_push_of_some _ ho,rfl,n,rfl⟩⟩ H.w.fresh (fc (.inl ⟨_,ht⟩) fnil) (fun n e=>no e))
theorem sim_srcSeq {t iter:Expr} {f:M V} (hf:SimV X d r env names A (eval iter env) f):SimSrc X d r env names A t iter (srcSeq f):=by
 intro T ρ s S H p S' e _ Q hQ
 obtain ⟨v,S1,e1,e⟩:=bnd_some e
 obtain ⟨lo,hs,e⟩:=mi e
 obtain ⟨k1,k2⟩:=pd e
 subst k1 k2
 refine hf T ρ s S H v S1 e1 _ fun T1 ρ1 h1 tk1 x X1 p1 H1 r1=>?_
 have hQ1:=hQ.after X1 p1 (tk:=tk1)
 cases v with
 | lst k=>exact iter_list (s:={ s with heap:=h1,toks:=tk1 }) H1 (lst_at H1 r1 hs) hQ1
 | ref k=>exact iter_list (s:={ s with heap:=h1,toks:=tk1 }) H1 (lst_at H1 r1 hs) hQ1
 | tup k=>
  rw [← Option.some.inj hs] at hQ1
  exact iter_tuple (s:={ s with heap:=h1,toks:=tk1 }) H1 r1 hQ1
 | _=>exact no hs
theorem rangeV_get {a b:Int} {i:Nat} {u:V} (h:(rangeV a b)[i]? = some u):u = .int (a + i):=by
 unfold rangeV at h
 rw [List.getElem?_map] at h
 obtain ⟨k,hk,e⟩:=mi h
 obtain ⟨_,q⟩:=List.getElem?_eq_some_iff.mp hk
 rw [List.getElem_range] at q
 rw [q];exact e.symm
theorem small_lo {a:Int} (h:small a = true):-(2 ^ 62)<=a:=by
 have:=(of_decide_eq_true (Bool.and_eq_true_iff.mp h).1:-big < a)
 unfold big at this
 omega
theorem small_hi {a:Int} (h:small a = true):a < 2 ^ 62:=by
 have:=(of_decide_eq_true (Bool.and_eq_true_iff.mp h).2:a < big)
 unfold big at this
 omega
theorem small_of {a b:Int} (ha:small a = true) (hb:small b = true):Builtin.Range.small a b 1 = true:=small_one (small_lo ha) (small_hi ha) (small_lo hb) (small_hi hb)
theorem rangeSize_len {a b:Int}:((rangeV a b).length:Int) = Builtin.Range.rangeSize a b 1:=by
 rw [rangeSize_one]
 unfold rangeV
 rw [List.length_map,List.length_range]
 by_cases h:a < b
 ·rw [if_pos h];omega
 ·rw [if_neg h];omega
noncomputable def rngIt (a n:Int):Obj:={ cls:=.type "range_iterator",data:=.fields #[rawInt a,rawInt n,rawInt 1]}
theorem srcR_range {T:TT} {ρ:List Addr} {t:Expr} {ob:OB} {h:Heap} {a b:Int} (W:WRel X T h) :
  SrcR X t T ρ ob (h.push (rngIt a (Builtin.Range.rangeSize a b 1))) (rangeV a b,none,false) h.objs.size:=by
 refine srcR_plain (rest:=[]) (fun A hh=>Walks.range hh h.objs.size a 1 (rangeV a b).length) rfl (fun i h st=>⟨_,_,st,rfl,rfl⟩) (fun i v u p e=>?_) ?_ W.fresh fnil fun n e=>no e
 ·obtain ⟨t,q⟩:=p
  rw [Int.mul_one] at q
  rw [rangeV_get e]
  exact ⟨t,q⟩
 ·show (h.push (rngIt a (Builtin.Range.rangeSize a b 1))).get? h.objs.size = some (rngIt (a + ((0:Nat):Int) * 1) (((rangeV a b).length:Int) - ((0:Nat):Int)))
  rw [rangeSize_len,Int.natCast_zero,Int.zero_mul,Int.add_zero,Int.sub_zero]
  exact Heap.get?_push_size _ rfl
end
end
section
variable {X:Ctx} {d r:Nat} {env:Env} {names:List (Str × NameKind)} {A:Around}
theorem eval_CallName (x:Str) (p:Pos) (as:List Expr) (pos:Pos):eval (.Call (.Name x p) as [] pos) env = (do callWith pos (← eval (.Name x p) env) [] (backTo pos (starEach as env)) (backToKw pos (keywordEach [] env))):=rfl
theorem kw_nil {pos:Pos}:backToKw pos (keywordEach [] env) = []:=rfl
theorem callN_wp (B:BF X) {cx:Cx} (hn:cx.names = names) (hg:cx.glob = X.P.glob) {x:Str} {p pos:Pos} {as:List Expr} {y:Value} (g:globV cx (.Name x p) = some (.st y)) {T:TT} {ρ:List Addr} {s:Shared} {S:SS} (H:St X d r T ρ env names S s.heap) {Q:Value->Shared->Prop}
  (h:∀ T1 ρ1 h1 tk1,Ext d r T s.heap T1 h1->ρ <+: ρ1->St X d r T1 ρ1 env names S h1->wpAny (model X.prog X.w) A (callWith pos y [] (backTo pos (starEach as env)) []) Q (fun _ _=>False) { s with heap:=h1,toks:=tk1 }) :
  wpAny (model X.prog X.w) A (eval (.Call (.Name x p) as [] pos) env) Q (fun _ _=>False) s:=by
 rw [eval_CallName,kw_nil]
 refine wpAny_bind (sim_glob B hn hg g T ρ s S H (.st y) S rfl _ fun T1 ρ1 h1 tk1 z X1 p1 H1 r1=>?_)
 cases (show z = y from r1)
 exact h T1 ρ1 h1 tk1 X1 p1 H1
section
variable {T:TT} {ρ:List Addr} {s:Shared} {S:SS}
theorem iter_range {t:Expr} {a b:Int} {tk:Nat} {t1 t2 t3:Tok} (H:St X d r T ρ env names S s.heap) (ha:small a = true) (hb:small b = true) {Q:Value->Shared->Prop} (hQ:ContI X d r env names t T ρ s S (rangeV a b,none,false) Q) :
  wpAny (model X.prog X.w) A (pyIter (.ref s.heap.objs.size)) Q (fun _ _=>False) { s with heap:=s.heap.push { cls:=.type "range",data:=.fields #[.int a t1,.int b t2,.int 1 t3]},toks:=tk }:=by
 refine wpAny_pyIter_range (IsRange.new s.heap a b 1 t1 t2 t3) (small_of ha hb) ?_
 have k1:=Keeps'.push H.w { cls:=.type "range",data:=.fields #[.int a t1,.int b t2,.int 1 t3]}
 have H1:=H.keep k1
 have k2:=Keeps'.push H1.w (rngIt a (Builtin.Range.rangeSize a b 1))
 exact hQ T ρ _ tk _ ((Ext.keep k1).trans (Ext.keep k2)) (List.prefix_refl _) (H1.keep k2) (srcR_range H1.w)
inductive EnuI (l:List V) (k i:Nat) (u:V):Prop
 | mk (v:V) (h:l[i]? = some v) (e:u = .tup [.int ((k + i:Nat):Int),v])
theorem enum_get {l:List V} {u:V}:∀ {k i:Nat},(enum k l)[i]? = some u->EnuI l k i u:=by
 induction l with
 | nil=>intro k i h;exact no h
 | cons v l ih=>
  intro k i h
  cases i with
  | zero=>exact ⟨v,rfl,(Option.some.inj h).symm⟩
  | succ i=>
   obtain ⟨w,h1,e⟩:=ih (k:=k + 1) (i:=i) h
   exact ⟨w,h1,by rw [e,Nat.add_assoc,Nat.add_comm 1 i]⟩
theorem enum_len {l:List V}:∀ {k:Nat},(enum k l).length = l.length:=by
 induction l with
 | nil=>exact rfl
 | cons v l ih=>exact congrArg (· + 1) ih
inductive ZipI (l m:List V) (i:Nat) (u:V):Prop
 | mk (v w:V) (h:l[i]? = some v) (g:m[i]? = some w) (e:u = .tup [v,w])
theorem zips_get {l:List V} {u:V}:∀ {m:List V} {i:Nat},(zips l m)[i]? = some u->ZipI l m i u:=by
 induction l with
 | nil=>intro m i h;exact no h
 | cons v l ih=>
  intro m i h
  cases m with
  | nil=>exact no h
  | cons w m=>
   cases i with
   | zero=>exact ⟨v,w,rfl,rfl,(Option.some.inj h).symm⟩
   | succ i=>
    obtain ⟨v,w,a,b,e⟩:=ih (m:=m) (i:=i) h
    exact ⟨v,w,a,b,e⟩
theorem zips_len {l:List V}:∀ {m:List V},min l.length m.length = (zips l m).length:=by
 induction l with
 | nil=>intro m;exact Nat.zero_min _
 | cons v l ih=>
  intro m
  cases m with
  | nil=>exact Nat.min_zero _
  | cons w m=>exact (Nat.succ_min_succ _ _).trans (congrArg (· + 1) ih)
theorem srcR_enum {es:List Expr} {k:Nat} {pos:Pos} {ob:OB} {h':Heap} {a e it:Addr} {l:List V} {vs:List Value} {n:Nat} {q:Option Nat} (ho:h'.get? a = some { cls:=.type "list",data:=.seq vs.toArray n }) (rv:VRels X T ρ l vs)
  (hq:LentA T ρ q a) (hob:∀ n,q = some n->∃ l,olook n ob = some (.list l)) (he:IsEnum h' e it 0 .none) (hi:h'.IsListIter it a 0) (te:T e = .no) (ti:T it = .no) (nei:e ≠ it) (nea:e ≠ a) (nia:a ≠ it) :
  SrcR X (.Tuple es k pos) T ρ ob h' (enum 0 l,q,true) e:=by
 refine ⟨[e,it,a],[e,it],_,_,fun A hh=>Wk.pairs (WalksT.enumerateD (Draws.list (A:=A.in1) hh it a nia vs.toArray) e nei (List.not_mem_cons_of_ne_of_not_mem nei (List.not_mem_cons_of_ne_of_not_mem nea List.not_mem_nil)) (List.mem_cons_self ..)) ((VRels.length _ rv).trans enum_len.symm) (fun b hb=>hb) (fun i h st=>?_) (fun i vals u p e=>?_),
  ⟨⟨_,he⟩,hi,⟨_,ho,rfl,n,rfl⟩⟩,fc te (fc ti fnil),fun _ m=>List.mem_append_left [a] m,frest (hs:=[e,it]) (fc hq fnil),hob⟩
 ·obtain ⟨⟨old,he⟩,⟨o,ho,_⟩,_⟩:=st
  exact fc ⟨_,he⟩ (fc ⟨_,ho⟩ fnil)
 ·obtain ⟨t,x,hx,f⟩:=p
  obtain ⟨v,hv,g⟩:=enum_get e
  subst f
  exact ⟨_,g,.int i t,[x],rfl,⟨t,by rw [Nat.zero_add]⟩,x,[],rfl,vrels_at rv hx hv,rfl⟩
end
section
variable {cx:Cx} {x:Str} {p pos:Pos} {a b t:Expr} {f g:M V}
theorem sim_srcRng1 (B:BF X) (hn:cx.names = names) (hg:cx.glob = X.P.glob) (gl:globV cx (.Name x p) = some (.st (.type "range"))) (hs:[a].any isStar = false) (hf:SimV X d r env names A (eval a env) f):SimSrc X d r env names A t (.Call (.Name x p) [a] [] pos) (srcRng1 f):=by
 intro T ρ s S H pq S' e _ Q hQ
 obtain ⟨v,S1,e1,e⟩:=bnd_some e
 obtain ⟨y,k,e⟩:=i1 e
 obtain ⟨hy,e⟩:=ii e
 obtain ⟨k1,k2⟩:=sp e
 subst k k1 k2
 refine callN_wp B hn hg gl H fun T1 ρ1 h1 tk1 X1 p1 H1=>?_
 refine sim_call (s:={ s with heap:=h1,toks:=tk1 }) B .type hs (.cons hf .nil) H1 (one_of e1) fun T2 ρ2 h2 tk2 ys X2 p2 H2 r2=>?_
 obtain ⟨z,k,t,rz⟩:=r2.one
 subst k rz
 exact call_range_1 (iter_range (s:={ s with heap:=h2,toks:=tk2 }) H2 (by decide) hy ((hQ.after X1 p1 (tk:=tk1)).after X2 p2))
theorem sim_srcRng (B:BF X) (hn:cx.names = names) (hg:cx.glob = X.P.glob) (gl:globV cx (.Name x p) = some (.st (.type "range"))) (hs:[a,b].any isStar = false) (hf:SimV X d r env names A (eval a env) f) (hh:SimV X d r env names A (eval b env) g) :
  SimSrc X d r env names A t (.Call (.Name x p) [a,b] [] pos) (srcRng f g):=by
 intro T ρ s S H pq S' e _ Q hQ
 obtain ⟨v,S1,e1,e⟩:=bnd_some e
 obtain ⟨w,S2,e2,e⟩:=bnd_some e
 obtain ⟨y,k,e⟩:=i1 e
 obtain ⟨y',k',e⟩:=i1 e
 obtain ⟨hy,e⟩:=ii e
 obtain ⟨k1,k2⟩:=sp e
 subst k k' k1 k2
 refine callN_wp B hn hg gl H fun T1 ρ1 h1 tk1 X1 p1 H1=>?_
 refine sim_call (s:={ s with heap:=h1,toks:=tk1 }) B .type hs (.cons hf (.cons hh .nil)) H1 (two_of e1 e2) fun T2 ρ2 h2 tk2 ys X2 p2 H2 r2=>?_
 obtain ⟨z,z2,k,⟨t,rz⟩,⟨t2,rz2⟩⟩:=r2.two
 subst k rz rz2
 exact call_range_2 (iter_range (s:={ s with heap:=h2,toks:=tk2 }) H2 (Bool.and_eq_true_iff.mp hy).1 (Bool.and_eq_true_iff.mp hy).2 ((hQ.after X1 p1 (tk:=tk1)).after X2 p2))
inductive TupE (t:Expr):Prop
 | mk (es:List Expr) (k:Nat) (pos:Pos) (e:t = .Tuple es k pos)
theorem tup_of {pd:Bool} (h:isTup t = true ∨ pd = false) (hp:pd = true):TupE t:=by
 have h:=h.resolve_right (by rw [hp];exact Bool.noConfusion)
 cases t with
 | Tuple es k p=>exact ⟨es,k,p,rfl⟩
 | _=>exact nob h
theorem sim_srcEnu (B:BF X) (hn:cx.names = names) (hg:cx.glob = X.P.glob) (gl:globV cx (.Name x p) = some (.st (.type "enumerate"))) (hs:[a].any isStar = false) (hf:SimV X d r env names A (eval a env) f):SimSrc X d r env names A t (.Call (.Name x p) [a] [] pos) (srcEnu f):=by
 intro T ρ s S H pq S' e ht Q hQ
 obtain ⟨v,S1,e1,e⟩:=bnd_some e
 obtain ⟨lq,hl,e⟩:=mi e
 obtain ⟨k1,k2⟩:=pd e
 subst k1 k2
 obtain ⟨es,k,pos',k1⟩:=tup_of ht rfl
 subst k1
 refine callN_wp B hn hg gl H fun T1 ρ1 h1 tk1 X1 p1 H1=>?_
 refine sim_call (s:={ s with heap:=h1,toks:=tk1 }) B .type hs (.cons hf .nil) H1 (one_of e1) fun T2 ρ2 h2 tk2 ys X2 p2 H2 r2=>?_
 obtain ⟨z,k1,rz⟩:=r2.one
 obtain ⟨ad,vs,n,k2,ho,rv,hq,hob⟩:=lst_at H2 rz hl
 subst k1 k2
 refine call_enumerate_1 (s:={ s with heap:=h2,toks:=tk2 }) ho fun h' he hi hsz hk=>wpAny_pyIter_enum he ?_
 have kp:Keeps' T2 h2 h':=Keeps'.of hk
 have lt:=Heap.lt_size ho
 exact hQ.after X1 p1 (tk:=tk1) T2 ρ2 h' tk2 _ (X2.trans (Ext.keep kp)) p2 (H2.keep kp)
  (srcR_enum (hk _ _ ho) rv hq hob he hi (H2.w.free (Heap.get?_none_of_le (Nat.le_succ _))) H2.w.fresh (Nat.ne_of_gt (Nat.lt_succ_self _)) (Nat.ne_of_gt (Nat.lt_succ_of_lt lt)) (Nat.ne_of_lt lt))
theorem zip_apart {n a1 a2:Nat} (lt1:a1 < n) (lt2:a2 < n):ZipApart (n + 4) (n + 2) (n + 3) n (n + 1) a1 a2:=by
 have ne:∀ (i j:Nat),i ≠ j->n + i ≠ n + j:=fun i j h e=>h (Nat.add_left_cancel e)
 have nl:∀ {a:Nat} (i:Nat),a < n->a ≠ n + i:=fun i h=>Nat.ne_of_lt (Nat.lt_of_lt_of_le h (Nat.le_add_right _ _))
 exact ⟨ne 2 4 (by decide),ne 3 4 (by decide),ne 0 4 (by decide),ne 1 4 (by decide),ne 2 3 (by decide),ne 2 0 (by decide),ne 2 1 (by decide),ne 3 0 (by decide),ne 3 1 (by decide),ne 0 1 (by decide),
  nl 4 lt1,nl 3 lt1,nl 0 lt1,nl 1 lt1,nl 4 lt2,nl 3 lt2,nl 0 lt2,nl 1 lt2⟩
theorem srcR_zip {es:List Expr} {k:Nat} {pos:Pos} {ob:OB} {T:TT} {ρ:List Addr} {h':Heap} {z TI TO i1 i2 a1 a2:Addr} {l1 l2:List V} {vs1 vs2:List Value} (D:ZipApart z TI TO i1 i2 a1 a2) (rv1:VRels X T ρ l1 vs1) (rv2:VRels X T ρ l2 vs2)
  (q1:LentA T ρ none a1) (q2:LentA T ρ none a2) (hz:IsZip h' z TI TO .none) (hTI:IsPair h' TI (.ref i1) (.ref i2)) (hTO:IsPair h' TO .none .none) (hi1:h'.IsListIter i1 a1 0) (hi2:h'.IsListIter i2 a2 0) (g1:h'.IsList a1 vs1.toArray) (g2:h'.IsList a2 vs2.toArray)
  (no:∀ b ∈ [z,TI,TO,i1,i2],T b = .no):SrcR X (.Tuple es k pos) T ρ ob h' (zips l1 l2,none,true) z:=by
 refine ⟨[z,TI,TO,i1,i2,a1,a2],[z,TI,TO,i1,i2],_,_,fun A hh=>Wk.pairs (WalksT.zip2 hh _ _ _ _ _ _ _ D vs1.toArray vs2.toArray) ?_ ?_ (fun i h st=>?_) (fun i vals u p e=>?_),
  ⟨hz,hTI,⟨_,_,hTO⟩,hi1,hi2,g1,g2⟩,no,fun _ m=>List.mem_append_left [a1,a2] m,frest (hs:=[z,TI,TO,i1,i2]) (fc q1 (fc q2 fnil)),fun n e=>Mine.no e⟩
 ·show min vs1.length vs2.length = _
  rw [VRels.length _ rv1,VRels.length _ rv2];exact zips_len
 ·intro b m
  rcases List.mem_cons.mp m with e | m
  ·exact e ▸ List.mem_cons_self ..
  ·exact List.mem_cons_of_mem _ (List.mem_cons_of_mem _ m)
 ·obtain ⟨hz,hTI,⟨_,_,hTO⟩,⟨o1,g1,_⟩,⟨o2,g2,_⟩,_⟩:=st
  exact fc ⟨_,hz⟩ (fc ⟨_,hTI⟩ (fc ⟨_,hTO⟩ (fc ⟨_,g1⟩ (fc ⟨_,g2⟩ fnil))))
 ·obtain ⟨x,y,hx,hy,f⟩:=p
  obtain ⟨v,w,hv,hw,g⟩:=zips_get e
  subst f
  exact ⟨_,g,x,[y],rfl,vrels_at rv1 hx hv,y,[],rfl,vrels_at rv2 hy hw,rfl⟩
theorem sim_srcZip (B:BF X) (hn:cx.names = names) (hg:cx.glob = X.P.glob) (gl:globV cx (.Name x p) = some (.st (.type "zip"))) (hs:[a,b].any isStar = false) (hf:SimV X d r env names A (eval a env) f) (hh:SimV X d r env names A (eval b env) g) :
  SimSrc X d r env names A t (.Call (.Name x p) [a,b] [] pos) (srcZip f g):=by
 intro T ρ s S H pq S' e ht Q hQ
 obtain ⟨v,S1,e1,e⟩:=bnd_some e
 obtain ⟨w,S2,e2,e⟩:=bnd_some e
 obtain ⟨l1',k1,e⟩:=l1 e
 obtain ⟨l2',k2,e⟩:=l1 e
 obtain ⟨k3,k4⟩:=sp e
 subst k1 k2 k3 k4
 obtain ⟨es,k,pos',k1⟩:=tup_of ht rfl
 subst k1
 refine callN_wp B hn hg gl H fun T1 ρ1 h1 tk1 X1 p1 H1=>?_
 refine sim_call (s:={ s with heap:=h1,toks:=tk1 }) B .type hs (.cons hf (.cons hh .nil)) H1 (two_of e1 e2) fun T2 ρ2 h2 tk2 ys X2 p2 H2 r2=>?_
 obtain ⟨z,z2,k1,rz,rz2⟩:=r2.two
 obtain ⟨a1,vs1,n1,k2,ho1,rv1,q1,_⟩:=lst_at H2 rz rfl
 obtain ⟨a2,vs2,n2,k3,ho2,rv2,q2,_⟩:=lst_at H2 rz2 rfl
 subst k1 k2 k3
 refine call_zip_2 (s:={ s with heap:=h2,toks:=tk2 }) (xs:=vs1.toArray) (ys:=vs2.toArray) ⟨_,ho1,rfl,n1,rfl⟩ ⟨_,ho2,rfl,n2,rfl⟩ fun h' hz hTI hTO hi1 hi2 hsz hk=>wpAny_pyIter_zip hz ?_
 have kp:Keeps' T2 h2 h':=Keeps'.of hk
 have fr:∀ i,T2 (h2.objs.size + i) = .no:=fun i=>H2.w.free (Heap.get?_none_of_le (Nat.le_add_right _ _))
 exact hQ.after X1 p1 (tk:=tk1) T2 ρ2 h' tk2 _ (X2.trans (Ext.keep kp)) p2 (H2.keep kp)
  (srcR_zip (zip_apart (Heap.lt_size ho1) (Heap.lt_size ho2)) rv1 rv2 q1 q2 hz hTI hTO hi1 hi2 ⟨_,hk _ _ ho1,rfl,n1,rfl⟩ ⟨_,hk _ _ ho2,rfl,n2,rfl⟩ (fc (fr 4) (fc (fr 2) (fc (fr 3) (fc (fr 0) (fc (fr 1) fnil))))))
end
end
section
variable {X:Ctx} {d r:Nat} {env:Env} {names:List (Str × NameKind)} {A:Around}
noncomputable def hold (T:TT) (hs:List Addr) (h:Heap):TT:=fun b=>if b ∈ hs then (match h.get? b with | some o=>.itr o | none=>.no) else T b
noncomputable def unhold (T:TT) (hs:List Addr):TT:=fun b=>if b ∈ hs then .no else T b
theorem hold_in {T:TT} {hs:List Addr} {h:Heap} {b:Addr} {o:Obj} (m:b ∈ hs) (e:h.get? b = some o):hold T hs h b = .itr o:=by unfold hold;rw [if_pos m,e]
theorem hold_out {T:TT} {hs:List Addr} {h:Heap} {b:Addr} (m:b ∉ hs):hold T hs h b = T b:=by unfold hold;rw [if_neg m]
theorem unhold_in {T:TT} {hs:List Addr} {b:Addr} (m:b ∈ hs):unhold T hs b = .no:=by unfold unhold;rw [if_pos m]
theorem unhold_out {T:TT} {hs:List Addr} {b:Addr} (m:b ∉ hs):unhold T hs b = T b:=by unfold unhold;rw [if_neg m]
theorem off {T:TT} {hs:List Addr} (f:∀ b ∈ hs,T b = .no) {b:Addr} {t:Tag} (e:T b = t) (n:t ≠ .no):b ∉ hs:=fun m=>n (e.symm.trans (f b m))
theorem St.tags {T T':TT} {ρ:List Addr} {S:SS} {h:Heap} (H:St X d r T ρ env names S h) (up:∀ {b:Addr} {t:Tag},T b = t->t ≠ .no->(∀ o,t ≠ .itr o)->t ≠ .frm (d + 1)->T' b = t) (W:WRel X T' h):St X d r T' ρ env names S h:=by
 have g:Grows T T':=fun b o e=>up e (by intro z;cases z) (by intro _ z;cases z) (by intro z;cases z)
 exact ⟨W,H.f.mono g (List.prefix_refl _) (fun b e q l=>up q (by intro z;cases z) (by intro _ z;cases z) (by intro z;cases z;exact Nat.not_succ_le_self _ l)) fun _ _ _ _ _ q=>q,
  ⟨H.o.len,fun n o q=>(H.o.obj n o q).mono g (List.prefix_refl _) (fun b q=>up q (by intro z;cases z) (by intro _ z;cases z) (by intro z;cases z)) (fun b q=>up q (by intro z;cases z) (by intro _ z;cases z) (by intro z;cases z)) fun _ _ _ q=>q⟩⟩
theorem St.hold {T:TT} {ρ:List Addr} {S:SS} {h:Heap} {hs:List Addr} (H:St X d r T ρ env names S h) (f:∀ b ∈ hs,T b = .no) (l:∀ b ∈ hs,∃ o,h.get? b = some o):St X d r (hold T hs h) ρ env names S h:=
 H.tags (fun e n _ _=>(hold_out (off f e n)).trans e) {
  fro:=fun b o e=>by
   by_cases m:b ∈ hs
   ·obtain ⟨o',q⟩:=l b m
    rw [hold_in m q] at e;cases e
   ·rw [hold_out m] at e;exact H.w.fro b o e
  itr:=fun b o e=>by
   by_cases m:b ∈ hs
   ·obtain ⟨o',q⟩:=l b m
    rw [hold_in m q] at e;cases e;exact q
   ·rw [hold_out m] at e;exact H.w.itr b o e
  live:=fun b e=>by
   by_cases m:b ∈ hs
   ·exact l b m
   ·rw [hold_out m] at e;exact H.w.live b e
  base:=fun b o e=>have q:=H.w.base b o e;(hold_out (off f q (by intro z;cases z))).trans q }
theorem unhold_up {T:TT} {hs:List Addr} (l:∀ b ∈ hs,∃ o,T b = .itr o) {b:Addr} {t:Tag} (e:T b = t) (n:∀ o,t ≠ .itr o):unhold T hs b = t:=by
 refine (unhold_out fun m=>?_).trans e
 obtain ⟨o,q⟩:=l b m
 exact n o (e.symm.trans q)
theorem unhold_grows {T:TT} {hs:List Addr} (l:∀ b ∈ hs,∃ o,T b = .itr o):Grows T (unhold T hs):=fun b o e=>unhold_up l e (by intro _ z;cases z)
theorem unhold_inv {T:TT} {hs:List Addr} {b:Addr} {t:Tag} (e:unhold T hs b = t) (n:t ≠ .no):b ∉ hs/\T b = t:=by
 by_cases m:b ∈ hs
 ·rw [unhold_in m] at e;exact absurd e.symm n
 ·rw [unhold_out m] at e;exact ⟨m,e⟩
theorem St.unhold {T:TT} {ρ:List Addr} {S:SS} {h:Heap} {hs:List Addr} (H:St X d r T ρ env names S h) (l:∀ b ∈ hs,∃ o,T b = .itr o):St X d r (Mine.unhold T hs) ρ env names S h:=
 H.tags (fun e _ n _=>unhold_up l e n) {
  fro:=fun b o e=>H.w.fro b o (unhold_inv e (by intro z;cases z)).2
  itr:=fun b o e=>H.w.itr b o (unhold_inv e (by intro z;cases z)).2
  live:=fun b e=>H.w.live b fun z=>e (by by_cases m:b ∈ hs;exact unhold_in m;exact (unhold_out m).trans z)
  base:=fun b o e=>unhold_grows l b o (H.w.base b o e)}
theorem Ext.unhold {T0 T T2:TT} {h h2:Heap} {hs:List Addr} (x:Ext d r T h T2 h2) (up:∀ {b:Addr} {t:Tag},T0 b = t->t ≠ .no->b ∉ hs/\T b = t):Ext d r T0 h (Mine.unhold T2 hs) h2 where
 fro b o q:=have u:=up q (by intro z;cases z);(unhold_out u.1).trans (x.fro b o u.2)
 itr b o q:=have u:=up q (by intro z;cases z);(unhold_out u.1).trans (x.itr b o u.2)
 frm b o q l:=have u:=up q (by intro z;cases z);(unhold_out u.1).trans (x.frm b o u.2 l)
 frmK b i o q l g:=x.frmK b i o (up q (by intro z;cases z)).2 l g
 mu b i n q l:=have u:=up q (by intro z;cases z);(unhold_out u.1).trans (x.mu b i n u.2 l)
 muK b i n o q l g:=x.muK b i n o (up q (by intro z;cases z)).2 l g
 md b i n q l:=have u:=up q (by intro z;cases z);(unhold_out u.1).trans (x.md b i n u.2 l)
 mdK b i n o q l g:=x.mdK b i n o (up q (by intro z;cases z)).2 l g
theorem stay {T T2:TT} {h h2:Heap} {b:Addr} {o:Obj} (W:WRel X T h) (x:Ext d r T h T2 h2) (W2:WRel X T2 h2) (hb:(∃ o,T b = .itr o) ∨ ∃ o,T b = .fro o) (q:h.get? b = some o):h2.get? b = some o:=by
 rcases hb with ⟨o',e⟩ | ⟨o',e⟩
 ·rw [Option.some.inj ((W.itr b o' e).symm.trans q)] at e
  exact W2.itr b o (x.itr b o e)
 ·rw [Option.some.inj ((W.fro b o' e).symm.trans q)] at e
  exact W2.fro b o (x.fro b o e)
theorem sim_putTup (hh:A.handled = none) {es:List Expr} {k:Nat} {pos:Pos} {is:List Nat} (ht:Tgts names es is) {T:TT} {ρ:List Addr} {s:Shared} {S:SS} {l:List V} {a:Addr} {vals:Array Value} (H:St X d r T ρ env names S s.heap)
  (hl:s.heap.IsTuple a vals) (rl:VRels X T ρ l vals.toList):SimAt X d r env names A T ρ s S (assign (.Tuple es k pos) env (.ref a)) (puts is l) RU:=by
 intro u S' e Q hQ
 obtain ⟨a1,a2⟩:=ht.each (env:=env)
 refine wpAny_assign_Tuple hh hl (a1.trans ((puts_len e).symm.trans (VRels.length _ rl).symm)) a2 fun h' he=>?_
 have kp:Keeps' T s.heap h':=Keeps'.extBut H.w.fresh he
 exact sim_puts ht (s:={ s with heap:=h' }) (H.keep kp) rl u S' e Q fun T2 ρ2 h2 tk2 z X2 p2 H2 r2=>hQ T2 ρ2 h2 tk2 z ((Ext.keep kp).trans X2) p2 H2 r2
inductive TurnI (d r:Nat) (fp hs:List Addr) (Wst:Nat->Heap->Prop) (i:Nat) (T:TT) (h:Heap) (T':TT) (h':Heap):Prop
 | mk (itr:∀ b ∈ hs,∃ o,T' b = .itr o) (x:Ext d r T h (unhold T' hs) h') (g:Grows T T') (fr:∀ h2,(∀ b ∈ fp,∀ o,h'.get? b = some o->h2.get? b = some o)->Wst (i + 1) h2)
theorem turn_end {t:Expr} {pd:Bool} {T0 T T':TT} {ρ0 ρ ρ':List Addr} {S S':SS} {I:Addr} {fp hs:List Addr} {l:List V} {Wst Mid} (W:Wk X A T0 ρ0 t I fp hs l pd Wst Mid) {i:Nat} {h h':Heap} (H:St X d r (hold T hs h) ρ env names S h) (st:Wst (i + 1) h)
  (hno:∀ b ∈ hs,T b = .no) (hfp:∀ b ∈ fp,b ∉ hs->∃ o,T b = .fro o) (x:Ext d r (hold T hs h) h T' h') (H':St X d r T' ρ' env names S' h'):TurnI d r fp hs Wst i T h T' h':=by
 have hl:=W.live _ _ st
 have held:∀ b ∈ hs,∃ o,hold T hs h b = .itr o:=fun b m=>let ⟨o,ho⟩:=hl b m;⟨o,hold_in m ho⟩
 have up:∀ {b:Addr} {t:Tag},T b = t->t ≠ .no->b ∉ hs/\hold T hs h b = t:=fun e n=>⟨off hno e n,(hold_out (off hno e n)).trans e⟩
 have gr:Grows T (hold T hs h):=fun b o e=>(up e (by intro z;cases z)).2
 refine ⟨fun b m=>let ⟨o,ho⟩:=held b m;⟨o,x.itr b o ho⟩,x.unhold up,fun b o e=>x.fro b o (gr b o e),fun h3 k3=>W.frame _ _ _ st fun b mb o e=>k3 b mb o (stay H.w x H'.w ?_ e)⟩
 by_cases z:b ∈ hs
 ·exact .inl (held b z)
 ·exact .inr (let ⟨o,ho⟩:=hfp b mb z;⟨o,gr b o ho⟩)
theorem sim_turn (hh:A.handled = none) {t:Expr} {tg:Tg} (htg:tgtOf names t = some tg) {pd:Bool} (hfit:tg.fits pd = true) {T0 T:TT} {ρ0 ρ:List Addr} {s:Shared} {S S':SS} {I:Addr} {fp hs:List Addr} {l:List V} {Wst Mid}
  (W:Wk X A T0 ρ0 t I fp hs l pd Wst Mid) (g:Grows T0 T) (p0:ρ0 <+: ρ) (H:St X d r T ρ env names S s.heap) {i:Nat} (hst:Wst i s.heap) (hno:∀ b ∈ hs,T b = .no) (hfp:∀ b ∈ fp,b ∉ hs->∃ o,T b = .fro o) {u:V} (hu:l[i]? = some u) {x:Unit}
  (e:putT tg u S = some (x,S')) {Q:Option Value->Shared->Prop}
  (hQ:∀ v s',(∀ Q:Unit->Shared->Prop,(∀ T' ρ' h' tk',TurnI d r fp hs Wst i T s.heap T' h'->ρ <+: ρ'->St X d r T' ρ' env names S' h'->Q () { s with heap:=h',toks:=tk' }) ->
   wpAny (model X.prog X.w) A (letOwnedTupleGo t (.ref I) v) (fun _ s₁=>wpAny (model X.prog X.w) A (assign t env v) Q (fun _ _=>False) s₁) (fun _ _=>False) s')->Q (some v) s') :
  wpAny (model X.prog X.w) A (pyNext (.ref I)) Q (fun _ _=>False) s:=by
 have keep:∀ {h h':Heap},(∀ b o,b ∉ hs->h.get? b = some o->h'.get? b = some o)->Keeps' T h h':=fun k b o n e=>k b o (fun m=>n (hno b m)) e
 refine W.item i s Q (List.getElem?_eq_some_iff.mp hu).1 hst fun v h' tk m k1=>hQ v _ fun Q hq=>?_
 clear hQ
 refine W.go i v _ _ m fun h2 st2 k2=>?_
 have kp:=(keep k1).trans (keep k2)
 have H3:=(H.keep kp).hold hno (W.live _ _ st2)
 have gr:Grows T0 (hold T hs h2):=fun b o e=>have q:=g b o e;(hold_out (off hno q (by intro z;cases z))).trans q
 have fin:∀ T' ρ' h' tk' (y:Unit),Ext d r (hold T hs h2) h2 T' h'->ρ <+: ρ'->St X d r T' ρ' env names S' h'->RU T' ρ' x y->Q y { s with heap:=h',toks:=tk' }:=fun T' ρ' h' tk' y x p H' _=>
  let ⟨a,b,c,f⟩:=turn_end W H3 st2 hno hfp x H';hq T' ρ' h' tk' ⟨a,(Ext.keep kp).trans b,c,f⟩ p H'
 have hv:=W.val i v _ u m hu
 clear hq hno hfp keep kp hst H m hu
 cases hv with
 | one rv=>exact sim_putT (s:={ s with heap:=h2,toks:=tk }) hh htg H3 (VRel.mono gr p0 u rv) x S' e Q fin
 | tup a vals us eu ev na ht rv=>
  subst eu ev
  cases t with
  | Name x p=>
   obtain ⟨j,_,e⟩:=mi htg
   subst e
   exact nob hfit
  | Tuple es k p=>
   obtain ⟨is,hi,e'⟩:=mi htg
   subst e'
   obtain ⟨o,ho,r⟩:=ht
   exact sim_putTup (s:={ s with heap:=h2,toks:=tk }) hh (tgts_is hi) H3 ⟨o,k2 a o na ho,r⟩ (VRels.mono gr p0 us rv) x S' e Q fin
  | _=>exact no htg
inductive ForAt (X:Ctx) (d r:Nat) (env:Env) (names:List (Str × NameKind)) (T:TT) (ρ:List Addr) (s:Shared) (tg:Tg) (f:M Fl) (hs:List Addr) (l:List V) (Wst:Nat->Heap->Prop) (fl:Fl) (S':SS) (n:Nat) (s':Shared):Prop
 | mk (k:Nat) (hk:k + n = l.length) (T1:TT) (ρ1:List Addr) (S1:SS) (h1:Heap) (tk1:Nat) (e:s' = { s with heap:=h1,toks:=tk1 }) (x:Ext d r T s.heap T1 h1) (p:ρ <+: ρ1) (H:St X d r T1 ρ1 env names S1 h1)
  (st:Wst k h1) (no:∀ b ∈ hs,T1 b = .no) (q:forL tg f (l.drop k) S1 = some (fl,S'))
theorem for_core (hh:A.handled = none) {t:Expr} {tg:Tg} (htg:tgtOf names t = some tg) {pd:Bool} (hfit:tg.fits pd = true) {b:List Stmt} {f:M Fl} (hb:SimS X d r env names A (execs b env) f)
  {T:TT} {ρ:List Addr} {s:Shared} {S S':SS} {I:Addr} {fp hs:List Addr} {l:List V} {Wst Mid} (W:Wk X A T ρ t I fp hs l pd Wst Mid) (H:St X d r T ρ env names S s.heap) (hst:Wst 0 s.heap) (hno:∀ b ∈ hs,T b = .no)
  (hfp:∀ b ∈ fp,b ∉ hs->∃ o,T b = .fro o) {fl:Fl} (e:forL tg f l S = some (fl,S')) {Q:Flow->Shared->Prop} (hQ:Cont X d r env names T ρ s S' (RF X) fl Q) {E:Value->Shared->Prop} :
  codeAny (model X.prog X.w) A (.forLoop t (.ref I) b [] env) (fun r s'=>match r with | .ok f=>Q f s' | .error e=>E e s') s:=by
 refine codeAny_forLoop_any (ForAt X d r env names T ρ s tg f hs l Wst fl S') (fun n s' hI=>?_) l.length ⟨0,Nat.zero_add _,T,ρ,S,s.heap,s.toks,rfl,Ext.refl,List.prefix_refl _,H,hst,hno,e⟩
 clear H hst hno e
 obtain ⟨k,hk,T1,ρ1,S1,h1,tk1,es,X1,p1,H1,st1,hno1,e1⟩:=hI
 subst es
 cases n with
 | zero=>
  have hk:k = l.length:=hk
  rw [hk] at st1 e1
  rw [List.drop_length] at e1
  refine wpAny_mono (W.done _ _ st1 fun h' tk k=>?_) (fun _ _ z=>z) fun _ _ z=>z.elim
  have kp:Keeps' T1 h1 h':=fun b o n e=>k b o (fun m=>n (hno1 b m)) e
  exact wpAny_execs_nil (Cont.flow hQ e1 (X1.trans (Ext.keep kp)) p1 (H1.keep kp) .next)
 | succ n=>
  have hlt:k < l.length:=hk ▸ Nat.lt_add_of_pos_right (Nat.succ_pos n)
  rw [List.drop_eq_getElem_cons hlt] at e1
  obtain ⟨x,S2,e2,e3⟩:=bnd_some e1
  obtain ⟨fl2,S3,e4,e5⟩:=bnd_some e3
  clear e1 e3
  have hfp1:∀ b ∈ fp,b ∉ hs->∃ o,T1 b = .fro o:=fun b m n=>let ⟨o,ho⟩:=hfp b m n;⟨o,X1.fro b o ho⟩
  refine wpAny_mono (sim_turn (s:={ s with heap:=h1,toks:=tk1 }) hh htg hfit W X1.fro p1 H1 st1 hno1 hfp1 (List.getElem?_eq_getElem hlt) e2 fun v s' hv=>?_) (fun _ _ z=>z) fun _ _ z=>z.elim
  refine wpAny_mono (hv _ fun T2 ρ2 h2 tk2 I2 p2 H2=>?_) (fun _ _ z=>wpAny_mono z (fun _ _ y=>y) fun _ _ y=>y.elim) fun _ _ z=>z.elim
  obtain ⟨itr2,X2,g2,st2⟩:=I2
  refine wpAny_mono (hb T2 ρ2 { s with heap:=h2,toks:=tk2 } S2 H2 fl2 S3 e4 _ fun T3 ρ3 h3 tk3 y X3 p3 H3 r3=>?_) (fun _ _ z=>z) fun _ _ z=>z.elim
  have itr3:∀ b ∈ hs,∃ o,T3 b = .itr o:=fun b m=>let ⟨o,q⟩:=itr2 b m;⟨o,X3.itr b o q⟩
  have H4:=H3.unhold itr3
  have X':=(X1.trans X2).trans (X3.unhold unhold_inv)
  have p':=(p1.trans p2).trans p3
  have st3:Wst (k + 1) h3:=st2 h3 fun b m o q=>stay H2.w X3 H3.w (by
   by_cases z:b ∈ hs
   ·exact .inl (itr2 b z)
   ·exact .inr (let ⟨o,q⟩:=hfp1 b m z;⟨o,g2 b o q⟩)) q
  have hk':k + 1 + n = l.length:=(Nat.succ_add_eq_add_succ k n).trans hk
  clear hv st2 H2 X3 X2 X1 H1 st1 hno1 hfp hfp1 g2 e2 e4 p1 p2 p3 hk hb W
  cases r3 with
  | next=>exact ⟨n,Nat.lt_succ_self _,k + 1,hk',unhold T3 hs,ρ3,S3,h3,tk3,rfl,X',p',H4,st3,fun b m=>unhold_in m,e5⟩
  | brk=>exact Cont.flow hQ e5 X' p' H4 .next
  | cont=>exact ⟨n,Nat.lt_succ_self _,k + 1,hk',unhold T3 hs,ρ3,S3,h3,tk3,rfl,X',p',H4,st3,fun b m=>unhold_in m,e5⟩
  | ret v y r=>exact Cont.flow hQ e5 X' p' H4 (.ret v y (VRel.mono (unhold_grows itr3) (List.prefix_refl _) _ r))
theorem fits_tup {t:Expr} {tg:Tg} {pd:Bool} (htg:tgtOf names t = some tg) (hfit:tg.fits pd = true):isTup t = true ∨ pd = false:=by
 cases pd with
 | false=>exact .inr rfl
 | true=>
  cases t with
  | Name x p=>
   obtain ⟨j,_,e⟩:=mi htg
   subst e
   exact nob hfit
  | Tuple _ _ _=>exact .inl rfl
  | _=>exact no htg
theorem sim_For (hh:A.handled = none) {t i:Expr} {b:List Stmt} {pos:Pos} {tg:Tg} (htg:tgtOf names t = some tg) {src:Src} {f:M Fl} (hset:isSet i = false) (hs:SimSrc X d r env names A t i src) (hb:SimS X d r env names A (execs b env) f) :
  SimS X d r env names A (exec (.For t i b [] pos) env) (sFor tg src f):=by
 intro T ρ s S H v S' e Q hQ
 obtain ⟨p,S1,e1,e⟩:=bnd_some e
 obtain ⟨hfit,e⟩:=im e
 obtain ⟨l,S2,e2,e⟩:=bnd_some e
 refine wpAny_For (hs T ρ s S H p S1 e1 (fits_tup htg hfit) _ fun T1 ρ1 h1 tk1 I X1 p1 H1 hr=>?_) (fun x=>by unfold foldedSetIterable;cases i <;> first | rfl | exact nob hset.symm)
 replace hQ:=Cont.after hQ X1 p1 (tk:=tk1)
 clear hs e1 H X1 p1
 obtain ⟨fp,hs',Wst,Mid,W,st,hno,hsub,hfp,hob⟩:=hr
 obtain ⟨l0,q,bb⟩:=p
 cases q with
 | none=>
  obtain ⟨k1,k2⟩:=ret_some e2
  subst k1 k2
  exact for_core hh htg hfit hb (s:={ s with heap:=h1,toks:=tk1 }) (W A hh) H1 st hno (fun b m n=>(hfp b m n).resolve_right fun ⟨n,e,_⟩=>no e) e hQ
 | some n=>
  obtain ⟨lo,hlo,k⟩:=mi e2
  obtain ⟨k1,k2⟩:=pd k
  have ho:=lref_some hlo
  subst k1 k2
  obtain ⟨z,a,o,vs,w1,w2,w3,w4,w5⟩:=H1.o.obj n _ ho
  obtain ⟨F,g⟩:=Fz.retag (x:=.list lo) (Fz.refl H1.w (H1.o.drop n)) ho w2 (.inl w2) w3 w3
  have ex:Ext d r T1 h1 _ h1:=F.ext
  have f1:=H1.f.mono F.g (List.prefix_refl ρ1) ex.frm fun _ _ _ _ _ q=>q
  have f2:=f1.resl (n:=n) (x:=.lst lo) (y:=.ref a) ⟨a,w1,rfl⟩ ⟨z,a,o,vs,rfl,tset_self,w4,VRels.mono F.g (List.prefix_refl _) _ w5⟩
  refine for_core hh htg hfit hb (s:={ s with heap:=h1,toks:=tk1 }) ((W A hh).mono (fun u _ v=>VRel.mono F.g (List.prefix_refl _) u) (fun us _ vs=>VRels.mono F.g (List.prefix_refl _) us)) ⟨F.w,f2,F.o⟩ st (fun b m=>?_) (fun b m nm=>?_) e (Cont.after hQ ex (List.prefix_refl _))
  ·exact (F.same b fun n=>by rw [hno b m];exact ⟨(by intro z;cases z),(by intro z;cases z)⟩).trans (hno b m)
  ·rcases hfp b m nm with ⟨o,q⟩ | ⟨n',q1,q2⟩
   ·exact ⟨o,F.g b o q⟩
   ·rw [← Option.some.inj q1] at q2
    rw [← Option.some.inj (w1.symm.trans q2)]
    exact ⟨o,tset_self⟩
end
section
variable {X:Ctx} {d r:Nat} {env:Env} {names:List (Str × NameKind)} {A:Around}
theorem codeAny_compLoop_go {prog:Program} {w:World} {R:Result->Shared->Prop} {s:Shared} {elt target iter:Expr} {ifs:List Expr} {scope:Scope} {pos:Pos} {it acc:Value} {env:Env} (I:Nat->Shared->Prop)
  (turn:∀ n s,I n s->wpAny (model prog w) A (pyNext it) (fun r s₁=>match r with
   | none=>R (.ok .next) s₁
   | some v=>wpAny (model prog w) A (letOwnedTupleGo target it v) (fun _ s₁'=>wpAny (model prog w) A (assign target env v) (fun _ s₂=>
     wpAny (model prog w) A (forIn ifs true fun c r=>if r = true then do let ok ← isTrue c env (eval c env);pure (ForInStep.yield ok) else pure (ForInStep.yield r)) (fun ok s₃=>
      if ok = true then wpAny (model prog w) A (eval elt env) (fun x s₄=>
       wpAny (model prog w) A (PySem.call (.builtin "list.append") [acc,x]) (fun _ s₅=>∃ m,m < n/\I m s₅) (fun _ _=>False) s₄) (fun _ _=>False) s₃
      else ∃ m,m < n/\I m s₃) (fun _ _=>False) s₂) (fun _ _=>False) s₁') (fun _ _=>False) s₁) (fun _ _=>False) s)
  (n:Nat) (h:I n s):codeAny (model prog w) A (.compLoop (.ListComp elt [⟨target,iter,ifs,0⟩] scope pos) 0 it acc env) R s:=by
 refine codeAny_loop rfl I (fun n s hI=>?_) n h
 show wpAny _ A ((compTurn (.ListComp elt [⟨target,iter,ifs,0⟩] scope pos) 0 it acc env).onRaise (fun x=>do noteFrame x env;theTreesLotGoes x)) _ _ s
 refine wpAny_noted ?_
 rw [compTurn_list]
 refine wpAny_bind (wpAny_standAt (wpAny_bind (wpAny_mono (turn n s hI) (fun r s₁ h₁=>?_) fun _ _ h'=>h'.elim)))
 cases r with
 | none=>exact wpAny_pure h₁
 | some v=>
  refine wpAny_bind (wpAny_mono h₁ (fun _ s₁' h₁'=>?_) fun _ _ h'=>h'.elim)
  refine wpAny_bind (wpAny_mono h₁' (fun _ s₂ h₂=>wpAny_bind (wpAny_mono h₂ (fun ok s₃ h₃=>?_) fun _ _ h'=>h'.elim)) fun _ _ h'=>h'.elim)
  cases ok with
  | false=>exact wpAny_pure ⟨rfl,h₃⟩
  | true=>
   exact wpAny_bind (wpAny_bind (wpAny_mono h₃ (fun x s₄ h₄=>wpAny_bind (wpAny_mono h₄ (fun _ s₅ h₅=>wpAny_pure (wpAny_pure ⟨rfl,h₅⟩)) fun _ _ h'=>h'.elim)) fun _ _ h'=>h'.elim))
noncomputable def clStep (env:Env) (p:Str × NameKind) (acc:List (Str × Addr)):List (Str × Addr):=if (p.2 == .free) = true then (match env.cells.lookup p.1 with
 | some c=>(p.1,c) :: acc
 | none=>acc) else acc
noncomputable def clOf (env:Env):List (Str × NameKind)->List (Str × Addr)->List (Str × Addr)
 | [],acc=>acc
 | p :: r,acc=>clOf env r (clStep env p acc)
theorem clStep_free {n:Str} {c:Addr} {acc:List (Str × Addr)} (h:env.cells.lookup n = some c):clStep env (n,.free) acc = (n,c) :: acc:=by
 refine (if_pos rfl).trans ?_
 dsimp only
 rw [h]
theorem closure_go {names:List (Str × NameKind)}:∀ {acc:List (Str × Addr)},(∀ p ∈ names,p.2 = .free->∃ c,env.cells.lookup p.1 = some c) ->
   (forIn names acc fun (x:Str × NameKind) (r:List (Str × Addr))=>(match x with
    | (name,kind)=>if (kind == NameKind.free) = true then do
      let a ← cellOf env name
      pure (ForInStep.yield ((name,a) :: r))
     else pure (ForInStep.yield r):Sem (ForInStep (List (Str × Addr))))) = pure (clOf env names acc):=by
 induction names with
 | nil=>intro acc _;rfl
 | cons p names ih=>
  intro acc h
  obtain ⟨n,k⟩:=p
  rw [List.forIn_cons]
  unfold clOf
  by_cases z:(k == NameKind.free) = true
  ·have ek:=beq_iff_eq.mp z
   subst ek
   obtain ⟨c,hc⟩:=h (n,.free) List.mem_cons_self rfl
   rw [clStep_free hc]
   dsimp only [cellOf]
   rw [if_pos z,hc]
   exact ih fun p hp=>h p (List.mem_cons_of_mem _ hp)
  ·rw [show clStep env (n,k) acc = acc from if_neg z]
   dsimp only
   rw [if_neg z]
   exact ih fun p hp=>h p (List.mem_cons_of_mem _ hp)
theorem closureFor_eq {scope:Scope} (h:∀ p ∈ scope.names,p.2 = .free->∃ c,env.cells.lookup p.1 = some c):closureFor scope env = pure (clOf env scope.names []):=
 congrArg (fun t:Sem (List (Str × Addr))=>t >>= fun s=>pure s) (closure_go (acc:=[]) h)
inductive ClI (env:Env) (x:Str) (c:Addr) (ns:List (Str × NameKind)):Prop
 | mk (e:env.cells.lookup x = some c) (m:(x,NameKind.free) ∈ ns)
theorem step_sub {x:Str} {c:Addr} {p:Str × NameKind} {acc:List (Str × Addr)} {ns:List (Str × NameKind)} (h:(clStep env p acc).lookup x = some c):acc.lookup x = some c ∨ ClI env x c (p :: ns):=by
 obtain ⟨n,k⟩:=p
 by_cases z:(k == NameKind.free) = true
 ·have ek:=beq_iff_eq.mp z
  subst ek
  cases hc:env.cells.lookup n with
  | none=>
   unfold clStep at h
   rw [if_pos z,hc] at h;exact .inl h
  | some c'=>
   rw [clStep_free hc,List.lookup_cons] at h
   cases y:x == n with
   | true=>
    rw [y] at h
    rw [beq_iff_eq.mp y]
    exact .inr ⟨Option.some.inj h ▸ hc,List.mem_cons_self⟩
   | false=>rw [y] at h;exact .inl h
 ·rw [show clStep env (n,k) acc = acc from if_neg z] at h
  exact .inl h
theorem clOf_sub {x:Str} {c:Addr} {names:List (Str × NameKind)}:∀ {acc:List (Str × Addr)},(clOf env names acc).lookup x = some c->acc.lookup x = some c ∨ ClI env x c names:=by
 induction names with
 | nil=>intro acc h;exact .inl h
 | cons p ns ih=>
  intro acc h
  rcases ih h with q | ⟨a,b⟩
  ·exact step_sub q
  ·exact .inr ⟨a,List.mem_cons_of_mem _ b⟩
theorem step_keep {x:Str} {c:Addr} {p:Str × NameKind} {acc:List (Str × Addr)} (hc:env.cells.lookup x = some c) (h:acc.lookup x = some c):(clStep env p acc).lookup x = some c:=by
 obtain ⟨n,k⟩:=p
 by_cases z:(k == NameKind.free) = true
 ·unfold clStep
  rw [if_pos z]
  dsimp only
  cases hn:env.cells.lookup n with
  | none=>exact h
  | some c'=>
   dsimp only
   rw [List.lookup_cons]
   cases y:x == n with
   | true=>rw [← beq_iff_eq.mp y] at hn;exact hn.symm.trans hc
   | false=>exact h
 ·rw [show clStep env (n,k) acc = acc from if_neg z];exact h
theorem clOf_keep {x:Str} {c:Addr} (hc:env.cells.lookup x = some c) {names:List (Str × NameKind)}:∀ {acc:List (Str × Addr)},acc.lookup x = some c->(clOf env names acc).lookup x = some c:=by
 induction names with
 | nil=>intro acc h;exact h
 | cons p ns ih=>intro acc h;exact ih (step_keep hc h)
theorem clOf_get {x:Str} {c:Addr} (hc:env.cells.lookup x = some c) {names:List (Str × NameKind)}:∀ {acc:List (Str × Addr)},(x,NameKind.free) ∈ names->(clOf env names acc).lookup x = some c:=by
 induction names with
 | nil=>intro acc h;exact nomatch h
 | cons p ns ih=>
  intro acc h
  rcases List.mem_cons.mp h with e | h
  ·show (clOf env ns (clStep env p acc)).lookup x = some c
   refine clOf_keep hc ?_
   rw [← e,clStep_free hc,List.lookup_cons,beq_self_eq_true]
  ·exact ih h
noncomputable def relab (env:Env) (n:Str) (k:NameKind):NameKind:=if (k == .free && env.scope.kind == .function && env.kindOf n == some .cell) then .cell else k
theorem relab_lookup {x:Str}:∀ {ns:List (Str × NameKind)},(ns.map fun (n,k)=>if (k == NameKind.free && env.scope.kind == .function && env.kindOf n == some .cell) then (n,NameKind.cell) else (n,k)).lookup x = (ns.lookup x).map (relab env x)
 | []=>rfl
 | (n,k) :: r=>by
  show List.lookup x ((if (k == NameKind.free && env.scope.kind == .function && env.kindOf n == some .cell) = true then (n,NameKind.cell) else (n,k)) :: _) = _
  have e:(if (k == NameKind.free && env.scope.kind == .function && env.kindOf n == some .cell) = true then (n,NameKind.cell) else (n,k)) = (n,relab env n k):=by unfold relab;split <;> rfl
  rw [e,List.lookup_cons,List.lookup_cons]
  cases z:x == n with
  | true=>rw [beq_iff_eq.mp z];rfl
  | false=>exact relab_lookup
theorem comp_kindOf {scope:Scope} {cl:List (Str × Addr)} {C:Addr} {x:Str}:(compEnvC scope cl C env).kindOf x = (scope.names.lookup x).map (relab env x):=relab_lookup
theorem relab_local {n:Str} {k:NameKind}:relab env n k = .local ↔ k = .local:=by
 unfold relab
 by_cases h:(k == .free && env.scope.kind == .function && env.kindOf n == some .cell) = true
 ·rw [if_pos h,beq_iff_eq.mp (Bool.and_eq_true_iff.mp (Bool.and_eq_true_iff.mp h).1).1]
  exact ⟨fun z=>by (cases z),fun z=>by (cases z)⟩
 ·rw [if_neg h]
theorem comp_kinds {scope:Scope} {cl:List (Str × Addr)} {C:Addr}:Kinds (compEnvC scope cl C env) scope.names:=fun x=>by
 rw [comp_kindOf]
 cases scope.names.lookup x with
 | none=>exact ⟨⟨fun h=>no h,fun h=>no h⟩,fun h=>no h⟩
 | some k=>exact ⟨⟨fun h=>congrArg some (relab_local.mpr (Option.some.inj h)),fun h=>congrArg some (relab_local.mp (Option.some.inj h))⟩,fun h=>by cases h;rfl⟩
inductive SlotG (x:Str) (names:List (Str × NameKind)) (n i:Nat):Prop
 | mk (j:Nat) (k:NameKind) (e:i = n + j) (g:names[j]? = some (x,k)) (q:kindIx x names = some k)
theorem slotIx_get {x:Str} {names:List (Str × NameKind)} {i:Nat}:∀ {n:Nat},slotIx x names n = some i->SlotG x names n i:=by
 induction names with
 | nil=>intro n h;exact no h
 | cons p r ih=>
  intro n h
  by_cases z:x = p.1
  ·have h':(if isVar p.2 = true then some n else none) = some i:=(if_pos z).symm.trans h
   exact ⟨0,p.2,(Option.some.inj (ii h').2).symm,by rw [z];rfl,if_pos z⟩
  ·have h':slotIx x r (n + 1) = some i:=(if_neg z).symm.trans h
   obtain ⟨j,k,e,g,q⟩:=ih h'
   exact ⟨j + 1,k,by rw [e,Nat.add_assoc,Nat.add_comm 1 j],g,(if_neg z).trans q⟩
theorem slot_of {x:Str} {k:NameKind} (hv:isVar k = true) {names:List (Str × NameKind)}:∀ {n:Nat},kindIx x names = some k->∃ i,slotIx x names n = some i:=by
 induction names with
 | nil=>intro n h;exact no h
 | cons p r ih=>
  intro n h
  by_cases z:x = p.1
  ·have h':some p.2 = some k:=(if_pos z).symm.trans h
   exact ⟨n,(if_pos z).trans (if_pos (by rw [Option.some.inj h'];exact hv))⟩
  ·have h':kindIx x r = some k:=(if_neg z).symm.trans h
   obtain ⟨i,e⟩:=ih (n:=n + 1) h'
   exact ⟨i,(if_neg z).trans e⟩
inductive CellK (x:Str) (names:List (Str × NameKind)):Prop
 | mk (k:NameKind) (e:kindIx x names = some k) (v:isVar k = true) (n:k ≠ .local)
theorem cell_kind {x:Str} (h:inCell (kindIx x names) = true):CellK x names:=by
 cases e:kindIx x names with
 | none=>rw [e] at h;exact nob h
 | some k=>
  rw [e] at h
  refine ⟨k,e,?_,?_⟩ <;> cases k <;> first | rfl | (intro z;cases z;done) | exact nob h
inductive FreeI (X:Ctx) (d:Nat) (T:TT) (ρ:List Addr) (env:Env) (names:List (Str × NameKind)) (sl:List (Option V)) (h:Heap) (x:Str):Prop
 | mk (cd:(x == ("__classdict__" : Str)) = false) (i:Nat) (c:Addr) (vo:Option Value) (e:Nat) (hi:slotIx x names 0 = some i) (h1:env.cells.lookup x = some c) (h2:T c = .frm e) (h3:e<=d) (h4:h.IsCell c vo)
  (h5:env.kindOf x = some .cell ∨ env.kindOf x = some .free) (h6:∀ v,sl[i]? = some (some v)->∃ y,vo = some y/\VRel X T ρ v y)
theorem free_cell {T:TT} {ρ:List Addr} {sl:List (Option V)} {h:Heap} (F:FRel X d T ρ env names sl h) {inn:List (Str × NameKind)} (cap:capOk names inn = true) {x:Str} (hx:(x,NameKind.free) ∈ inn):FreeI X d T ρ env names sl h x:=by
 obtain ⟨h1,h2⟩:=Bool.and_eq_true_iff.mp (List.all_eq_true.mp cap _ hx:(inCell (kindIx x names) && x != "__classdict__") = true)
 obtain ⟨m,_,hm⟩:=F.ns
 obtain ⟨k,hk,hv,hn⟩:=cell_kind h1
 obtain ⟨i,hi⟩:=slot_of (n:=0) hv hk
 rcases hm i x k hi hk with ⟨a,_⟩ | ⟨_,b,c,vo,e,q1,q2,q3,_,q5,q6⟩
 ·exact absurd a hn
 ·exact ⟨Bool.not_eq_true' _ |>.mp h2,i,c,vo,e,hi,q1,q2,q3,q5,b.imp id fun z=>z.1,q6⟩
section
variable {T:TT} {ρ:List Addr} {sl:List (Option V)} {h h':Heap} {scope:Scope} {C:Addr}
theorem inner_at {i:Nat} {o:Option Nat} {v:V} {cp:List (Option Nat)} (hcp:cp[i]? = some o) (hv:(inner cp sl)[i]? = some (some v)):∃ j,o = some j/\sl[j]? = some (some v)/\nr v = true:=by
 unfold inner at hv
 rw [List.getElem?_map,hcp] at hv
 obtain ⟨j,e1,hv⟩:=bi (Option.some.inj hv)
 obtain ⟨q,e2,hv⟩:=bi hv
 obtain ⟨u,e3,hv⟩:=bi hv
 obtain ⟨hn,hv⟩:=ii hv
 rw [← Option.some.inj hv]
 exact ⟨j,e1,e3 ▸ e2,hn⟩
theorem comp_ns (F:FRel X d T ρ env names sl h) (cap:capOk names scope.names = true) (hC:T C = .no) (kp:∀ b o,h.get? b = some o->h'.get? b = some o) (i:Nat) (x:Str) (k:NameKind) (hi:slotIx x scope.names 0 = some i) (hkx:kindIx x scope.names = some k) :
  LocR X (tset T C (.frm (d + 1))) [] (compEnvC scope (clOf env scope.names []) C env) (inner (cpOf names scope.names) sl)[i]? x k (fun _=>none) ∨ CelR X (d + 1) (tset T C (.frm (d + 1))) [] (compEnvC scope (clOf env scope.names []) C env) (inner (cpOf names scope.names) sl)[i]? h' x k:=by
 obtain ⟨j,k',e,hg,hk'⟩:=slotIx_get hi
 rw [Nat.zero_add] at e
 rw [← e] at hg
 rw [← Option.some.inj (hkx.symm.trans hk')] at hg
 obtain ⟨_,_,kv,hkv,hvv⟩:=slotIx_lt hi
 rw [← Option.some.inj (hkx.symm.trans hkv)] at hvv
 have hmem:(x,k) ∈ scope.names:=List.mem_of_getElem? hg
 have hkind:=comp_kindOf (env:=env) (scope:=scope) (cl:=clOf env scope.names []) (C:=C) (x:=x)
 rw [kindIx_lookup] at hkx
 rw [hkx] at hkind
 have hcp:(cpOf names scope.names)[i]? = some (if isFree k = true then slotIx x names 0 else none):=by
  unfold cpOf;rw [List.getElem?_map,hg];rfl
 have hcap:capK names x k = true:=List.all_eq_true.mp cap _ hmem
 cases k with
 | «local»=>
  refine .inl ⟨rfl,hkind,fun v hv=>?_⟩
  obtain ⟨_,e,_⟩:=inner_at hcp hv
  exact no e
 | free=>
  obtain ⟨hcd,j,c,vo,e,hj,q1,q2,q3,q4,q5,q6⟩:=free_cell F cap hmem
  refine .inr ⟨(by intro z;cases z),?_,c,vo,e,clOf_get q1 hmem,tset_of hC q2 (by intro z;cases z),Nat.le_succ_of_le q3,(fun z=>by cases z),q4.keeps kp,fun v hv=>?_⟩
  ·rw [hkind]
   show some (relab env x .free) = _ ∨ some (relab env x .free) = _/\_
   unfold relab
   by_cases z:(NameKind.free == .free && env.scope.kind == .function && env.kindOf x == some .cell) = true
   ·rw [if_pos z];exact .inl rfl
   ·rw [if_neg z];exact .inr ⟨rfl,hcd⟩
  ·obtain ⟨j',e1,e2,hn⟩:=inner_at hcp hv
   rw [← Option.some.inj (hj.symm.trans e1)] at e2
   obtain ⟨y,y1,y2⟩:=q6 _ e2
   exact ⟨y,y1,VRel.mono (Grows.tset hC) (List.prefix_refl _) _ (VRel.any _ hn y2)⟩
 | cell=>exact nob hcap
 | _=>exact nob hvv
theorem comp_frame (F:FRel X d T ρ env names sl h) (cap:capOk names scope.names = true) (hk:scope.kind = .function) (hC:T C = .no) (hCn:h.get? C = none)
  (kp:∀ b o,h.get? b = some o->h'.get? b = some o) (hns:h'.Ns C fun _=>none) :
  FRel X (d + 1) (tset T C (.frm (d + 1))) [] (compEnvC scope (clOf env scope.names []) C env) scope.names (inner (cpOf names scope.names) sl) h':=by
 have sub:∀ {x c},(clOf env scope.names []).lookup x = some c->ClI env x c scope.names:=fun q=>(clOf_sub q).resolve_left fun z=>no z
 have sub1:∀ {x c},(clOf env scope.names []).lookup x = some c->env.cells.lookup x = some c:=fun q=>let ⟨a,_⟩:=sub q;a
 exact {
  kind:=hk
  globals:=F.globals
  builtins:=F.builtins
  len:=by unfold inner cpOf;rw [List.length_map,List.length_map]
  loc:=tset_self
  ns:=⟨_,hns,comp_ns F cap hC kp⟩
  apart:=fun x y c hx hy=>F.apart x y c (sub1 hx) (sub1 hy)
  cl:=fun x c hx ecl=>by
   obtain ⟨a,b⟩:=sub hx
   obtain ⟨_,j,c',vo,e,hj,q1,q2,q3,⟨o,q4,_⟩,_⟩:=free_cell F cap b
   rw [← Option.some.inj (a.symm.trans q1),show c = C from ecl,hCn] at q4
   exact no q4
  glob:=fun x _ hx=>by
   rw [kindIx_lookup] at hx
   rw [comp_kindOf,hx];rfl }
end
theorem forIn_false (ifs:List Expr) (cenv:Env):(forIn ifs false fun c r=>if r = true then do let ok ← isTrue c cenv (eval c cenv);pure (ForInStep.yield ok) else pure (ForInStep.yield r):Sem Bool) = pure false:=by
 induction ifs with
 | nil=>rfl
 | cons c r ih=>
  rw [List.forIn_cons]
  simp only [Bool.false_eq_true,if_false]
  exact ih
theorem sim_tests {es:List Expr} {ts:List (M Bool)} (h:SimTs X d r env names A es ts) :
  SimB X d r env names A (forIn es true fun c r=>if r = true then do let ok ← isTrue c env (eval c env);pure (ForInStep.yield ok) else pure (ForInStep.yield r)) (tests ts):=by
 induction h with
 | nil=>
  intro T ρ s S H v S' e Q hQ
  obtain ⟨rfl,rfl⟩:=ret_some e
  exact wpAny_pure (Cont.here hQ (tk:=s.toks) H rfl)
 | @cons x t es ts h1 h2 ih=>
  intro T ρ s S H v S' e Q hQ
  obtain ⟨b,S1,e1,e⟩:=bnd_some e
  rw [List.forIn_cons]
  simp only [if_true]
  refine wpAny_bind (wpAny_bind (h1 T ρ s S H b S1 e1 _ fun T1 ρ1 h1 tk1 y X1 p1 H1 r1=>wpAny_pure ?_))
  rw [← show b = y from r1]
  cases b with
  | true=>exact ih T1 ρ1 _ S1 H1 v S' e Q (Cont.after hQ X1 p1)
  | false=>
   obtain ⟨rfl,rfl⟩:=ret_some e
   show wpAny _ _ (forIn es false _) _ _ _
   rw [forIn_false]
   exact wpAny_pure (Cont.here (Cont.after hQ X1 p1 (tk:=tk1)) (tk:=tk1) H1 rfl)
end
section
variable {X:Ctx} {d r:Nat} {env:Env} {names:List (Str × NameKind)} {A:Around}
noncomputable abbrev listObj (ys:List Value) (k:Nat):Obj:={ cls:=.type "list",data:=.seq ys.toArray k }
inductive PushI (X:Ctx) (d r:Nat) (env:Env) (names:List (Str × NameKind)) (T:TT) (ρ:List Addr) (S:SS) (h:Heap) (D:Addr) (hs:List Addr) (ys:List Value) (h':Heap):Prop
 | mk (k':Nat) (T':TT) (kp:∀ b o,b ≠ D->h.get? b = some o->h'.get? b = some o) (H:St X d r T' ρ env names S h') (hD:T' D = .itr (listObj ys k')) (no:∀ b ∈ hs,T' b = .no) (g:Grows T T') (x:Ext d r (unhold (unhold T hs) [D]) h (unhold T' [D]) h')
theorem comp_push {T:TT} {ρ:List Addr} {S:SS} {h:Heap} {D:Addr} {hs:List Addr} {ys:List Value} {k:Nat} (H:St X d r T ρ env names S h) (hD:T D = .itr (listObj ys k)) (itr:∀ b ∈ hs,∃ o,T b = .itr o) (nD:D ∉ hs) (z:Value) :
  PushI X d r env names T ρ S h D hs (ys++[z]) (h.update D (Obj.mapSeq (·.push z))):=by
 have gD:=H.w.itr _ _ hD
 obtain ⟨k',hk'⟩:=mapSeq_exact (·.push z) ys.toArray k
 have hnew:(h.update D (Obj.mapSeq (·.push z))).get? D = some (listObj (ys++[z]) k'):=by
  rw [Heap.get?_update_self _ gD (by rw [hk'];rfl),hk',List.push_toArray]
 have kp:∀ b o,b ≠ D->h.get? b = some o->(h.update D (Obj.mapSeq (·.push z))).get? b = some o:=fun b o hb e=>(Heap.get?_update_ne _ _ _ _ hb).trans e
 have itrD:∀ b ∈ [D],∃ o,unhold T hs b = .itr o:=fc ⟨_,(unhold_out nD).trans hD⟩ fnil
 have hDn:unhold (unhold T hs) [D] D = .no:=unhold_in (List.mem_singleton_self _)
 have kpD:Keeps' (unhold (unhold T hs) [D]) h (h.update D (Obj.mapSeq (·.push z))):=fun b o n e=>kp b o (fun q=>n (q ▸ hDn)) e
 have eq:unhold (tset (unhold (unhold T hs) [D]) D (.itr (listObj (ys++[z]) k'))) [D] = unhold (unhold T hs) [D]:=by
  funext b
  by_cases q:b ∈ [D]
  ·exact (unhold_in q).trans (unhold_in q).symm
  ·exact (unhold_out q).trans (tset_ne fun e=>q (e ▸ List.mem_singleton_self _))
 refine ⟨k',_,kp,((H.unhold itr).unhold itrD).newI hDn kpD hnew,tset_self,fun b m=>?_,fun b o q=>Grows.tset hDn b o (unhold_grows itrD b o (unhold_grows itr b o q)),by rw [eq];exact Ext.keep kpD⟩
 have nb:b ≠ D:=fun q=>nD (q ▸ m)
 exact (tset_ne nb).trans ((unhold_out fun q=>nb (List.mem_singleton.mp q)).trans (unhold_in m))
inductive CompAt (X:Ctx) (d r:Nat) (env:Env) (names:List (Str × NameKind)) (T:TT) (ρ:List Addr) (s:Shared) (tg:Tg) (cs:List (M Bool)) (f:M V) (D:Addr) (hs:List Addr) (l:List V) (Wst:Nat->Heap->Prop) (xs:List V) (Sf:SS) (n:Nat) (s':Shared):Prop
 | mk (k:Nat) (hk:k + n = l.length) (T1:TT) (ρ1:List Addr) (S1:SS) (h1:Heap) (tk1:Nat) (acc:List V) (ys:List Value) (kk:Nat) (rest:List V) (e:s' = { s with heap:=h1,toks:=tk1 }) (x:Ext d r (unhold T [D]) s.heap (unhold T1 [D]) h1) (g:Grows T T1) (p:ρ <+: ρ1)
  (H:St X d r T1 ρ1 env names S1 h1) (hD:T1 D = .itr (listObj ys kk)) (rv:VRels X T1 ρ1 acc ys) (st:Wst k h1) (no:∀ b ∈ hs,T1 b = .no) (q:compGo tg cs f (l.drop k) S1 = some (rest,Sf)) (ha:acc++rest = xs)
theorem room_of {acc ws xs:List V} {w:V} (h:acc++w :: ws = xs) (hl:xs.length<=lim):acc.length < sizeLine:=by
 have a:xs.length = acc.length + (ws.length + 1):=by rw [← h,List.length_append,List.length_cons]
 exact Nat.lt_of_lt_of_le (Nat.lt_of_lt_of_le (Nat.lt_add_of_pos_right (Nat.succ_pos _)) (a ▸ hl)) sizeLine_lim
theorem comp_core (hh:A.handled = none) {t iter elt:Expr} {ifs:List Expr} {scope:Scope} {pos:Pos} {tg:Tg} (htg:tgtOf names t = some tg) {pd:Bool} (hfit:tg.fits pd = true) {cs:List (M Bool)} {f:M V}
  (hcs:SimTs X d r env names A ifs cs) (hf:SimV X d r env names A (eval elt env) f) {T0 T:TT} {ρ0 ρ:List Addr} {s:Shared} {S Sf:SS} {I D:Addr} {fp hs:List Addr} {l:List V} {Wst Mid} (W:Wk X A T0 ρ0 t I fp hs l pd Wst Mid) (g0:Grows T0 T) (p0:ρ0 <+: ρ)
  (H:St X d r T ρ env names S s.heap) {k0:Nat} (hD:T D = .itr (listObj [] k0)) (hst:Wst 0 s.heap) (hno:∀ b ∈ hs,T b = .no) (hfp:∀ b ∈ fp,b ∉ hs->∃ o,T b = .fro o) {xs:List V} (e:compGo tg cs f l S = some (xs,Sf)) (hlim:xs.length<=lim)
  {R:Result->Shared->Prop} (hR:∀ T' ρ' h tk ys k,Ext d r (unhold T [D]) s.heap (unhold T' [D]) h->St X d r T' ρ' env names Sf h->T' D = .itr (listObj ys k)->VRels X T' ρ' xs ys->R (.ok .next) { s with heap:=h,toks:=tk }) :
  codeAny (model X.prog X.w) A (.compLoop (.ListComp elt [⟨t,iter,ifs,0⟩] scope pos) 0 (.ref I) (.ref D) env) R s:=by
 refine codeAny_compLoop_go (CompAt X d r env names T ρ s tg cs f D hs l Wst xs Sf) (fun n s' hI=>?_) l.length
  ⟨0,Nat.zero_add _,T,ρ,S,s.heap,s.toks,[],[],k0,xs,rfl,Ext.refl,fun _ _ q=>q,List.prefix_refl _,H,hD,rfl,hst,hno,e,rfl⟩
 clear H hst hno e hD
 obtain ⟨k,hk,T1,ρ1,S1,h1,tk1,acc,ys,kk,rest,es,X1,g1,p1,H1,hD1,rv1,st1,hno1,e1,hacc⟩:=hI
 subst es
 cases n with
 | zero=>
  have hk:k = l.length:=hk
  rw [hk] at st1 e1
  rw [List.drop_length] at e1
  obtain ⟨k1,k2⟩:=ret_some e1
  subst k1 k2
  refine W.done _ _ st1 fun h' tk kk=>?_
  have kp:Keeps' T1 h1 h':=fun b o n e=>kk b o (fun m=>n (hno1 b m)) e
  have kp2:Keeps' (unhold T1 [D]) h1 h':=fun b o n e=>kp b o (fun z=>n (by by_cases q:b ∈ [D];exact unhold_in q;exact (unhold_out q).trans z)) e
  rw [List.append_nil] at hacc
  subst hacc
  exact hR T1 ρ1 h' tk ys _ (X1.trans (Ext.keep kp2)) (H1.keep kp) hD1 rv1
 | succ n=>
  clear hR
  have hlt:k < l.length:=hk ▸ Nat.lt_add_of_pos_right (Nat.succ_pos n)
  have hk':k + 1 + n = l.length:=(Nat.succ_add_eq_add_succ k n).trans hk
  rw [List.drop_eq_getElem_cons hlt] at e1
  obtain ⟨x,S2,e2,e3⟩:=bnd_some e1
  obtain ⟨bb,S3,e4,e5⟩:=bnd_some e3
  clear e1 e3
  have hfp1:∀ b ∈ fp,b ∉ hs->∃ o,T1 b = .fro o:=fun b m n=>let ⟨o,ho⟩:=hfp b m n;⟨o,g1 b o ho⟩
  have nD:D ∉ hs:=fun m=>by rw [hno1 D m] at hD1;cases hD1
  have nF:D ∉ fp:=fun m=>by obtain ⟨o,q⟩:=hfp1 D m nD;rw [q] at hD1;cases hD1
  refine sim_turn (s:={ s with heap:=h1,toks:=tk1 }) hh htg hfit W (fun b o q=>g1 b o (g0 b o q)) (p0.trans p1) H1 st1 hno1 hfp1 (List.getElem?_eq_getElem hlt) e2 fun v s' hv=>?_
  refine hv _ fun T2 ρ2 h2 tk2 I2 p2 H2=>?_
  clear hv
  obtain ⟨itr2,X2,g2,st2⟩:=I2
  have kind2:∀ b ∈ fp,(∃ o,T2 b = .itr o) ∨ ∃ o,T2 b = .fro o:=fun b m=>by
   by_cases z:b ∈ hs
   ·exact .inl (itr2 b z)
   ·exact .inr (let ⟨o,q⟩:=hfp1 b m z;⟨o,g2 b o q⟩)
  have hD2:T2 D = .itr (listObj ys kk):=(unhold_out nD).symm.trans (X2.itr D _ hD1)
  clear hD1 hno1 st1 H1 hk hfp1 e2
  refine sim_tests hcs T2 ρ2 { s with heap:=h2,toks:=tk2 } S2 H2 bb S3 e4 _ fun T3 ρ3 h3 tk3 y X3 p3 H3 r3=>?_
  rw [← show bb = y from r3]
  cases bb with
  | false=>
   have itr3:∀ b ∈ hs,∃ o,T3 b = .itr o:=fun b m=>let ⟨o,q⟩:=itr2 b m;⟨o,X3.itr b o q⟩
   have g3:Grows T1 (unhold T3 hs):=fun b o q=>unhold_grows itr3 b o (X3.fro b o (g2 b o q))
   rw [if_neg Bool.false_ne_true]
   exact ⟨n,Nat.lt_succ_self _,k + 1,hk',unhold T3 hs,ρ3,S3,h3,tk3,acc,ys,kk,rest,rfl,X1.trans ((X2.trans (X3.unhold unhold_inv)).unhold unhold_inv),fun b o q=>g3 b o (g1 b o q),(p1.trans p2).trans p3,H3.unhold itr3,
    (unhold_out nD).trans (X3.itr D _ hD2),VRels.mono g3 (p2.trans p3) _ rv1,st2 h3 fun b m o q=>stay H2.w X3 H3.w (kind2 b m) q,fun b m=>unhold_in m,e5,hacc⟩
  | true=>
   rw [if_pos rfl]
   obtain ⟨w,S4,e6,e7⟩:=bnd_some e5
   obtain ⟨ws,S5,e8,e9⟩:=bnd_some e7
   obtain ⟨k1,k2⟩:=ret_some e9
   subst k1 k2
   clear e5 e7 e9 e4
   refine hf T3 ρ3 { s with heap:=h3,toks:=tk3 } S3 H3 w S4 e6 _ fun T4 ρ4 h4 tk4 z X4 p4 H4 r4=>?_
   replace X4:=X3.trans X4
   replace p4:=(p2.trans p3).trans p4
   clear H3 X3 p3 p2 r3 e6 hf hcs
   have hD4:=X4.itr D _ hD2
   have g4:Grows T1 T4:=fun b o q=>X4.fro b o (g2 b o q)
   have itr4:∀ b ∈ hs,∃ o,T4 b = .itr o:=fun b m=>let ⟨o,q⟩:=itr2 b m;⟨o,X4.itr b o q⟩
   have rv4:VRels X T4 ρ4 acc ys:=VRels.mono g4 p4 _ rv1
   obtain ⟨k',T5,kp,H5,hD5,no5,g5,X5⟩:=comp_push H4 hD4 itr4 nD z
   have gD:=H4.w.itr _ _ hD4
   have roomy:ys.toArray.size<=sizeLine:=Nat.le_of_lt (Nat.lt_of_le_of_lt (Nat.le_of_eq (VRels.length _ rv4)) (room_of hacc hlim))
   refine call_meets (s:={ s with heap:=h4,toks:=tk4 }) PySem.F.slot_list_append ⟨_,gD,rfl⟩ PySem.F.entry_list_append (PySem.F.args_list_append_2 _ _) (list_append D ys.toArray kk z roomy) ⟨gD,n,Nat.lt_succ_self _,?_⟩
   exact ⟨k + 1,hk',T5,ρ4,S4,_,tk4,acc++[w],ys++[z],k',ws,rfl,(X1.trans ((X2.trans (X4.unhold unhold_inv)).unhold unhold_inv)).trans X5,fun b o q=>g5 b o (g4 b o (g1 b o q)),p1.trans p4,H5,hD5,
    VRels.mono g5 (List.prefix_refl _) _ (VRels.append _ _ rv4 ⟨z,[],rfl,r4,rfl⟩),st2 _ fun b m o q=>kp b o (fun e=>nF (e ▸ m)) (stay H2.w X4 H4.w (kind2 b m) q),no5,e8,by rw [List.append_assoc];exact hacc⟩
end
section
variable {X:Ctx} {d r:Nat} {env:Env} {names:List (Str × NameKind)} {A:Around}
theorem VRels.scals {T T':TT} {ρ ρ':List Addr} {l:List V}:∀ {xs:List Value},scals l = true->VRels X T ρ l xs->VRels X T' ρ' l xs:=by
 induction l with
 | nil=>intro xs _ h;exact h
 | cons v l ih=>
  intro xs n h
  obtain ⟨x,xs,e,a,b⟩:=h
  have n:=Bool.and_eq_true_iff.mp n
  exact ⟨x,xs,e,VRel.scal n.1 a,ih n.2 b⟩
theorem nrs_mem {l:List V}:nrs l = true->∀ u ∈ l,nr u = true:=by
 induction l with
 | nil=>intro _ u h;exact nomatch h
 | cons v l ih=>
  intro n u h
  have n:=Bool.and_eq_true_iff.mp n
  rcases List.mem_cons.mp h with e | h
  ·exact e ▸ n.1
  ·exact ih n.2 u h
noncomputable def cT (T:TT) (D C:Addr) (d:Nat):TT:=tset (tset T D (.itr (listObj [] 0))) C (.frm (d + 1))
section
variable {T T1:TT} {D C:Addr}
theorem cT_D (h:D ≠ C):cT T D C d D = .itr (listObj [] 0):=(tset_ne h).trans tset_self
theorem cT_old {b:Addr} (h:b ≠ D) (k:b ≠ C):cT T D C d b = T b:=(tset_ne k).trans (tset_ne h)
theorem cT_grows (hD:T D = .no) (hC:T C = .no):Grows T (cT T D C d):=fun b o q=>(cT_old (by rintro rfl;rw [hD] at q;cases q) (by rintro rfl;rw [hC] at q;cases q)).trans q
theorem cT_unhold (h:D ≠ C) (hD:T D = .no):unhold (cT T D C d) [D] = tset T C (.frm (d + 1)):=by
 funext b
 by_cases q:b ∈ [D]
 ·rw [unhold_in q,List.mem_singleton.mp q]
  exact ((tset_ne h).trans hD).symm
 ·rw [unhold_out q]
  by_cases z:b = C
  ·rw [z];exact tset_self.trans tset_self.symm
  ·exact (cT_old (fun e=>q (List.mem_singleton.mpr e)) z).trans (tset_ne z).symm
inductive LendJ (r:Nat) (T:TT) (h:Heap) (fp hs:List Addr) (q:Option Nat):Prop
 | mk (T1:TT) (l:Lent r T T1 h) (f:∀ b ∈ fp,b ∉ hs->∃ o,T1 b = .fro o) (e:q = none->T1 = T)
theorem lend_src {ρ:List Addr} {ob:OB} {nx:Nat} {h:Heap} {fp hs:List Addr} {q:Option Nat} (O:ORels X r T ρ ob nx h) (hfp:∀ b ∈ fp,b ∉ hs->LentA T ρ q b) (hob:∀ n,q = some n->∃ l,olook n ob = some (.list l)):LendJ r T h fp hs q:=by
 cases q with
 | none=>exact ⟨T,fun _=>.inl rfl,fun b m n=>(hfp b m n).resolve_right (fun ⟨n,e,_⟩=>no e),fun _=>rfl⟩
 | some n=>
  obtain ⟨lo,ho⟩:=hob n rfl
  obtain ⟨z,a,o,vs,w1,w2,w3,w4,w5⟩:=O.obj n _ ho
  refine ⟨tset T a (.fro o),fun b=>?_,fun b m nb=>?_,fun z=>no z.symm⟩
  ·by_cases zb:b = a
   ·rw [zb];exact .inr ⟨n,o,w2,tset_self,w3⟩
   ·exact .inl (tset_ne zb)
  ·by_cases zb:b = a
   ·rw [zb];exact ⟨o,tset_self⟩
   ·rcases hfp b m nb with ⟨o,h⟩ | ⟨n',q1,q2⟩
    ·exact ⟨o,(tset_ne zb).trans h⟩
    ·rw [← Option.some.inj q1] at q2
     exact absurd (Option.some.inj (q2.symm.trans w1)) zb
inductive StartI (X:Ctx) (d r:Nat) (env:Env) (names:List (Str × NameKind)) (T:TT) (sl:List (Option V)) (scope:Scope) (h h3:Heap) (D C:Addr):Prop
 | mk (H:St X (d + 1) (r + 1) (cT T D C d) [] (compEnvC scope (clOf env scope.names []) C env) scope.names ⟨inner (cpOf names scope.names) sl,[],0⟩ h3) (old:∀ b o,h.get? b = some o->h3.get? b = some o) (hD:T D = .no) (hC:T C = .no) (ne:D ≠ C) (lt:∀ b o,h.get? b = some o->b ≠ D/\b ≠ C)
theorem comp_start {ρ:List Addr} {sl:List (Option V)} {h h3:Heap} {scope:Scope} (W:WRel X T h) (F:FRel X d T ρ env names sl h) (cap:capOk names scope.names = true) (hk:scope.kind = .function)
  (hns:h3.Ns (h.push (listObj [] 0)).objs.size fun _=>none) (kp:∀ b o,(h.push (listObj [] 0)).get? b = some o->h3.get? b = some o):StartI X d r env names T sl scope h h3 h.objs.size (h.push (listObj [] 0)).objs.size:=by
 have fr1:=W.fresh
 have kp1:=Keeps'.push W (listObj [] 0)
 have W2:WRel X (tset T h.objs.size (.itr (listObj [] 0))) (h.push (listObj [] 0)):=W.tag fr1 kp1 (Heap.get?_push_size _ rfl) (fun o q=>by cases q) fun o q=>by cases q;rfl
 have F2:=F.tag (t:=.itr (listObj [] 0)) (List.prefix_refl _) fr1 kp1
 have sz:(h.push (listObj [] 0)).objs.size = h.objs.size + 1:=Heap.size_push ..
 have fr2:=W2.fresh
 have ne:h.objs.size ≠ (h.push (listObj [] 0)).objs.size:=by rw [sz];exact Nat.ne_of_lt (Nat.lt_succ_self _)
 obtain ⟨oC,hoC⟩:∃ o,h3.get? (h.push (listObj [] 0)).objs.size = some o:=let ⟨o,_,_,q,_⟩:=hns;⟨o,q⟩
 exact ⟨⟨W2.tag fr2 (Keeps'.of kp) hoC (fun o q=>by cases q) (fun o q=>by cases q),comp_frame F2 cap hk fr2 (get_size _) kp hns,ORels.nil⟩,fun b o q=>kp b o (Heap.get?_push_of_some _ q),fr1,(tset_ne (Ne.symm ne)).symm.trans fr2,ne,
  fun b o q=>⟨Nat.ne_of_lt (Heap.lt_size q),by rw [sz];exact Nat.ne_of_lt (Nat.lt_succ_of_lt (Heap.lt_size q))⟩⟩
inductive CompR (X:Ctx) (d r:Nat) (T:TT) (h:Heap) (xs:List V) (T':TT) (h':Heap) (D C:Addr):Prop
 | mk (ys:List Value) (k:Nat) (m:Str->Option Value) (x:Ext (d + 1) (r + 1) T h T' h') (W:WRel X T' h') (hD:T' D = .no) (gD:h'.get? D = some (listObj ys k)) (rv:∀ ρ,VRels X T' ρ xs ys) (tC:T C = .no) (hC:T' C = .frm (d + 1)) (ns:h'.Ns C m)
theorem comp_end {T4:TT} {ρ4:List Addr} {env4:Env} {names4:List (Str × NameKind)} {Sf:SS} {h h3 h4:Heap} {xs:List V} {ys:List Value} {k:Nat} {q:Option Nat} (L:Lent r T T1 h) (W:WRel X T h) (hT:q = none->T1 = T) (hD:T1 D = .no) (hC:T1 C = .no) (ne:D ≠ C) (hTD:T D = .no)
  (old:∀ b o,h.get? b = some o->h3.get? b = some o) (X4:Ext (d + 1) (r + 1) (unhold (cT T1 D C d) [D]) h3 (unhold T4 [D]) h4) (H4:St X (d + 1) (r + 1) T4 ρ4 env4 names4 Sf h4) (eC:env4.locals = C) (hD4:T4 D = .itr (listObj ys k)) (rv:VRels X T4 ρ4 xs ys) (hok:compOk q xs = true) :
  ∃ T',CompR X d r T h xs T' h4 D C:=by
 have itrD:∀ b ∈ [D],∃ o,T4 b = .itr o:=fc ⟨_,hD4⟩ fnil
 rw [cT_unhold ne hD] at X4
 obtain ⟨T6,X6,W6,same⟩:=L.back W ((Ext.tset hC (Keeps'.of old)).trans X4) (H4.unhold itrD).w
 have hTC:T C = .no:=by
  rcases L C with z | ⟨n,o,_,z,_⟩
  ·exact z.symm.trans hC
  ·rw [hC] at z;cases z
 obtain ⟨m,ns,_⟩:=H4.f.ns
 refine ⟨T6,ys,k,m,X6,W6,(same _ (hD.trans hTD.symm)).trans (unhold_in (List.mem_singleton_self _)),H4.w.itr _ _ hD4,fun ρ=>?_,hTC,(same _ (hC.trans hTC.symm)).trans ((unhold_out fun m=>ne (List.mem_singleton.mp m).symm).trans (eC ▸ H4.f.loc)),eC ▸ ns⟩
 cases q with
 | none=>
  rw [show T6 = unhold T4 [D] from funext fun b=>same b (by rw [hT rfl])]
  exact VRels.any _ hok (VRels.mono (unhold_grows itrD) (List.prefix_refl _) _ rv)
 | some n=>exact VRels.scals hok rv
end
theorem comp_block {t iter elt:Expr} {ifs:List Expr} {scope:Scope} {pos:Pos} {tg:Tg} (hh:A.handled = none) (htg:tgtOf scope.names t = some tg) {cs:List (M Bool)} {f:M V}
  (hin:∀ env',Kinds env' scope.names->SimTs X (d + 1) (r + 1) env' scope.names A ifs cs/\SimV X (d + 1) (r + 1) env' scope.names A (eval elt env') f) (cap:capOk names scope.names = true) (hk:scope.kind = .function)
  {T:TT} {ρ:List Addr} {s:Shared} {S:SS} {I:Addr} {p:Sq} (H:St X d r T ρ env names S s.heap) (hsrc:SrcR X t T ρ S.ob s.heap p I) {xs:List V} (e:compRun (cpOf names scope.names) tg p cs f S.sl = some xs) (hlim:xs.length<=lim) {RR:Value->Addr->Result->Shared->Prop}
  (hRR:∀ T' h' tk' D C,CompR X d r T s.heap xs T' h' D C->RR (.ref D) C (.ok .next) { s with heap:=h',toks:=tk' }) :
  wpAny (model X.prog X.w) A (newList []) (fun acc s₃=>wpAny (model X.prog X.w) A (newFunctionEnv scope env.globals (clOf env scope.names []) [] env.qual none .none (some env)) (fun cenv s₄=>
   codeAny (model X.prog X.w) A (.compStart (.ListComp elt [⟨t,iter,ifs,0⟩] scope pos) 0 (.ref I) acc { cenv with scope:=relabel scope env }) (RR acc cenv.locals) s₄) (fun _ _=>False) s₃) (fun _ _=>False) s:=by
 obtain ⟨hfit,e⟩:=ii e
 obtain ⟨hp,hfit⟩:=Bool.and_eq_true_iff.mp hfit
 obtain ⟨⟨xs',Sf⟩,hgo,e⟩:=bi e
 obtain ⟨hok,e⟩:=ii e
 have k:=Option.some.inj e
 clear e
 dsimp only at k hok
 subst k
 obtain ⟨fp,hs,Wst,Mid,W0,st,hno,hsub,hfp,hob⟩:=hsrc
 obtain ⟨T1,L,hfp1,hT1⟩:=lend_src H.o hfp hob
 refine wpAny_newList ?_ (Nat.zero_le _)
 refine wpAny_newFunctionEnv (fun x hx q=>by have c:=List.all_eq_true.mp cap x hx;rw [q] at c;exact nob c) (fun _ m=>nomatch m) (fun h3 hns hsb=>?_) hk
 obtain ⟨St3,old,hD,hC,ne,lt⟩:=comp_start (r:=r) (L.wrel H.w) (H.f.mono L.grows (List.prefix_refl _) (fun a e q _=>L.same q (by intro _ z;cases z)) fun _ _ _ _ _ q=>q) cap hk hns fun b o q=>hsb.extBut b o (Nat.ne_of_lt (Heap.lt_size q)) (Heap.get?_push_of_some _ q)
 clear hns hsb cap hk
 dsimp only
 have g3:Grows T (cT T1 s.heap.objs.size (s.heap.push (listObj [] 0)).objs.size d):=fun b o q=>cT_grows hD hC b o (L.grows b o q)
 have W':=(W0 A hh).mono (T':=cT T1 s.heap.objs.size (s.heap.push (listObj [] 0)).objs.size d) (ρ':=[]) (fun u hu v rv=>VRel.any _ (nrs_mem hp u hu) (VRel.mono g3 (List.prefix_refl _) u rv)) (fun us hu vs rv=>VRels.any _ (show nr (.tup us) = true from nrs_mem hp _ hu) (VRels.mono g3 (List.prefix_refl _) us rv))
 have st3:Wst 0 h3:=W'.frame _ _ _ st fun b _ o q=>old b o q
 have lv:=W'.live 0 _ st
 obtain ⟨hcs,hf⟩:=hin (compEnvC scope (clOf env scope.names []) (s.heap.push (listObj [] 0)).objs.size env) comp_kinds
 have loop:∀ s3:Shared,s3 = { s with heap:=h3,toks:=s.toks + ([]:List (Str × Value)).length }->codeAny (model X.prog X.w) A (.compLoop (.ListComp elt [⟨t,iter,ifs,0⟩] scope pos) 0 (.ref I) (.ref s.heap.objs.size) (compEnvC scope (clOf env scope.names []) (s.heap.push (listObj [] 0)).objs.size env))
   (RR (.ref s.heap.objs.size) (s.heap.push (listObj [] 0)).objs.size) s3:=by
  intro s3 es
  subst es
  refine comp_core (s:={ s with heap:=h3,toks:=s.toks + ([]:List (Str × Value)).length }) (D:=s.heap.objs.size) (k0:=0) hh htg hfit hcs hf W' (fun _ _ q=>q) (List.prefix_refl _) St3 (cT_D ne) st3 (fun b m=>?_) (fun b m n=>?_) hgo hlim fun T4 ρ4 h4 tk ys k X4 H4 hD4 rv4=>?_
  ·obtain ⟨o,ho⟩:=lv b m
   exact (cT_old (lt b o ho).1 (lt b o ho).2).trans (L.same (hno b m) (by intro _ z;cases z))
  ·obtain ⟨o,ho⟩:=hfp1 b m n
   exact ⟨o,cT_grows hD hC b o ho⟩
  ·obtain ⟨T6,R⟩:=comp_end (env4:=compEnvC scope (clOf env scope.names []) (s.heap.push (listObj [] 0)).objs.size env) L H.w hT1 hD hC ne H.w.fresh old X4 H4 rfl hD4 rv4 hok
   exact hRR T6 h4 tk _ _ R
 exact codeAny_compStart_list (loop _ rfl) (wpAny_mono (W'.self 0 { s with heap:=h3,toks:=s.toks + ([]:List (Str × Value)).length } _ st3 (loop _ rfl)) (fun _ _ q=>q) fun _ _ q=>q.elim)
inductive AfterI (X:Ctx) (d r:Nat) (env:Env) (names:List (Str × NameKind)) (T:TT) (ρ:List Addr) (h:Heap) (S':SS) (h':Heap) (D C:Addr) (v:V):Prop
 | mk (T2:TT) (ρ2:List Addr) (oC:Obj) (x:Ext d r T h T2 h') (p:ρ <+: ρ2) (H:St X d r T2 ρ2 env names S' h') (rv:VRel X T2 ρ2 v (.ref D)) (tC:T C = .no) (hI:T2 C = .itr oC) (ns:∀ h'':Heap,h''.get? C = some oC->∃ m,h''.Ns C m)
theorem comp_after {T T':TT} {ρ:List Addr} {S S':SS} {h h':Heap} (H:St X d r T ρ env names S h) {D C:Addr} {xs:List V} (R:CompR X d r T h xs T' h' D C) {b:Bool} {v:V} (e:mkL b xs S = some (v,S')):AfterI X d r env names T ρ h S' h' D C v:=by
 obtain ⟨ys,k,m,x,W,hD,gD,rv,tC,hC,⟨oC,es,ep,hoC,hdat⟩⟩:=R
 have up:∀ {a:Addr} {t:Tag},T' a = t->t ≠ .frm (d + 1)->tset T' C (.itr oC) a = t:=fun e n=>(tset_ne (by rintro rfl;exact n (e.symm.trans hC))).trans e
 have g:Grows T' (tset T' C (.itr oC)):=fun a o e=>up e (by intro z;cases z)
 have x2:Ext d r T h (tset T' C (.itr oC)) h':={
  fro:=fun a o q=>g a o (x.fro a o q)
  itr:=fun a o q=>up (x.itr a o q) (by intro z;cases z)
  frm:=fun a e q l=>up (x.frm a e q (Nat.le_succ_of_le l)) (by intro z;cases z;exact Nat.not_succ_le_self _ l)
  frmK:=fun a e o q l=>x.frmK a e o q (Nat.lt_succ_of_lt l)
  mu:=fun a e n q l=>up (x.mu a e n q (Nat.lt_succ_of_lt l)) (by intro z;cases z)
  muK:=fun a e n o q l=>x.muK a e n o q (Nat.lt_succ_of_lt l)
  md:=fun a e n q l=>up (x.md a e n q (Nat.lt_succ_of_lt l)) (by intro z;cases z)
  mdK:=fun a e n o q l=>x.mdK a e n o q (Nat.lt_succ_of_lt l)}
 have H2:St X d r (tset T' C (.itr oC)) ρ env names S h':=(H.across x W).tags (fun e _ _ n=>up e n) {
  fro:=fun a o q=>by
   by_cases z:a = C
   ·rw [z,tset_self] at q;cases q
   ·exact W.fro a o ((tset_ne z).symm.trans q)
  itr:=fun a o q=>by
   by_cases z:a = C
   ·rw [z,tset_self] at q;cases q;rw [z];exact hoC
   ·exact W.itr a o ((tset_ne z).symm.trans q)
  live:=fun a q=>by
   by_cases z:a = C
   ·rw [z];exact ⟨_,hoC⟩
   ·exact W.live a fun y=>q ((tset_ne z).trans y)
  base:=fun a o q=>g a o (W.base a o q)}
 have hDC:D ≠ C:=by rintro rfl;rw [hC] at hD;cases hD
 obtain ⟨T3,ρ3,x3,p3,H3,rv3⟩:=mkL_post H2 (VRels.mono g (List.prefix_refl _) _ (rv ρ)) e ((tset_ne hDC).trans hD) (fun _ _ _ q=>q) gD
 exact ⟨T3,ρ3,oC,x2.trans x3,p3,H3,rv3,tC,x3.itr C oC tset_self,fun h'' q=>⟨m,oC,es,ep,q,hdat⟩⟩
inductive DoneI (X:Ctx) (d r:Nat) (env:Env) (names:List (Str × NameKind)) (T:TT) (h:Heap) (T2:TT) (ρ2:List Addr) (S:SS) (h'':Heap):Prop
 | mk (T3:TT) (x:Ext d r T h T3 h'') (H:St X d r T3 ρ2 env names S h'') (g:Grows T2 T3)
theorem comp_done {T T2:TT} {ρ2:List Addr} {S:SS} {h h' h'':Heap} {C:Addr} {oC:Obj} (x:Ext d r T h T2 h') (hC:T C = .no) (H:St X d r T2 ρ2 env names S h') (hI:T2 C = .itr oC) (sb:Heap.SameBut C h' h''):DoneI X d r env names T h T2 ρ2 S h'':=by
 have itr:∀ b ∈ [C],∃ o,T2 b = .itr o:=fc ⟨_,hI⟩ fnil
 have kp:Keeps' (unhold T2 [C]) h' h'':=fun b o n e=>(sb.2 b (fun z=>n (by rw [z];exact unhold_in (List.mem_singleton_self _)))).trans e
 exact ⟨_,(x.unhold fun e n=>⟨off (fc hC fnil) e n,e⟩).trans (Ext.keep kp),(H.unhold itr).keep kp,unhold_grows itr⟩
section
variable {t i elt:Expr} {ifs:List Expr} {scope:Scope} {pos:Pos} {tg:Tg} {src:Src} {cs:List (M Bool)} {f:M V} {m:Bool}
theorem lookup_nodup {ns:List (Str × NameKind)}:(ns.map (·.1)).Nodup->∀ x ∈ ns,ns.lookup x.1 = some x.2:=by
 induction ns with
 | nil=>intro _ x hx;exact nomatch hx
 | cons p ns ih=>
  intro nd x hx
  rw [List.map_cons,List.nodup_cons] at nd
  rw [List.lookup_cons]
  rcases List.mem_cons.mp hx with e | hx
  ·rw [e,beq_self_eq_true]
  ·cases z:x.1 == p.1 with
   | true=>exact absurd (beq_iff_eq.mp z ▸ List.mem_map_of_mem hx) nd.1
   | false=>exact ih nd.2 x hx
theorem comp_names (nd:(scope.names.map (·.1)).Nodup):∀ x ∈ scope.names,x.2 = .local->scope.names.lookup x.1 = some .local:=fun x hx hl=>hl ▸ lookup_nodup nd x hx
theorem not_set {i:Expr} (hset:isSet i = false):∀ x,foldedSetIterable i env x = pure x:=fun x=>by
 unfold foldedSetIterable;cases i <;> first | rfl | exact nob hset.symm
theorem comp_wp (hh:A.handled = none) (htg:tgtOf scope.names t = some tg) (hset:isSet i = false) (hs:SimSrc X d r env names A t i src)
  (hin:∀ env',Kinds env' scope.names->SimTs X (d + 1) (r + 1) env' scope.names A ifs cs/\SimV X (d + 1) (r + 1) env' scope.names A (eval elt env') f) (cap:capOk names scope.names = true) (nd:(scope.names.map (·.1)).Nodup) (hk:scope.kind = .function)
  {T:TT} {ρ:List Addr} {s:Shared} {S S':SS} (H:St X d r T ρ env names S s.heap) {v:V} (e:eComp m (cpOf names scope.names) tg src cs f S = some (v,S')) {use:Option (Value->Sem Unit)} {Q:Value->Shared->Prop}
  (hQ:∀ T1 ρ1 h1 h' tk' D C,Ext d r T s.heap T1 h1->ρ <+: ρ1->AfterI X d r env names T1 ρ1 h1 S' h' D C v->compPost (model X.prog X.w) A (fun _ _=>False) use Q (.ref D) C (.ok .next) { s with heap:=h',toks:=tk' }) :
  wpAny (model X.prog X.w) A (comprehension (.ListComp elt [⟨t,i,ifs,0⟩] scope pos) scope env (firstIterPos [⟨t,i,ifs,0⟩] pos) (newList []) (firstAsync [⟨t,i,ifs,0⟩]) (firstIter [⟨t,i,ifs,0⟩] env) use) Q (fun _ _=>False) s:=by
 obtain ⟨p,S1,e1,e⟩:=bnd_some e
 obtain ⟨xs,hrun,e⟩:=bi e
 have hfit:tg.fits p.2.2 = true:=(Bool.and_eq_true_iff.mp (ii hrun).1).2
 have hclos:=closureFor_eq (env:=env) (scope:=scope) fun q hq hf=>by
  obtain ⟨n,k⟩:=q
  rw [show k = .free from hf] at hq
  obtain ⟨_,_,c,_,_,_,hc,_⟩:=free_cell H.f cap hq
  exact ⟨c,hc⟩
 show wpAny _ _ (comprehension _ scope env _ (newList []) false (eval i env) use) _ _ _
 refine wpAny_comprehension_free (g:=⟨t,i,ifs,0⟩) (gs:=[]) rfl (not_set hset) hclos hk (comp_names nd) ?_
 refine hs T ρ s S H p S1 e1 (fits_tup htg hfit) _ fun T1 ρ1 h1 tk1 I X1 p1 H1 hsrc=>?_
 exact comp_block (s:={ s with heap:=h1,toks:=tk1 }) (RR:=fun acc C=>compPost (model X.prog X.w) A (fun _ _=>False) use Q acc C) hh htg hin cap hk H1 hsrc hrun (mk_some e).1 fun T2 h2 tk2 D C R=>hQ T1 ρ1 h1 h2 tk2 D C X1 p1 (comp_after H1 R e)
theorem sim_ListComp (hh:A.handled = none) (htg:tgtOf scope.names t = some tg) (hset:isSet i = false) (hs:SimSrc X d r env names A t i src)
  (hin:∀ env',Kinds env' scope.names->SimTs X (d + 1) (r + 1) env' scope.names A ifs cs/\SimV X (d + 1) (r + 1) env' scope.names A (eval elt env') f) (cap:capOk names scope.names = true) (nd:(scope.names.map (·.1)).Nodup) (hk:scope.kind = .function) :
  SimV X d r env names A (eval (.ListComp elt [⟨t,i,ifs,0⟩] scope pos) env) (eComp m (cpOf names scope.names) tg src cs f):=by
 intro T ρ s S H v S' e Q hQ
 rw [eval_ListComp]
 refine comp_wp hh htg hset hs hin cap nd hk H e fun T1 ρ1 h1 h' tk' D C X1 p1 R=>?_
 obtain ⟨T',ρ',oC,X2,p2,H2,rv,hC,hI,hns⟩:=R
 obtain ⟨mm,hm⟩:=hns h' (H2.w.itr _ _ hI)
 refine ⟨mm,hm,fun h'' sb=>?_⟩
 obtain ⟨T3,X3,H3,g⟩:=comp_done X2 hC H2 hI sb
 exact hQ T3 ρ' h'' tk' _ (X1.trans X3) (p1.trans p2) H3 (VRel.mono g (List.prefix_refl _) _ rv)
theorem swaps_pure {x:Str} {p:Pos} {line:Nat}:∃ b:Bool,swapsWith (.ListComp elt [⟨t,i,ifs,0⟩] scope pos) (some (.Name x p)) line env = pure b:=⟨_,rfl⟩
theorem sim_AsgComp (hh:A.handled = none) {x:Str} {px spos:Pos} {tx:Tg} (htx:tgtOf names (.Name x px) = some tx) (htg:tgtOf scope.names t = some tg) (hset:isSet i = false) (hs:SimSrc X d r env names A t i src)
  (hin:∀ env',Kinds env' scope.names->SimTs X (d + 1) (r + 1) env' scope.names A ifs cs/\SimV X (d + 1) (r + 1) env' scope.names A (eval elt env') f) (cap:capOk names scope.names = true) (nd:(scope.names.map (·.1)).Nodup) (hk:scope.kind = .function) :
  SimS X d r env names A (exec (.Assign [.Name x px] (.ListComp elt [⟨t,i,ifs,0⟩] scope pos) spos) env) (sAsg tx (eComp m (cpOf names scope.names) tg src cs f)):=by
 intro T ρ s S H v S' e Q hQ
 obtain ⟨a,S1,e1,e⟩:=bnd_some e
 obtain ⟨u,S2,e2,e3⟩:=bnd_some e
 clear e
 obtain ⟨j,hj,k⟩:=mi htx
 subst k
 obtain ⟨b,hsw⟩:=swaps_pure (t:=t) (i:=i) (elt:=elt) (ifs:=ifs) (scope:=scope) (pos:=pos) (env:=env) (x:=x) (p:=px) (line:=spos.line)
 cases b with
 | false=>
  refine wpAny_Assign_Name (sim_ListComp hh htg hset hs hin cap nd hk T ρ s S H a S1 e1 _ fun T1 ρ1 h1 tk1 y X1 p1 H1 r1=>?_) hsw
  exact sim_store (s:={ s with heap:=h1,toks:=tk1 }) H1 hj r1 u S2 e2 _ fun T2 ρ2 h2 tk2 z X2 p2 H2 r2=>Cont.flow hQ e3 (X1.trans X2) (p1.trans p2) H2 .next
 | true=>
  rw [exec_Assign_Name_used _ _ _ _ hsw]
  refine wpAny_bind (wpAny_standAt (wpAny_bind ?_))
  show wpAny _ A (do let _ ← comprehension (.ListComp elt [⟨t,i,ifs,0⟩] scope pos) scope env _ (newList []) false (eval i env) (some (assign (.Name x px) env))) _ _ s
  refine wpAny_bind (wpAny_mono (comp_wp (Q:=fun _ s'=>Q .next s') (use:=some (assign (.Name x px) env)) hh htg hset hs hin cap nd hk H e1 fun T1 ρ1 h1 h' tk' D C X1 p1 R=>?_) (fun _ s' hq=>wpAny_pure (wpAny_pure hq)) fun _ _ e=>e)
  obtain ⟨T',ρ',oC,X2,p2,H2,rv,hC,hI,hns⟩:=R
  refine PyProof.Rows.assign_Name (sim_store (s:={ s with heap:=h',toks:=tk' }) H2 hj rv u S2 e2 _ fun T3 ρ3 h3 tk3 z X3 p3 H3 r3=>?_)
  have hI3:=X3.itr _ _ hI
  obtain ⟨mm,hm⟩:=hns h3 (H3.w.itr _ _ hI3)
  refine ⟨mm,hm,fun h'' sb=>?_⟩
  obtain ⟨T4,X4,H4,g⟩:=comp_done (X2.trans X3) hC H3 hI3 sb
  exact Cont.flow (h1:=h'') (tk1:=tk3) hQ e3 (X1.trans X4) ((p1.trans p2).trans p3) H4 .next
end
end
section
variable {X:Ctx} {d r:Nat} {env:Env} {names:List (Str × NameKind)} {A:Around}
structure CxOk (X:Ctx) (k:Nat) (cx:Cx):Prop where
 glob:cx.glob = X.P.glob
 meth:cx.meth = X.P.meth
 init:cx.init = X.P.init
 aok:cx.aok = X.P.aok
 rc:RawSim X k cx.rc
theorem CxOk.with {k:Nat} {cx:Cx} (C:CxOk X k cx) (ns:List (Str × NameKind)):CxOk X k { cx with names:=ns }:=⟨C.glob,C.meth,C.init,C.aok,C.rc⟩
noncomputable def EvOk (X:Ctx) (k:Nat) (e:Expr):Prop:=∀ cx m env A d r,CxOk X k cx->Kinds env cx.names->Room1 A k->SimV X d r env cx.names A (eval e env) (ev e cx m)
noncomputable def TrOk (X:Ctx) (k:Nat) (e:Expr):Prop:=∀ cx env A d r,CxOk X k cx->Kinds env cx.names->Room1 A k->SimB X d r env cx.names A (isTrue e env (eval e env)) (tr e cx (ev e cx false))
noncomputable def SrcOk (X:Ctx) (k:Nat) (e:Expr):Prop:=∀ t cx env A d r,CxOk X k cx->Kinds env cx.names->Room1 A k->SimSrc X d r env cx.names A t e (src e cx (ev e cx false))
structure AllOk (X:Ctx) (k:Nat) (e:Expr):Prop where
 ev:EvOk X k e
 tr:TrOk X k e
 src:SrcOk X k e
theorem Sim.tail {t:Sem Value} {pos:Pos} {f:M V} (h:SimV X d r env names A t f):SimV X d r env names A (do let x ← t;standAt pos;pure x) f:=by
 intro T ρ s S H v S' e Q hQ
 exact wpAny_bind (h T ρ s S H v S' e _ fun T1 ρ1 h1 tk1 x X1 p1 H1 r1=>wpAny_bind (wpAny_standAt (wpAny_pure (hQ T1 ρ1 h1 tk1 x X1 p1 H1 r1))))
theorem sim_frz {t:Sem Value} {f:M V} (h:SimV X d r env names A t f):SimV X d r env names A t (eFrz f):=by
 intro T ρ s S H v S' e Q hQ
 obtain ⟨a,S1,e1,e⟩:=bnd_some e
 obtain ⟨xs,S2,e2,e⟩:=bnd_some e
 refine h T ρ s S H a S1 e1 _ fun T1 ρ1 h1 tk1 y X1 p1 H1 r1=>?_
 obtain ⟨T2,X2,H2,r2,_⟩:=freeze_sound H1 (vs:=[a]) (ys:=[y]) ⟨y,[],rfl,r1,rfl⟩ e2
 cases xs with
 | nil=>exact no e
 | cons x xs=>cases xs with
  | cons _ _=>exact no e
  | nil=>
   obtain ⟨k1,k2⟩:=ret_some e
   subst k1 k2
   obtain ⟨z,hz,rz⟩:=r2.one
   rw [List.head_eq_of_cons_eq hz]
   exact hQ T2 ρ1 h1 tk1 _ (X1.trans X2) p1 H2 rz
theorem Sims.frz {ts:List (Sem Value)} {fs:List (M V)} (h:Sims X d r env names A ts fs):Sims X d r env names A ts (fs.map eFrz):=by
 induction h with
 | nil=>exact .nil
 | cons a _ ih=>exact .cons (sim_frz a) ih
section
variable {α β γ:Type} {t:Sem β} {f:M α} {R:TT->List Addr->α->β->Prop}
theorem sim_if {p:Prop} [Decidable p] (h:p->Sim X d r env names A t f R):Sim X d r env names A t (if p then f else lift none) R:=by
 by_cases q:p
 ·rw [if_pos q];exact h q
 ·rw [if_neg q];exact sim_lift_none
theorem sim_in {p:Prop} [Decidable p] (h:¬ p->Sim X d r env names A t f R):Sim X d r env names A t (if p then lift none else f) R:=by
 by_cases q:p
 ·rw [if_pos q];exact sim_lift_none
 ·rw [if_neg q];exact h q
theorem sim_ite {p:Prop} [Decidable p] {g:M α} (h:p->Sim X d r env names A t f R) (k:¬ p->Sim X d r env names A t g R):Sim X d r env names A t (if p then f else g) R:=by
 by_cases q:p
 ·rw [if_pos q];exact h q
 ·rw [if_neg q];exact k q
theorem sim_opt {o:Option γ} {f:γ->M α} (h:∀ a,o = some a->Sim X d r env names A t (f a) R):Sim X d r env names A t (optM o f) R:=by
 cases o with
 | none=>exact sim_lift_none
 | some a=>exact h a rfl
theorem sim_plain {es:List Expr} (h:es.any isStar = false->Sim X d r env names A t f R):Sim X d r env names A t (plain es f) R:=sim_in fun q=>h (Bool.eq_false_iff.mpr q)
end
theorem lts {n m a:Nat} (h:n = m) (k:a < m):a < n:=h ▸ k
theorem up1 {a x y:Nat} (h:a < x):a < x + y:=Nat.lt_add_right y h
theorem up2 {a x y z:Nat} (h:a < x):a < x + y + z:=up1 (up1 h)
theorem mem_size {α:Type} [SizeOf α] {a:α} {l:List α} {n:Nat} (h:sizeOf l < n) (m:a ∈ l):sizeOf a < n:=Nat.lt_trans (List.sizeOf_lt_of_mem m) h
section
variable {k:Nat} {cx:Cx}
theorem evs_ok (C:CxOk X k cx) (K:Kinds env cx.names) (R:Room1 A k) {es:List Expr}:(∀ e ∈ es,AllOk X k e)->Sims X d r env cx.names A (evalEach es env) (evs es cx):=by
 induction es with
 | nil=>intro _;exact .nil
 | cons e es ih=>intro h;exact .cons ((h e List.mem_cons_self).ev cx false env A d r C K R) (ih fun e' m=>h e' (List.mem_cons_of_mem _ m))
theorem evm_ok (C:CxOk X k cx) (K:Kinds env cx.names) (R:Room1 A k) {es:List Expr}:∀ {ms:List Bool},ms.length = es.length->(∀ e ∈ es,AllOk X k e)->Sims X d r env cx.names A (evalEach es env) (evm es ms cx):=by
 induction es with
 | nil=>intro ms _ _;exact .nil
 | cons e es ih=>
  intro ms l h
  cases ms with
  | nil=>exact nomatch l
  | cons m ms=>exact .cons ((h e List.mem_cons_self).ev cx m env A d r C K R) (ih (Nat.succ.inj l) fun e' m=>h e' (List.mem_cons_of_mem _ m))
theorem trs_ok (C:CxOk X k cx) (K:Kinds env cx.names) (R:Room1 A k) {es:List Expr}:(∀ e ∈ es,AllOk X k e)->SimTs X d r env cx.names A es (trs es cx):=by
 induction es with
 | nil=>intro _;exact .nil
 | cons e es ih=>intro h;exact .cons ((h e List.mem_cons_self).tr cx env A d r C K R) (ih fun e' m=>h e' (List.mem_cons_of_mem _ m))
theorem evo_ok (C:CxOk X k cx) (K:Kinds env cx.names) (R:Room1 A k) {o:Option Expr} (h:∀ e,o = some e->AllOk X k e):SimO X d r env cx.names A o (evo o cx):=by
 cases o with
 | none=>exact .none
 | some e=>exact .some ((h e rfl).ev cx false env A d r C K R)
theorem evks_ok (C:CxOk X k cx) (K:Kinds env cx.names) (R:Room1 A k) {pos:Pos} {ks:List (Option Expr)}:∀ {vs:List Expr},ks.all (·.isSome) = true->ks.length = vs.length->(∀ e,some e ∈ ks->AllOk X k e)->(∀ e ∈ vs,AllOk X k e) ->
  SimPs X d r env cx.names A (pairTrees ks vs env pos) (evks ks cx) (evs vs cx):=by
 induction ks with
 | nil=>
  intro vs a l h g
  cases vs with
  | nil=>exact .nil
  | cons _ _=>exact nomatch l
 | cons o ks ih=>
  intro vs a l h g
  cases vs with
  | nil=>exact nomatch l
  | cons v vs=>
   have a':=Bool.and_eq_true_iff.mp (List.all_cons.symm.trans a)
   cases o with
   | none=>exact nob a'.1
   | some e=>exact .cons ((h e List.mem_cons_self).ev cx false env A d r C K R) (((g v List.mem_cons_self).ev cx false env A d r C K R).tail) (ih a'.2 (Nat.succ.inj l) (fun e' m=>h e' (List.mem_cons_of_mem _ m)) fun e' m=>g e' (List.mem_cons_of_mem _ m))
end
theorem not_marks {op:CmpOp} {c:Expr} (h:isSet c = false):behindInMarks op c = false:=by
 cases c <;> first | rfl | exact nob h.symm
theorem set_none {c:Expr} {cx:Cx} {m:Bool} (h:isSet c = true):Mine.ev c cx m = lift none:=by
 cases c <;> first | rfl | exact nob h
theorem marks_or {op:CmpOp} {c:Expr} {cx:Cx}:behindInMarks op c = false ∨ Mine.ev c cx false = lift none:=by
 cases hs:isSet c with
 | false=>exact .inl (not_marks hs)
 | true=>exact .inr (set_none hs)
theorem Room1.u {k:Nat} (R:Room1 A k):A.units + 120<=cLine:=by have:=R.2.1;omega
noncomputable def Below (X:Ctx) (k:Nat) (e:Expr):Prop:=∀ e',sizeOf e' < sizeOf e->AllOk X k e'
section
variable {k:Nat} {cx:Cx}
theorem dict_ok (B:BF X) (C:CxOk X k cx) (K:Kinds env cx.names) (R:Room1 A k) {ks:List (Option Expr)} {vs:List Expr} {p:Pos} {m:Bool} (ih:Below X k (.Dict ks vs p)):SimV X d r env cx.names A (eval (.Dict ks vs p) env) (ev (.Dict ks vs p) cx m):=by
 refine sim_if fun hc=>?_
 obtain ⟨hc,h3⟩:=Bool.and_eq_true_iff.mp hc
 obtain ⟨h1,h2⟩:=Bool.and_eq_true_iff.mp hc
 have h2:=beq_iff_eq.mp h2
 refine sim_Dict (B:=B) h1 h2 (of_decide_eq_true h3) (evks_ok C K R h1 h2 (fun e m=>ih e ?_) fun e m=>ih e (mem_size (lts (Expr.Dict.sizeOf_spec _ _ _) (up1 (Nat.lt_add_of_pos_left (up1 Nat.one_pos)))) m))
 have h:=List.sizeOf_lt_of_mem m
 exact Nat.lt_trans (lts (Option.some.sizeOf_spec _) (Nat.lt_add_of_pos_left Nat.one_pos)) (Nat.lt_trans h (lts (Expr.Dict.sizeOf_spec _ _ _) (up2 (Nat.lt_add_of_pos_left Nat.one_pos))))
theorem comp_ok (C:CxOk X k cx) (K:Kinds env cx.names) (R:Room1 A k) {elt t i:Expr} {ifs:List Expr} {a:Int} {scope:Scope} {p:Pos} {m:Bool} (ih:Below X k (.ListComp elt [⟨t,i,ifs,a⟩] scope p)) :
  SimV X d r env cx.names A (eval (.ListComp elt [⟨t,i,ifs,a⟩] scope p) env) (ev (.ListComp elt [⟨t,i,ifs,a⟩] scope p) cx m):=by
 refine sim_if fun hc=>sim_opt fun tg htg=>?_
 obtain ⟨hc,h4⟩:=Bool.and_eq_true_iff.mp hc
 obtain ⟨hc,h3⟩:=Bool.and_eq_true_iff.mp hc
 obtain ⟨hc,h2⟩:=Bool.and_eq_true_iff.mp hc
 obtain ⟨h0,h1⟩:=Bool.and_eq_true_iff.mp hc
 have h0:=of_decide_eq_true h0
 subst h0
 have g:sizeOf (⟨t,i,ifs,0⟩:Comprehension) < sizeOf (Expr.ListComp elt [⟨t,i,ifs,0⟩] scope p):=mem_size (lts (Expr.ListComp.sizeOf_spec _ _ _ _) (up2 (Nat.lt_add_of_pos_left (up1 Nat.one_pos)))) List.mem_cons_self
 exact sim_ListComp R.2.2 htg ((Bool.not_eq_true' _).mp h4) ((ih i (Nat.lt_trans (lts (Comprehension.mk.sizeOf_spec _ _ _ _) (up2 (Nat.lt_add_of_pos_left (up1 Nat.one_pos)))) g)).src t cx env A d r C K R)
  (fun env' K'=>⟨trs_ok (cx:={ cx with names:=scope.names }) (C.with _) K' R fun e m=>ih e (mem_size (Nat.lt_trans (lts (Comprehension.mk.sizeOf_spec _ _ _ _) (up1 (Nat.lt_add_of_pos_left (up2 Nat.one_pos)))) g) m),
   (ih elt (lts (Expr.ListComp.sizeOf_spec _ _ _ _) (up1 (up2 (Nat.lt_add_of_pos_left Nat.one_pos))))).ev { cx with names:=scope.names } false env' A (d + 1) (r + 1) (C.with _) K' R⟩) h1 (of_decide_eq_true h2) (beq_iff_eq.mp h3)
theorem empty_is {as:List Expr} (h:emptyList as = true):∃ p,as = [.List [] p]:=by
 cases as with
 | nil=>exact nob h
 | cons a as=>cases as with
  | cons _ _=>cases a <;> first | exact nob h | (rename_i es p;cases es <;> exact nob h)
  | nil=>cases a with
   | List es p=>cases es with
    | nil=>exact ⟨p,rfl⟩
    | cons _ _=>exact nob h
   | _=>exact nob h
theorem args_ok {as:List Expr} {fs:List (M V)} (h:Sims X d r env names A (evalEach as env) fs) {n:Str} {mu:List Str}:Sims X d r env names A (evalEach as env) (argsOf n mu as fs):=by
 unfold argsOf
 by_cases q:n = "append"
 ·rw [if_pos q]
  by_cases q:emptyList as = true
  ·rw [if_pos q]
   obtain ⟨p',e⟩:=empty_is q
   subst e
   exact .cons (sim_List (m:=true) (fs:=[]) .nil) .nil
  ·rw [if_neg q]
   by_cases q:muName mu as = true
   ·rw [if_pos q];exact h.frz
   ·rw [if_neg q];exact h
 ·rw [if_neg q];exact h
theorem meth_ok (B:BC X) (C:CxOk X k cx) (K:Kinds env cx.names) (R:Room1 A k) {o:Expr} {n:Str} {ap p:Pos} {as:List Expr} {m:Bool} (ih:Below X k (.Call (.Attribute o n ap) as [] p)) :
  SimV X d r env cx.names A (eval (.Call (.Attribute o n ap) as [] p) env) (ev (.Call (.Attribute o n ap) as [] p) cx m):=by
 refine sim_if fun hc=>sim_plain fun hp=>?_
 obtain ⟨hc,h3⟩:=Bool.and_eq_true_iff.mp hc
 obtain ⟨h1,h2⟩:=Bool.and_eq_true_iff.mp hc
 exact sim_Meth B C.rc R.room C.meth ((Bool.not_eq_true' _).mp h2) h1 (of_decide_eq_true h3) hp ((ih o (Nat.lt_trans (lts (Expr.Attribute.sizeOf_spec _ _ _) (up2 (Nat.lt_add_of_pos_left Nat.one_pos))) (lts (Expr.Call.sizeOf_spec _ _ _ _) (up1 (up2 (Nat.lt_add_of_pos_left Nat.one_pos)))))).ev cx false env A d r C K R)
  (args_ok (evs_ok C K R fun e m=>ih e (mem_size (lts (Expr.Call.sizeOf_spec _ _ _ _) (up2 (Nat.lt_add_of_pos_left (up1 Nat.one_pos)))) m)))
theorem globV_some {x:Str} {q:Pos} {v:V} (C:CxOk X k cx) (h:globV cx (.Name x q) = some v):∃ y,X.P.glob y = some v:=by
 obtain ⟨_,h⟩:=ni h
 obtain ⟨_,h⟩:=ii h
 exact ⟨x,C.glob ▸ h⟩
theorem call_ok (B:BC X) (C:CxOk X k cx) (K:Kinds env cx.names) (R:Room1 A k) {x:Str} {q p:Pos} {as:List Expr} {m:Bool} (ih:Below X k (.Call (.Name x q) as [] p)) :
  SimV X d r env cx.names A (eval (.Call (.Name x q) as [] p) env) (ev (.Call (.Name x q) as [] p) cx m):=by
 refine sim_plain fun hp=>?_
 generalize hg:globV cx (.Name x q) = o
 cases o with
 | none=>exact sim_lift_none
 | some v=>
  have hgl:=globV_some C hg
  cases v with
  | st y=>
   intro T ρ s S H u S' e Q hQ
   refine callN_wp B.toBF rfl C.glob hg H fun T1 ρ1 h1 tk1 X1 p1 H1=>?_
   exact sim_callOf B C.rc R C.init rfl hgl hp (evs_ok C K R fun e m=>ih e (mem_size (lts (Expr.Call.sizeOf_spec _ _ _ _) (up2 (Nat.lt_add_of_pos_left (up1 Nat.one_pos)))) m)) T1 ρ1 { s with heap:=h1,toks:=tk1 } S H1 u S' e Q (Cont.after hQ X1 p1)
  | _=>exact sim_lift_none
theorem slice_ok (C:CxOk X k cx) (K:Kinds env cx.names) (R:Room1 A k) {o:Expr} {lo hi st:Option Expr} {p2 p:Pos} {m:Bool} (ih:Below X k (.Subscript o (.Slice lo hi st p2) p)) (ho:SimV X d r env cx.names A (eval o env) (ev o cx false)) :
  SimV X d r env cx.names A (eval (.Subscript o (.Slice lo hi st p2) p) env) (ev (.Subscript o (.Slice lo hi st p2) p) cx m):=by
 have g:sizeOf (Expr.Slice lo hi st p2) < sizeOf (Expr.Subscript o (.Slice lo hi st p2) p):=lts (Expr.Subscript.sizeOf_spec _ _ _) (up1 (Nat.lt_add_of_pos_left (up1 Nat.one_pos)))
 cases st with
 | none=>
  refine sim_Slice ho (evo_ok C K R fun e m=>ih e (Nat.lt_trans ?_ g)) (evo_ok C K R fun e m=>ih e (Nat.lt_trans ?_ g))
  ·rw [m];exact Nat.lt_trans (lts (Option.some.sizeOf_spec _) (Nat.lt_add_of_pos_left Nat.one_pos)) (lts (Expr.Slice.sizeOf_spec _ _ _ _) (up1 (up2 (Nat.lt_add_of_pos_left Nat.one_pos))))
  ·rw [m];exact Nat.lt_trans (lts (Option.some.sizeOf_spec _) (Nat.lt_add_of_pos_left Nat.one_pos)) (lts (Expr.Slice.sizeOf_spec _ _ _ _) (up2 (Nat.lt_add_of_pos_left (up1 Nat.one_pos))))
 | some e=>
  have bad:SimV X d r env cx.names A (eval (.Subscript o (.Slice lo hi (some e) p2) p) env) (eSub (ev o cx false) (ev (.Slice lo hi (some e) p2) cx false)):=sim_Subscript ho sim_lift_none (.inl rfl)
  cases lo with
  | some _=>exact bad
  | none=>
   cases hi with
   | some _=>exact bad
   | none=>exact sim_if fun hn=>sim_Rev hn ho
end
theorem ev_step (B:BC X) {k:Nat} {e:Expr} (ih:Below X k e):EvOk X k e:=by
 intro cx m env A d r C K R
 have E:=fun e' m (h:sizeOf e' < sizeOf e)=>(ih e' h).ev cx m env A d r C K R
 cases e with
 | Constant c q p=>exact sim_const
 | Name x p=>exact sim_name B.toBF C.glob rfl rfl
 | BoolOp op vs p=>exact sim_boolOp (evs_ok C K R fun e m=>ih e (mem_size (lts (Expr.BoolOp.sizeOf_spec _ _ _) (up1 (Nat.lt_add_of_pos_left (up1 Nat.one_pos)))) m))
 | BinOp l op rr p=>exact sim_BinOp (E l false (lts (Expr.BinOp.sizeOf_spec _ _ _ _) (up1 (up2 (Nat.lt_add_of_pos_left Nat.one_pos))))) (E rr false (lts (Expr.BinOp.sizeOf_spec _ _ _ _) (up1 (Nat.lt_add_of_pos_left (up2 Nat.one_pos)))))
 | UnaryOp op x p=>
  cases op with
  | USub=>exact sim_Neg (E x false (lts (Expr.UnaryOp.sizeOf_spec _ _ _) (up1 (Nat.lt_add_of_pos_left (up1 Nat.one_pos)))))
  | _=>exact sim_lift_none
 | IfExp t b o p=>exact sim_IfExp ((ih t (lts (Expr.IfExp.sizeOf_spec _ _ _ _) (up1 (up2 (Nat.lt_add_of_pos_left Nat.one_pos))))).tr cx env A d r C K R) (E b m (lts (Expr.IfExp.sizeOf_spec _ _ _ _) (up2 (Nat.lt_add_of_pos_left (up1 Nat.one_pos))))) (E o m (lts (Expr.IfExp.sizeOf_spec _ _ _ _) (up1 (Nat.lt_add_of_pos_left (up2 Nat.one_pos)))))
 | Dict ks vs p=>exact dict_ok B.toBF C K R ih
 | List es p=>exact sim_List (evs_ok C K R fun e m=>ih e (mem_size (lts (Expr.List.sizeOf_spec _ _) (up1 (Nat.lt_add_of_pos_left Nat.one_pos))) m))
 | Tuple es q p=>exact sim_Tuple (evs_ok C K R fun e m=>ih e (mem_size (lts (Expr.Tuple.sizeOf_spec _ _ _) (up2 (Nat.lt_add_of_pos_left Nat.one_pos))) m))
 | ListComp elt gens scope p=>
  cases gens with
  | nil=>exact sim_lift_none
  | cons g gs=>
   obtain ⟨t,i,ifs,a⟩:=g
   cases gs with
   | nil=>exact comp_ok C K R ih
   | cons _ _=>exact sim_lift_none
 | Compare l ops cs p=>
  cases ops with
  | nil=>exact sim_lift_none
  | cons op ops=>
   cases ops with
   | cons _ _=>exact sim_lift_none
   | nil=>
    cases cs with
    | nil=>exact sim_lift_none
    | cons c cs=>
     cases cs with
     | cons _ _=>exact sim_lift_none
     | nil=>exact sim_Compare R.u (E l false (lts (Expr.Compare.sizeOf_spec _ _ _ _) (up1 (up2 (Nat.lt_add_of_pos_left Nat.one_pos))))) (E c false (mem_size (lts (Expr.Compare.sizeOf_spec _ _ _ _) (up1 (Nat.lt_add_of_pos_left (up2 Nat.one_pos)))) List.mem_cons_self)) marks_or
 | Call fn as kw p=>
  cases fn with
  | Attribute o n ap=>
   cases kw with
   | cons _ _=>exact sim_lift_none
   | nil=>exact meth_ok B C K R ih
  | Name x q=>
   cases kw with
   | cons _ _=>exact sim_lift_none
   | nil=>exact call_ok B C K R ih
  | _=>exact sim_lift_none
 | Attribute o n p=>exact sim_in fun hs=>sim_Attribute B.toBA (Bool.eq_false_iff.mpr hs) (E o false (lts (Expr.Attribute.sizeOf_spec _ _ _) (up2 (Nat.lt_add_of_pos_left Nat.one_pos))))
 | Subscript o i p=>
  have ho:=E o false (lts (Expr.Subscript.sizeOf_spec _ _ _) (up2 (Nat.lt_add_of_pos_left Nat.one_pos)))
  cases i with
  | Slice lo hi st p2=>exact slice_ok C K R ih ho
  | _=>exact sim_Subscript ho (E _ false (lts (Expr.Subscript.sizeOf_spec _ _ _) (up1 (Nat.lt_add_of_pos_left (up1 Nat.one_pos))))) (.inr fun _ _=>rfl)
 | _=>exact sim_lift_none
end
section
variable {X:Ctx} {d r:Nat} {env:Env} {names:List (Str × NameKind)} {A:Around}
theorem tr_step {k:Nat} {e:Expr} (ih:Below X k e) (he:EvOk X k e):TrOk X k e:=by
 intro cx env A d r C K R
 have me:=he cx false env A d r C K R
 have E:=fun e' (h:sizeOf e' < sizeOf e)=>(ih e' h).ev cx false env A d r C K R
 have Tr:=fun e' (h:sizeOf e' < sizeOf e)=>(ih e' h).tr cx env A d r C K R
 cases e with
 | UnaryOp op x p=>
  cases op with
  | Not=>exact sim_Not (Tr x (lts (Expr.UnaryOp.sizeOf_spec _ _ _) (up1 (Nat.lt_add_of_pos_left (up1 Nat.one_pos)))))
  | _=>exact sim_tVal me rfl
 | BoolOp op vs p=>exact sim_allTrue (trs_ok C K R fun e m=>ih e (mem_size (lts (Expr.BoolOp.sizeOf_spec _ _ _) (up1 (Nat.lt_add_of_pos_left (up1 Nat.one_pos)))) m))
 | IfExp t b o p=>exact sim_tIf (Tr t (lts (Expr.IfExp.sizeOf_spec _ _ _ _) (up1 (up2 (Nat.lt_add_of_pos_left Nat.one_pos))))) (Tr b (lts (Expr.IfExp.sizeOf_spec _ _ _ _) (up2 (Nat.lt_add_of_pos_left (up1 Nat.one_pos))))) (Tr o (lts (Expr.IfExp.sizeOf_spec _ _ _ _) (up1 (Nat.lt_add_of_pos_left (up2 Nat.one_pos)))))
 | Compare l ops cs p=>
  have hl:=E l (lts (Expr.Compare.sizeOf_spec _ _ _ _) (up1 (up2 (Nat.lt_add_of_pos_left Nat.one_pos))))
  have hm:∀ c ∈ cs,SimV X d r env cx.names A (eval c env) (ev c cx false):=fun c m=>E c (mem_size (lts (Expr.Compare.sizeOf_spec _ _ _ _) (up1 (Nat.lt_add_of_pos_left (up2 Nat.one_pos)))) m)
  cases ops with
  | nil=>exact sim_lift_none
  | cons op ops=>
   cases ops with
   | nil=>
    cases cs with
    | nil=>exact sim_lift_none
    | cons c cs=>
     cases cs with
     | nil=>exact sim_tCmp R.u hl (hm c List.mem_cons_self) marks_or
     | cons _ _=>exact sim_lift_none
   | cons op2 ops=>
    cases ops with
    | cons _ _=>exact sim_lift_none
    | nil=>
     cases cs with
     | nil=>exact sim_lift_none
     | cons c cs=>
      cases cs with
      | nil=>exact sim_lift_none
      | cons c2 cs=>
       cases cs with
       | nil=>exact sim_in fun hs=>sim_tCmp2 R.u hl (hm c List.mem_cons_self) (hm c2 (List.mem_cons_of_mem _ List.mem_cons_self)) (not_marks (Bool.eq_false_iff.mpr hs))
       | cons _ _=>exact sim_lift_none
 | _=>exact sim_tVal me rfl
theorem star_none {a:Expr} {cx:Cx} {m:Bool} (h:isStar a = true):Mine.ev a cx m = lift none:=by
 cases a <;> first | rfl | exact nob h
theorem src_none {t i:Expr} {f:Src} (h:∀ S,f S = none):SimSrc X d r env names A t i f:=fun _ _ _ S _ p S' e=>no ((h S).symm.trans e)
theorem bnd_none {α β:Type} {f:M α} {g:α->M β} (h:∀ a S,g a S = none) (S:SS):bnd f g S = none:=by
 unfold bnd
 cases f S with
 | none=>rfl
 | some p=>exact h p.1 p.2
theorem kind_glob {cx:Cx} {f:Str} {q p:Pos} {as:List Expr} {s:String} (h:kindOfSrc cx (.Call (.Name f q) as [] p) = some s):globV cx (.Name f q) = some (.st (.type s)):=by
 obtain ⟨v,e,h⟩:=bi h
 exact type_some h ▸ e
theorem any1 {a:Expr} (h:isStar a = false):[a].any isStar = false:=by
 show (isStar a || false) = false
 rw [h];rfl
theorem any2 {a b:Expr} (h:isStar a = false) (g:isStar b = false):[a,b].any isStar = false:=by
 show (isStar a || (isStar b || false)) = false
 rw [h,g];rfl
section
variable {cx:Cx} {t:Expr} {f:Str} {q p:Pos} {a b:Expr} {i:Expr} {w:M V}
theorem src_1 (B:BF X) (g:cx.glob = X.P.glob) (ha:SimV X d r env cx.names A (eval a env) (ev a cx false)) (me:SimSrc X d r env cx.names A t (.Call (.Name f q) [a] [] p) (srcSeq w)):SimSrc X d r env cx.names A t (.Call (.Name f q) [a] [] p) (src (.Call (.Name f q) [a] [] p) cx w):=by
 show SimSrc X d r env cx.names A t _ (if kindOfSrc cx (.Call (.Name f q) [a] [] p) = some "range" then srcRng1 (ev a cx false) else if kindOfSrc cx (.Call (.Name f q) [a] [] p) = some "enumerate" then srcEnu (ev a cx false) else srcSeq w)
 by_cases h:kindOfSrc cx (.Call (.Name f q) [a] [] p) = some "range"
 ·rw [if_pos h]
  cases hs:isStar a with
  | true=>rw [star_none hs];exact src_none fun S=>rfl
  | false=>exact sim_srcRng1 B rfl g (kind_glob h) (any1 hs) ha
 ·rw [if_neg h]
  by_cases h:kindOfSrc cx (.Call (.Name f q) [a] [] p) = some "enumerate"
  ·rw [if_pos h]
   cases hs:isStar a with
   | true=>rw [star_none hs];exact src_none fun S=>rfl
   | false=>exact sim_srcEnu B rfl g (kind_glob h) (any1 hs) ha
  ·rw [if_neg h];exact me
theorem src_2 (B:BF X) (g:cx.glob = X.P.glob) (ha:SimV X d r env cx.names A (eval a env) (ev a cx false)) (hb:SimV X d r env cx.names A (eval b env) (ev b cx false)) (me:SimSrc X d r env cx.names A t (.Call (.Name f q) [a,b] [] p) (srcSeq w)) :
  SimSrc X d r env cx.names A t (.Call (.Name f q) [a,b] [] p) (src (.Call (.Name f q) [a,b] [] p) cx w):=by
 show SimSrc X d r env cx.names A t _ (if kindOfSrc cx (.Call (.Name f q) [a,b] [] p) = some "range" then srcRng (ev a cx false) (ev b cx false) else if kindOfSrc cx (.Call (.Name f q) [a,b] [] p) = some "zip" then srcZip (ev a cx false) (ev b cx false) else srcSeq w)
 have bad:∀ (k:V->V->M Sq),isStar a = true ∨ isStar b = true->∀ S,bnd (ev a cx false) (fun x=>bnd (ev b cx false) (k x)) S = none:=fun k h=>by
  rcases h with h | h
  ·rw [star_none h];exact fun S=>rfl
  ·rw [star_none h];exact bnd_none fun _ _=>rfl
 by_cases h:kindOfSrc cx (.Call (.Name f q) [a,b] [] p) = some "range"
 ·rw [if_pos h]
  cases hs:isStar a with
  | true=>exact src_none (bad _ (.inl hs))
  | false=>cases hs2:isStar b with
   | true=>exact src_none (bad _ (.inr hs2))
   | false=>exact sim_srcRng B rfl g (kind_glob h) (any2 hs hs2) ha hb
 ·rw [if_neg h]
  by_cases h:kindOfSrc cx (.Call (.Name f q) [a,b] [] p) = some "zip"
  ·rw [if_pos h]
   cases hs:isStar a with
   | true=>exact src_none (bad _ (.inl hs))
   | false=>cases hs2:isStar b with
    | true=>exact src_none (bad _ (.inr hs2))
    | false=>exact sim_srcZip B rfl g (kind_glob h) (any2 hs hs2) ha hb
  ·rw [if_neg h];exact me
end
theorem src_step (B:BC X) {k:Nat} {e:Expr} (ih:Below X k e) (he:EvOk X k e):SrcOk X k e:=by
 intro t cx env A d r C K R
 have me:=sim_srcSeq (t:=t) (he cx false env A d r C K R)
 cases e with
 | Call fn as kw p=>
  have E:∀ c ∈ as,SimV X d r env cx.names A (eval c env) (ev c cx false):=fun c m=>(ih c (mem_size (lts (Expr.Call.sizeOf_spec _ _ _ _) (up2 (Nat.lt_add_of_pos_left (up1 Nat.one_pos)))) m)).ev cx false env A d r C K R
  cases fn with
  | Name f q=>
   cases as with
   | nil=>exact me
   | cons a as=>
    cases as with
    | nil=>
     cases kw with
     | nil=>exact src_1 B.toBF C.glob (E a List.mem_cons_self) me
     | cons _ _=>exact me
    | cons b as=>
     cases as with
     | nil=>
      cases kw with
      | nil=>exact src_2 B.toBF C.glob (E a List.mem_cons_self) (E b (List.mem_cons_of_mem _ List.mem_cons_self)) me
      | cons _ _=>exact me
     | cons _ _=>exact me
  | _=>exact me
 | _=>exact me
theorem all_ok (B:BC X) {k n:Nat}:∀ {e:Expr},sizeOf e < n->AllOk X k e:=by
 induction n with
 | zero=>intro e h;exact absurd h (Nat.not_lt_zero _)
 | succ n ih=>
  intro e h
  have ih':Below X k e:=fun e' h'=>ih (Nat.lt_of_lt_of_le h' (Nat.le_of_lt_succ h))
  have a:=ev_step B ih'
  exact ⟨a,tr_step ih' a,src_step B ih' a⟩
theorem expr_ok (B:BC X) {k:Nat} (e:Expr):AllOk X k e:=all_ok B (Nat.lt_succ_self _)
noncomputable def ExOk (X:Ctx) (k:Nat) (s:Stmt):Prop:=∀ cx env A d r,CxOk X k cx->Kinds env cx.names->Room1 A k->SimS X d r env cx.names A (exec s env) (ex s cx)
theorem exs_ok {k:Nat} {cx:Cx} (C:CxOk X k cx) (K:Kinds env cx.names) (R:Room1 A k) {ss:List Stmt}:(∀ s ∈ ss,ExOk X k s)->SimS X d r env cx.names A (execs ss env) (exs ss cx):=by
 induction ss with
 | nil=>intro _;exact sim_nil
 | cons s ss ih=>intro h;exact sim_cons (h s List.mem_cons_self cx env A d r C K R) (ih fun s' m=>h s' (List.mem_cons_of_mem _ m))
theorem sim_bad {t:Sem Flow} {tg:Tg}:SimS X d r env names A t (sAsg tg (lift none)):=fun _ _ _ _ _ _ _ e=>no e
section
variable {k:Nat} {cx:Cx}
theorem asg_comp (B:BC X) (C:CxOk X k cx) (K:Kinds env cx.names) (R:Room1 A k) {x:Str} {p2 p pos:Pos} {elt:Expr} {gens:List Comprehension} {scope:Scope} {tg:Tg} {m:Bool} (htg:tgtOf cx.names (.Name x p2) = some tg) :
  SimS X d r env cx.names A (exec (.Assign [.Name x p2] (.ListComp elt gens scope pos) p) env) (sAsg tg (ev (.ListComp elt gens scope pos) cx m)):=by
 cases gens with
 | nil=>exact sim_bad
 | cons g gs=>
  obtain ⟨t,i,ifs,a⟩:=g
  cases gs with
  | cons _ _=>exact sim_bad
  | nil=>
   show SimS X d r env cx.names A _ (sAsg tg (if compC cx.names scope i a = true then optM (tgtOf scope.names t) fun tg=>eComp m (cpOf cx.names scope.names) tg (src i cx (ev i cx false)) (trs ifs { cx with names:=scope.names }) (ev elt { cx with names:=scope.names } false) else lift none))
   by_cases hc:compC cx.names scope i a = true
   ·rw [if_pos hc]
    generalize htg2:tgtOf scope.names t = o
    cases o with
    | none=>exact sim_bad
    | some tg2=>
     obtain ⟨hc,h4⟩:=Bool.and_eq_true_iff.mp hc
     obtain ⟨hc,h3⟩:=Bool.and_eq_true_iff.mp hc
     obtain ⟨hc,h2⟩:=Bool.and_eq_true_iff.mp hc
     obtain ⟨h0,h1⟩:=Bool.and_eq_true_iff.mp hc
     have h0:=of_decide_eq_true h0
     subst h0
     exact sim_AsgComp R.2.2 htg htg2 ((Bool.not_eq_true' _).mp h4) ((expr_ok B i).src t cx env A d r C K R)
      (fun env' K'=>⟨trs_ok (cx:={ cx with names:=scope.names }) (C.with _) K' R fun e m=>expr_ok B e,(expr_ok B elt).ev { cx with names:=scope.names } false env' A (d + 1) (r + 1) (C.with _) K' R⟩) h1 (of_decide_eq_true h2) (beq_iff_eq.mp h3)
   ·rw [if_neg hc];exact sim_bad
theorem asg_name (B:BC X) (C:CxOk X k cx) (K:Kinds env cx.names) (R:Room1 A k) {x:Str} {p2 p:Pos} {v:Expr}:SimS X d r env cx.names A (exec (.Assign [.Name x p2] v p) env) (ex (.Assign [.Name x p2] v p) cx):=by
 refine sim_opt fun tg htg=>?_
 have go:=fun (hc:isComp v = false)=>sim_AsgName (p:=p2) (pos:=p) hc htg ((expr_ok B (k:=k) v).ev cx (cx.mu.contains x) env A d r C K R)
 cases v with
 | ListComp elt gens scope pos=>exact asg_comp B C K R htg
 | SetComp _ _ _ _=>exact sim_bad
 | DictComp _ _ _ _ _=>exact sim_bad
 | _=>exact go rfl
theorem swap_len {es vs:List Expr} {xs ys:List Str} (h:swapOk es vs ys = some xs):vs.length = es.length:=by
 unfold swapOk at h
 obtain ⟨_,h⟩:=ni h
 obtain ⟨c,_⟩:=ni h
 exact beq_iff_eq.mp ((Bool.not_eq_false' _).mp (Bool.eq_false_iff.mpr c))
theorem asg_swap (B:BC X) (C:CxOk X k cx) (K:Kinds env cx.names) (R:Room1 A k) {es vs:List Expr} {q q2:Nat} {p2 p3 p:Pos} :
  SimS X d r env cx.names A (exec (.Assign [.Tuple es q p2] (.Tuple vs q2 p3) p) env) (ex (.Assign [.Tuple es q p2] (.Tuple vs q2 p3) p) cx):=by
 refine sim_ite (fun _=>sim_opt fun is h=>?_) fun h2=>sim_in fun hl'=>sim_opt fun tg ht=>?_
 ·obtain ⟨xs,hsw,hsl⟩:=bi h
  have T:=sim_Tuple (k:=q2) (pos:=p3) (evm_ok (d:=d) (r:=r) C K R (es:=vs) (ms:=es.map (mutT cx.mu)) (List.length_map _ |>.trans (swap_len hsw).symm) fun e m=>expr_ok B e)
  cases hp:vs.any isStar with
  | true=>
   rw [show plain vs (eTup (evm vs (es.map (mutT cx.mu)) cx)) = lift none from if_pos hp]
   exact fun T ρ s S H v S' e=>no e
  | false=>exact sim_AsgSwap K R.2.2 hp hsw hsl T
 ·have hl:=Decidable.not_not.mp hl'
  have T:=sim_Tuple (k:=q2) (pos:=p3) (evm_ok (d:=d) (r:=r) C K R (es:=vs) (ms:=es.map (mutT cx.mu)) (List.length_map _ |>.trans hl.symm) fun e m=>expr_ok B e)
  cases hp:vs.any isStar with
  | true=>
   rw [show plain vs (eTup (evm vs (es.map (mutT cx.mu)) cx)) = lift none from if_pos hp]
   exact fun T ρ s S H v S' e=>no e
  | false=>exact sim_AsgTup R.2.2 rfl (swapped_not (Bool.eq_false_iff.mpr h2)) ht T
theorem asg_ok (B:BC X) (C:CxOk X k cx) (K:Kinds env cx.names) (R:Room1 A k) {ts:List Expr} {v:Expr} {p:Pos}:SimS X d r env cx.names A (exec (.Assign ts v p) env) (ex (.Assign ts v p) cx):=by
 cases ts with
 | nil=>exact sim_lift_none
 | cons t ts=>
  cases ts with
  | cons _ _=>cases t with
   | Tuple _ _ _=>cases v <;> exact sim_lift_none
   | _=>exact sim_lift_none
  | nil=>
   have E:=fun (e:Expr) m=>(expr_ok B (k:=k) e).ev cx m env A d r C K R
   cases t with
   | Attribute o n p2=>exact sim_AsgAttr B.toBA C.aok (E o false) (E v _)
   | Subscript o i p2=>exact sim_AsgSub (E o false) (E i false) (E v false)
   | Name x p2=>exact asg_name B C K R
   | Tuple es q p2=>
    have other:(∀ vs q2 p3,v ≠ .Tuple vs q2 p3)->SimS X d r env cx.names A (exec (.Assign [.Tuple es q p2] v p) env) (if isComp v = true then lift none else optM (tgtOf cx.names (.Tuple es q p2)) fun tg=>sAsg tg (ev v cx false)):=fun hw=>
     sim_in fun hc=>sim_opt fun tg htg=>sim_AsgTup R.2.2 (Bool.eq_false_iff.mpr hc) (swapped_none hw) htg (E v false)
    cases v with
    | Tuple vs q2 p3=>exact asg_swap B C K R
    | _=>exact other (by intro _ _ _ z;cases z)
   | _=>exact sim_lift_none
end
theorem ex_step (B:BC X) {k:Nat} {st:Stmt} (ih:∀ s',sizeOf s' < sizeOf st->ExOk X k s'):ExOk X k st:=by
 intro cx env A d r C K R
 have E:=fun (e:Expr) m=>(expr_ok B (k:=k) e).ev cx m env A d r C K R
 have Tt:=fun (e:Expr)=>(expr_ok B (k:=k) e).tr cx env A d r C K R
 cases st with
 | Expr e p=>exact sim_in fun hc=>sim_Expr (Bool.eq_false_iff.mpr hc) (E e false)
 | Pass p=>exact sim_Pass
 | Break p=>exact sim_Break
 | Continue p=>exact sim_Continue
 | Return v p=>
  cases v with
  | none=>exact sim_Return0
  | some e=>exact sim_Return (E e cx.rm)
 | Assign ts v p=>exact asg_ok B C K R
 | If t b o p=>exact sim_If (Tt t) (exs_ok C K R fun s m=>ih s (mem_size (lts (Stmt.If.sizeOf_spec _ _ _ _) (up2 (Nat.lt_add_of_pos_left (up1 Nat.one_pos)))) m)) (exs_ok C K R fun s m=>ih s (mem_size (lts (Stmt.If.sizeOf_spec _ _ _ _) (up1 (Nat.lt_add_of_pos_left (up2 Nat.one_pos)))) m))
 | While t b o p=>
  cases o with
  | cons _ _=>exact sim_lift_none
  | nil=>exact sim_While (Tt t) (exs_ok C K R fun s m=>ih s (mem_size (lts (Stmt.While.sizeOf_spec _ _ _ _) (up2 (Nat.lt_add_of_pos_left (up1 Nat.one_pos)))) m))
 | For t i b o p=>
  cases o with
  | cons _ _=>exact sim_lift_none
  | nil=>exact sim_in fun hs=>sim_opt fun tg htg=>sim_For R.2.2 htg (Bool.eq_false_iff.mpr hs) ((expr_ok B (k:=k) i).src t cx env A d r C K R) (exs_ok C K R fun s m=>ih s (mem_size (lts (Stmt.For.sizeOf_spec _ _ _ _ _) (up2 (Nat.lt_add_of_pos_left (up2 Nat.one_pos)))) m))
 | _=>exact sim_lift_none
theorem stmt_ok (B:BC X) {k n:Nat}:∀ {st:Stmt},sizeOf st < n->ExOk X k st:=by
 induction n with
 | zero=>intro e h;exact absurd h (Nat.not_lt_zero _)
 | succ n ih=>intro e h;exact ex_step B fun e' h'=>ih (Nat.lt_of_lt_of_le h' (Nat.le_of_lt_succ h))
theorem body_ok (B:BC X) {k:Nat} {cx:Cx} (C:CxOk X k cx) (K:Kinds env cx.names) (R:Room1 A k) (ss:List Stmt):SimS X d r env cx.names A (execs ss env) (exs ss cx):=
 exs_ok C K R fun s _=>stmt_ok B (Nat.lt_succ_self _)
theorem kinds_eq {ns:List (Str × NameKind)} (h:env.kindOf = fun x=>ns.lookup x):Kinds env ns:=fun x=>by rw [h];exact ⟨Iff.rfl,id⟩
theorem raw_ok (B:BC X) (hfn:∀ a f,X.P.fn a = some f->FnOk X a f) (k:Nat):RawSim X k (Mine.call X.P k):=by
 induction k with
 | zero=>exact fun a args hp v hp' e=>no e
 | succ k ih=>exact tidy_raw <| rawSim_step B.toBF hfn fun a f hf env A d r hen R=>body_ok (cx:=X.P.cx f (Mine.call X.P k)) B ⟨rfl,rfl,rfl,rfl,ih⟩ (kinds_eq hen) R f.body
end
theorem peek_load {α β:Type} {K:Frag} {S:Setting} {f:α->Sem β} {a:Addr} {p:Option Value} {k:Obj->Sem α} {x:α} (ih:∀ o,peek K S (k o) = some x->peek K S (k o >>= f) = peek K S (f x)) (e:peek K S (.load a p k) = some x):peek K S (.load a p k >>= f) = peek K S (f x):=by
 show peek K S (Sem.load a p fun o=>k o >>= f) = _
 generalize peek K S (f x) = y at ih ⊢
 unfold peek at e ⊢
 generalize K.lookup a = q at e ⊢
 cases q with
 | some o=>exact ih o e
 | none=>exact no e
theorem peek_bind {α β:Type} {K:Frag} {S:Setting} {f:α->Sem β} (t:Sem α):∀ {a:α},peek K S t = some a->peek K S (t >>= f) = peek K S (f a):=by
 induction t with
 | pure b=>intro a e;exact congrArg (fun a=>peek K S (f a)) (Option.some.inj e)
 | rule _ k ih=>intro a e;exact ih () e
 | point _ k ih=>intro a e;exact ih () e
 | ask k ih=>intro a e;exact ih _ e
 | load a p k ih=>intro x e;exact peek_load (fun o=>ih o) e
 | _=>intro a e;exact no e
theorem zip_at {β:Type} {ps:List Str}:∀ {ws:List β} {i:Nat} {x:Str},ps.Nodup->ps[i]? = some x->(ps.zip ws).lookup x = ws[i]?:=by
 induction ps with
 | nil=>intro ws i x _ h;exact no h
 | cons p ps ih=>
  intro ws i x nd h
  have nd:=List.nodup_cons.mp nd
  cases ws with
  | nil=>rfl
  | cons w ws=>
   rw [List.zip_cons_cons,List.lookup_cons]
   cases i with
   | zero=>rw [beq_iff_eq.mpr (Option.some.inj h).symm];rfl
   | succ i=>
    have h':ps[i]? = some x:=h
    rw [beq_eq_false_iff_ne.mpr fun e:x = p=>nd.1 (e ▸ List.mem_of_getElem? h')]
    exact ih nd.2 h'
theorem lookup_snoc {β:Type} {x y:Str} {d:β} {s:List (Str × β)}:(s++[(y,d)]).lookup x = (s.lookup x).or (if x = y then some d else none):=by
 induction s with
 | nil=>
  show List.lookup x [(y,d)] = if x = y then some d else none
  rw [List.lookup_cons]
  by_cases h:x = y
  ·rw [if_pos h,beq_iff_eq.mpr h]
  ·rw [if_neg h,beq_eq_false_iff_ne.mpr h];rfl
 | cons p s ih=>
  rw [List.cons_append,List.lookup_cons,List.lookup_cons]
  cases x == p.1 with
  | true=>rfl
  | false=>exact ih
noncomputable def addDef (s:List (Str × Value)) (p:Str × Value):List (Str × Value):=if (s.lookup p.1).isNone then s++[(p.1,p.2)] else s
theorem add_lookup {x:Str} {s:List (Str × Value)} {p:Str × Value}:(addDef s p).lookup x = (s.lookup x).or (if x = p.1 then some p.2 else none):=by
 unfold addDef
 cases hk:s.lookup p.1 with
 | some v=>
  show s.lookup x = _
  cases hx:s.lookup x with
  | some u=>rfl
  | none=>rw [if_neg fun e=>by rw [e,hk] at hx;exact no hx.symm];rfl
 | none=>exact lookup_snoc
theorem fold_lookup {x:Str} {l:List (Str × Value)}:∀ {s:List (Str × Value)},(l.foldl addDef s).lookup x = (s.lookup x).or (l.lookup x):=by
 induction l with
 | nil=>intro s;exact (Option.or_none).symm
 | cons p l ih=>
  intro s
  rw [List.foldl_cons,ih,add_lookup,List.lookup_cons,Option.or_assoc]
  by_cases h:x = p.1
  ·rw [if_pos h,beq_iff_eq.mpr h];rfl
  ·rw [if_neg h,beq_eq_false_iff_ne.mpr h];rfl
theorem filterMap_zip {F:List (Str × Value)} {ps:List Str}:∀ {ws:List Value},ws.length = ps.length->(∀ (i:Nat) (x:Str),ps[i]? = some x->F.lookup x = ws[i]?)->ps.filterMap (fun n=>(F.lookup n).map fun v=>(n,v)) = ps.zip ws:=by
 induction ps with
 | nil=>intro ws _ _;rfl
 | cons p ps ih=>
  intro ws hl h
  cases ws with
  | nil=>exact nomatch hl
  | cons w ws=>
   rw [List.filterMap_cons,show F.lookup p = some w from h 0 p rfl,List.zip_cons_cons]
   exact congrArg ((p,w) :: ·) (ih (Nat.succ.inj hl) fun i x hx=>h (i + 1) x hx)
theorem forIn_fold {α β:Type} {f:α->β->Sem (ForInStep β)} {g:β->α->β} (h:∀ a b,f a b = pure (.yield (g b a))) {l:List α}:∀ {b:β},forIn l b f = pure (l.foldl g b):=by
 induction l with
 | nil=>intro b;rfl
 | cons a l ih=>intro b;rw [List.forIn_cons,h];exact ih
structure Plain1 (fd:FuncData):Prop where
 pos:fd.params.posonlyargs = []
 kwo:fd.params.kwonlyargs = []
 va:fd.params.vararg = none
 kw:fd.params.kwarg = none
 nd:(fd.params.args.map (·.arg)).Nodup
section
variable {a v m i:Nat}
theorem n1 (h:a<=v + m):a - (m - (m - a))<=v:=by
 rcases Nat.le_total a m with g | g
 ·rw [Nat.sub_sub_self g,Nat.sub_self];exact Nat.zero_le _
 ·rw [Nat.sub_eq_zero_of_le g,Nat.sub_zero];exact Nat.sub_le_of_le_add h
theorem n2 (h1:v<=a) (h2:a<=v + m):v + (m - (m + v - a)) = a:=by
 obtain ⟨c,e⟩:=Nat.exists_eq_add_of_le h1
 subst e
 rw [Nat.add_comm m v,Nat.add_sub_add_left,Nat.sub_sub_self (Nat.le_of_add_le_add_left h2)]
theorem n3 (h2:a<=v + m) (h3:v<=i):m - a + (i - (a - (m - (m - a)))) = m + v - a + (i - v):=by
 obtain ⟨j,e⟩:=Nat.exists_eq_add_of_le h3
 subst e
 rw [Nat.add_sub_cancel_left]
 rcases Nat.le_total a m with h | h
 ·rw [Nat.sub_sub_self h,Nat.sub_self,Nat.sub_zero,Nat.sub_add_comm h,Nat.add_assoc]
 ·obtain ⟨e,k⟩:=Nat.exists_eq_add_of_le h
  subst k
  rw [Nat.add_comm v m] at h2
  obtain ⟨c,k⟩:=Nat.exists_eq_add_of_le (Nat.le_of_add_le_add_left h2)
  subst k
  rw [Nat.sub_eq_zero_of_le h,Nat.sub_zero,Nat.zero_add,Nat.add_sub_cancel_left,Nat.add_assoc e c j,Nat.add_sub_cancel_left,← Nat.add_assoc m e c,Nat.add_sub_cancel_left]
end
section
variable {K:Frag} {S:Setting} {ps:List Str} {vals ds:List Value}
noncomputable def late (ps:List Str) (ds:List Value):List Value:=ds.drop (ds.length - ps.length)
noncomputable def first (ps:List Str) (ds:List Value):Nat:=ps.length - (late ps ds).length
theorem first_le (h2:ps.length<=vals.length + ds.length):first ps ds<=vals.length:=by
 unfold first late
 rw [List.length_drop];exact n1 h2
theorem none_missing (nd:ps.Nodup) (h2:ps.length<=vals.length + ds.length):(ps.take (first ps ds)).filter (fun n=>((ps.zip vals).lookup n).isNone) = []:=by
 refine List.filter_eq_nil_iff.mpr fun x hx=>?_
 obtain ⟨i,hi⟩:=List.mem_iff_getElem?.mp hx
 rw [List.getElem?_take] at hi
 obtain ⟨hlt,hi⟩:=ii hi
 rw [zip_at nd hi,List.getElem?_eq_getElem (Nat.lt_of_lt_of_le hlt (first_le h2))]
 exact Bool.false_ne_true
theorem bound_all (nd:ps.Nodup) (h1:vals.length<=ps.length) (h2:ps.length<=vals.length + ds.length) :
  ps.filterMap (fun n=>((((ps.drop (first ps ds)).zip (late ps ds)).foldl addDef (ps.zip vals)).lookup n).map fun v=>(n,v)) = ps.zip (vals++ds.drop (ds.length + vals.length - ps.length)):=by
 refine filterMap_zip (by rw [List.length_append,List.length_drop];exact n2 h1 h2) fun i x hx=>?_
 rw [fold_lookup,zip_at nd hx]
 rcases Nat.lt_or_ge i vals.length with hv | hv
 ·rw [List.getElem?_append_left hv,List.getElem?_eq_getElem hv];rfl
 ·have f:=Nat.le_trans (first_le h2) hv
  have hk:(ps.drop (first ps ds))[i - first ps ds]? = some x:=by rw [List.getElem?_drop,Nat.add_sub_cancel' f];exact hx
  rw [List.getElem?_eq_none hv,List.getElem?_append_right hv,zip_at (nd.sublist (List.drop_sublist _ _)) hk,List.getElem?_drop]
  unfold first late
  rw [List.length_drop,List.getElem?_drop,n3 h2 hv]
  rfl
theorem bind_core {d:Sem (Option (Array Value))} {r:Option (Array Value)} (hd:peek K S d = some r) (nd:ps.Nodup) (h1:vals.length<=ps.length) (h2:ps.length<=vals.length + (r.getD #[]).toList.length) {B1 B2:Option (Array Value)->Sem (List (Str × Value))}
  {f:Str × Value->List (Str × Value)->Sem (ForInStep (List (Str × Value)))} (hf:∀ a b,f a b = pure (.yield (addDef b a))) {k:List (Str × Value)->Sem (List (Str × Value))} (hk:∀ s,k s = pure ((ps++[]).filterMap fun n=>(s.lookup n).map fun v=>(n,v))) :
  peek K S (d >>= fun r=>if (decide (vals.length > ps.length) && true) = true then B1 r else if (!((ps.take (first ps (r.getD #[]).toList)).filter fun n=>((ps.zip vals).lookup n).isNone).isEmpty) = true then B2 r else
   forIn ((ps.drop (first ps (r.getD #[]).toList)).zip (late ps (r.getD #[]).toList)) (ps.zip vals) f >>= k) = some (ps.zip (vals++(r.getD #[]).toList.drop ((r.getD #[]).toList.length + vals.length - ps.length))):=by
 rw [peek_bind _ hd,if_neg (by rw [decide_eq_false (Nat.not_lt.mpr h1)];exact Bool.false_ne_true),none_missing nd h2,if_neg (c:=(!List.isEmpty ([]:List Str)) = true) Bool.false_ne_true,forIn_fold hf]
 show peek K S (k _) = _
 rw [hk,List.append_nil,bound_all nd h1 h2]
 rfl
theorem add_step (a:Str × Value) (b:List (Str × Value)):(if (b.lookup a.1).isNone = true then (pure (.yield (b++[(a.1,a.2)])):Sem (ForInStep (List (Str × Value)))) else pure (.yield b)) = pure (.yield (addDef b a)):=by
 unfold addDef
 by_cases h:(b.lookup a.1).isNone = true
 ·rw [if_pos h,if_pos h]
 ·rw [if_neg h,if_neg h]
end
theorem bind_peek {K:Frag} {S:Setting} {fd:FuncData} (Pl:Plain1 fd) {vals:List Value} {r:Option (Array Value)} (hd:peek K S (seqItems? fd.defaults) = some r)
  (h1:vals.length<=(fd.params.args.map (·.arg)).length) (h2:(fd.params.args.map (·.arg)).length<=vals.length + (r.getD #[]).toList.length) :
  peek K S (bindArgs fd ⟨vals,[]⟩) = some ((fd.params.args.map (·.arg)).zip (vals++(r.getD #[]).toList.drop ((r.getD #[]).toList.length + vals.length - (fd.params.args.map (·.arg)).length))):=by
 obtain ⟨p1,p2,p3,p4,nd⟩:=Pl
 obtain ⟨name,qn,⟨po,args,va,ko,kd,kw,de⟩,body,scope,globals,closure,dv,kwd,doc,pm,an,code,ct,b⟩:=fd
 dsimp only at p1 p2 p3 p4 nd hd h1 h2 ⊢
 subst p1 p2 p3 p4
 exact bind_core hd nd h1 h2 add_step fun s=>rfl
end Mine
end
noncomputable section
open PySem PySem.W PySem.Calls PyProof.Rows PySem.SeqAt
set_option backward.match.sparseCases false
namespace Mine
structure Hint where
 dfl:List V
 mu:List Str
 rm:Bool
 i:Nat
 j:Nat
structure Tab where
 glob:List (Str × V)
 meth:List (Addr × Str × Addr)
 init:List (Addr × Addr)
 aok:List (Addr × Str)
 kind:List (Addr × FK)
 mutA:List Str
 tid:List Addr
 fn:List (Addr × Hint)
noncomputable def funD:Data->Option FuncData
 | .func fd=>some fd
 | _=>none
noncomputable def seqD:Data->Option (List Value)
 | .seq vs _=>some vs.toList
 | _=>none
noncomputable def fldD:Data->Option (Array Value)
 | .fields vs=>some vs
 | _=>none
noncomputable def refV:Value->Option Addr
 | .ref a=>some a
 | _=>none
noncomputable def stmtsB:FuncBody->Option (List Stmt)
 | .stmts b=>some b
 | _=>none
noncomputable def defS:Stmt->Option (Arguments × List Stmt × Scope)
 | .FunctionDef _ a b _ _ _ sc _ _ _=>some (a,b,sc)
 | _=>none
noncomputable def clsS:Stmt->Option (List Stmt)
 | .ClassDef _ _ _ b _ _ _ _ _ _ _=>some b
 | _=>none
theorem funD_some {d:Data} {fd:FuncData} (h:funD d = some fd):d = .func fd:=by
 cases d <;> first | exact no h | exact congrArg Data.func (Option.some.inj h)
theorem fldD_some {d:Data} {vs:Array Value} (h:fldD d = some vs):d = .fields vs:=by
 cases d <;> first | exact no h | exact congrArg Data.fields (Option.some.inj h)
theorem refV_some {v:Value} {a:Addr} (h:refV v = some a):v = .ref a:=by
 cases v <;> first | exact no h | exact congrArg Value.ref (Option.some.inj h)
theorem stmtsB_some {b:FuncBody} {l:List Stmt} (h:stmtsB b = some l):b = .stmts l:=by
 cases b <;> first | exact no h | exact congrArg FuncBody.stmts (Option.some.inj h)
inductive SeqI (d:Data) (l:List Value):Prop
 | mk (vs:Array Value) (n:Nat) (e:d = .seq vs n) (q:vs.toList = l)
theorem seqD_some {d:Data} {l:List Value} (h:seqD d = some l):SeqI d l:=by
 cases d <;> first | exact no h | exact ⟨_,_,rfl,Option.some.inj h⟩
noncomputable def fnOf (K:Frag) (a:Addr) (h:Hint):Option Fn:=(K.lookup a).bind fun o=>(funD o.data).bind fun fd=>(stmtsB fd.body).map fun b=>⟨fd.params.args.map (·.arg),h.dfl,fd.scope.names,b,h.mu,h.rm⟩
noncomputable def fnAt (p:Program) (h:Hint):Option Fn:=((p.main.body[h.i]?).bind fun s=>if h.j = 0 then some s else (clsS s).bind fun b=>b[h.j - 1]?).bind fun s=>(defS s).map fun q=>⟨q.1.args.map (·.arg),h.dfl,q.2.2.names,q.2.1,h.mu,h.rm⟩
noncomputable def lookM (c:Addr) (n:Str):List (Addr × Str × Addr)->Option Addr
 | []=>none
 | (d,m,f) :: r=>if c = d/\n = m then some f else lookM c n r
noncomputable def Tab.pg (t:Tab) (K:Frag):Pg where
 glob x:=t.glob.lookup x
 meth c n:=lookM c n t.meth
 init c:=t.init.lookup c
 aok c n:=t.aok.contains (c,n)
 kind a:=(t.kind.lookup a).getD .pure
 mutA:=t.mutA
 tid a:=t.tid.contains a
 fn a:=(t.fn.lookup a).bind (fnOf K a)
noncomputable def Tab.pgP (t:Tab) (p:Program):Pg:={ t.pg [] with fn:=fun a=>(t.fn.lookup a).bind (fnAt p)}
noncomputable def isNoneV:Value->Bool
 | .none=>true
 | _=>false
noncomputable def isBoolV (b:Bool):Value->Bool
 | .bool c=>b == c
 | _=>false
noncomputable def isStV (y x:Value):Bool:=match y with
 | .ref a=>refV x == some a
 | .builtin a=>(match x with | .builtin b=>a == b | _=>false)
 | .type a=>(match x with | .type b=>a == b | _=>false)
 | _=>false
noncomputable def tupO (g:List Value->Bool) (o:Obj):Bool:=(match o.cls with | .type ty=>ty == "tuple" | _=>false) && o.dict.isNone && o.slots.size == 0 && (seqD o.data).elim false g
mutual
noncomputable def vOk (K:Frag):V->Value->Bool
 | .none,x=>isNoneV x
 | .bool b,x=>isBoolV b x
 | .int i,x=>Value.isInt i x
 | .str s,x=>Value.isStrOf s x
 | .tup l,x=>decide (l.length<=lim) && ((refV x).bind fun a=>K.lookup a).elim false (tupO (vOks K l))
 | .st y,x=>isStV y x
 | _,_=>false
noncomputable def vOks (K:Frag):List V->List Value->Bool
 | [],xs=>xs.isEmpty
 | v :: l,xs=>(xs.head?.elim false (vOk K v)) && vOks K l xs.tail
end
inductive ElI {α:Type} (o:Option α) (f:α->Bool):Prop
 | mk (a:α) (e:o = some a) (h:f a = true)
theorem el {α:Type} {o:Option α} {f:α->Bool} (h:o.elim false f = true):ElI o f:=by
 cases o with
 | none=>exact nob h
 | some a=>exact ⟨a,rfl,h⟩
theorem tt {a b:Bool} (h:(a && b) = true):a = true/\b = true:=Bool.and_eq_true_iff.mp h
theorem isStV_eq {y x:Value} (h:isStV y x = true):x = y:=by
 cases y with
 | ref a=>exact refV_some (beq_iff_eq.mp h)
 | builtin a=>cases x with
  | builtin b=>exact congrArg Value.builtin (beq_iff_eq.mp h).symm
  | _=>exact nob h
 | type a=>cases x with
  | type b=>exact congrArg Value.type (beq_iff_eq.mp h).symm
  | _=>exact nob h
 | _=>exact nob h
theorem isNoneV_eq {x:Value} (h:isNoneV x = true):x = .none:=by
 cases x <;> first | rfl | exact nob h
theorem isBoolV_eq {b:Bool} {x:Value} (h:isBoolV b x = true):x = .bool b:=by
 cases x <;> first | exact nob h | exact congrArg Value.bool (beq_iff_eq.mp h).symm
inductive TupO (g:List Value->Bool) (o:Obj):Prop
 | mk (vs:List Value) (q:seqObj "tuple" o vs) (h:g vs = true)
theorem tupO_at {g:List Value->Bool} {o:Obj} (h:tupO g o = true):TupO g o:=by
 obtain ⟨h,h4⟩:=tt h
 obtain ⟨h,h3⟩:=tt h
 obtain ⟨h1,h2⟩:=tt h
 obtain ⟨vs,e,h5⟩:=el h4
 obtain ⟨xs,n,e0,q⟩:=seqD_some e
 clear e
 obtain ⟨cls,dict,data,slots⟩:=o
 have e2:dict = none:=Option.isNone_iff_eq_none.mp h2
 have e3:slots = #[]:=Array.eq_empty_of_size_eq_zero (beq_iff_eq.mp h3)
 have e1:cls = .type "tuple":=by
  cases cls with
  | type ty=>exact congrArg Value.type (beq_iff_eq.mp h1)
  | _=>exact nob h1
 have e0:data = .seq xs n:=e0
 exact ⟨vs,⟨n,by rw [e0,e1,e2,e3,← q]⟩,h5⟩
section
variable {X:Ctx}
mutual
theorem vOk_rel (hK:X.K.In X.base) {T:TT} {ρ:List Addr} (hT:∀ a o,X.base.get? a = some o->T a = .fro o):∀ (v:V) {x:Value},vOk X.K v x = true->VRel X T ρ v x
 | .none,_,h=>isNoneV_eq h
 | .bool _,_,h=>isBoolV_eq h
 | .int _,_,h=>Value.isInt_shape h
 | .str _,_,h=>Value.isStrOf_shape h
 | .tup l,_,h=>by
  obtain ⟨h1,h2⟩:=tt h
  obtain ⟨o,e,h2⟩:=el h2
  obtain ⟨a,e1,e2⟩:=bi e
  obtain ⟨vs,q,h2⟩:=tupO_at h2
  exact ⟨of_decide_eq_true h1,a,o,vs,refV_some e1,hT _ _ (hK _ _ e2),q,vOks_rel hK hT l h2⟩
 | .lst _,_,h=>nob h
 | .dic _ _,_,h=>nob h
 | .ins _ _ _,_,h=>nob h
 | .ref _,_,h=>nob h
 | .st _,_,h=>isStV_eq h
theorem vOks_rel (hK:X.K.In X.base) {T:TT} {ρ:List Addr} (hT:∀ a o,X.base.get? a = some o->T a = .fro o):∀ (l:List V) {xs:List Value},vOks X.K l xs = true->VRels X T ρ l xs
 | [],_,h=>List.isEmpty_iff.mp h
 | v :: l,xs,h=>by
  obtain ⟨h1,h2⟩:=tt h
  obtain ⟨x,e,h3⟩:=el h1
  cases xs with
  | nil=>exact no e
  | cons y ys=>exact ⟨x,ys,congrArg (· :: ys) (Option.some.inj e),vOk_rel hK hT v h3,vOks_rel hK hT l h2⟩
end
noncomputable def gIn (K:Frag) (p:Str × V):Option (Option Value)->Bool
 | some (some y)=>vOk K p.2 y
 | some none=>(bootBuiltins p.1).elim false fun y=>p.1 != "__name__" && vOk K p.2 y
 | none=>false
noncomputable def refS:V->Option Addr
 | .st x=>refV x
 | _=>none
noncomputable def globOk (K:Frag) (p:Str × V):Bool:=gIn K p (nsIn K mainGlobals p.1) && (refS p.2).elim true fun a=>keepIn K (.ref a)
noncomputable def methOk (K:Frag) (p:Addr × Str × Addr):Bool:=plainGet K p.1 p.2.1 && findIn K (.ref p.1) p.2.1 == some (some (.ref p.2.2)) && isFn K (.ref p.2.2) && keepIn K (.ref p.2.2)
noncomputable def initOk (K:Frag) (p:Addr × Addr):Bool:=makesIn K p.1 && findIn K (.ref p.1) "__init__" == some (some (.ref p.2)) && isFn K (.ref p.2) && keepIn K (.ref p.1)
noncomputable def codeOk (K:Frag) (fd:FuncData):Bool:=(refV fd.code).elim false fun c=>(K.lookup c).elim false fun o=>(fldD o.data).elim false fun vs=>(vs[1]?).elim false (Value.isStrOf fd.qualname)
noncomputable def dflOk (K:Frag) (l:List V) (v:Value):Bool:=match v with
 | .ref d=>(K.lookup d).elim false fun o=>(seqD o.data).elim false (vOks K l)
 | .none=>l.isEmpty
 | _=>false
noncomputable def plainF (fd:FuncData):Bool:=fd.params.posonlyargs.isEmpty && fd.params.kwonlyargs.isEmpty && fd.params.vararg.isNone && fd.params.kwarg.isNone && decide (fd.params.args.map (·.arg)).Nodup
noncomputable def frameF (fd:FuncData):Bool:=fd.scope.kind == .function && !fd.scope.isCoroutine && !fd.scope.isGenerator && fd.closure.isEmpty && fd.globals == mainGlobals && fd.builtins == builtinsNs
noncomputable def namesF (fd:FuncData):Bool:=decide (fd.scope.names.map (·.1)).Nodup && fd.scope.names.all (fun p=>p.2 != .free) && (fd.params.args.map (·.arg)).all (fun x=>fd.scope.names.lookup x == some .local || fd.scope.names.lookup x == some .cell)
noncomputable def fnOk (K:Frag) (p:Addr × Hint):Bool:=(K.lookup p.1).elim false fun o=>(funD o.data).elim false fun fd=>frameF fd && plainF fd && namesF fd && codeOk K fd && dflOk K p.2.dfl fd.defaults
inductive SeqP (K:Frag) (l:List V) (v:Value):Prop
 | mk (r:Option (Array Value)) (e:∀ S,peek K S (seqItems? v) = some r) (h:vOks K l (r.getD #[]).toList = true)
theorem load_peek {K:Frag} {S:Setting} {d:Addr} {o:Obj} (h:K.lookup d = some o):peek K S (load d) = some o:=by
 unfold load peek
 rw [h]
 rfl
theorem seq_peek {K:Frag} {l:List V} {v:Value} (h:dflOk K l v = true):SeqP K l v:=by
 cases v with
 | ref d=>
  obtain ⟨o,e,h⟩:=el h
  obtain ⟨xs,e1,h⟩:=el h
  obtain ⟨vs,n,e2,q⟩:=seqD_some e1
  refine ⟨some vs,fun S=>?_,q ▸ h⟩
  unfold seqItems?
  refine (peek_bind _ (load_peek e)).trans ?_
  rw [e2];rfl
 | none=>exact ⟨none,fun S=>rfl,by rw [List.isEmpty_iff.mp h];rfl⟩
 | _=>exact nob h
inductive CodeI (K:Frag) (fd:FuncData):Prop
 | mk (h:∃ c o vs t,fd.code = .ref c/\K.lookup c = some o/\o.data = .fields vs/\vs[1]? = some (.str fd.qualname t))
theorem code_at {K:Frag} {fd:FuncData} (h:codeOk K fd = true):CodeI K fd:=by
 obtain ⟨c,e1,h⟩:=el h
 obtain ⟨o,e2,h⟩:=el h
 obtain ⟨vs,e3,h⟩:=el h
 obtain ⟨q,e4,h⟩:=el h
 obtain ⟨t,e⟩:=Value.isStrOf_shape h
 exact ⟨c,o,vs,t,refV_some e1,e2,fldD_some e3,e ▸ e4⟩
theorem plainF_at {fd:FuncData} (h:plainF fd = true):Plain1 fd:=by
 obtain ⟨h,h5⟩:=tt h
 obtain ⟨h,h4⟩:=tt h
 obtain ⟨h,h3⟩:=tt h
 obtain ⟨h1,h2⟩:=tt h
 exact ⟨List.isEmpty_iff.mp h1,List.isEmpty_iff.mp h2,Option.isNone_iff_eq_none.mp h3,Option.isNone_iff_eq_none.mp h4,of_decide_eq_true h5⟩
theorem fnOk_ok (hK:X.K.In X.base) {a:Addr} {h:Hint} {f:Fn} (hc:fnOk X.K (a,h) = true) (hf:fnOf X.K a h = some f):FnOk X a f:=by
 obtain ⟨o,hl,hf⟩:=bi hf
 obtain ⟨fd,hd,hf⟩:=bi hf
 obtain ⟨b,hb,hf⟩:=mi hf
 obtain ⟨o',hl',hc⟩:=el hc
 rw [← Option.some.inj (hl.symm.trans hl')] at hc
 obtain ⟨fd',hd',hc⟩:=el hc
 rw [← Option.some.inj (hd.symm.trans hd')] at hc
 clear hl' hd'
 subst hf
 obtain ⟨hc,c16⟩:=tt hc
 obtain ⟨hc,c15⟩:=tt hc
 obtain ⟨hc,n⟩:=tt hc
 obtain ⟨hc,p⟩:=tt hc
 obtain ⟨n,n3⟩:=tt n
 obtain ⟨n1,n2⟩:=tt n
 obtain ⟨hc,c6⟩:=tt hc
 obtain ⟨hc,c5⟩:=tt hc
 obtain ⟨hc,c4⟩:=tt hc
 obtain ⟨hc,c3⟩:=tt hc
 obtain ⟨c1,c2⟩:=tt hc
 have P:=plainF_at p
 obtain ⟨code⟩:=code_at c15
 obtain ⟨r,hp,hvs⟩:=seq_peek c16
 obtain ⟨oc,od,dt,sl⟩:=o
 refine ⟨⟨oc,od,fd,sl,(funD_some hd) ▸ hl,⟨stmtsB_some hb,rfl,beq_iff_eq.mp c1,(Bool.not_eq_true' _).mp c2,(Bool.not_eq_true' _).mp c3,List.isEmpty_iff.mp c4,beq_iff_eq.mp c5,beq_iff_eq.mp c6,code,?_⟩⟩,of_decide_eq_true n1,fun p hp e=>?_,fun x hx=>?_,P.nd⟩
 ·exact ⟨(r.getD #[]).toList,fun T ρ hT=>vOks_rel hK hT _ hvs,fun vals h1 h2 S=>bind_peek P (hp S) h1 h2⟩
 ·exact bne_iff_ne.mp (List.all_eq_true.mp n2 p hp) e
 ·exact (Bool.or_eq_true_iff.mp (List.all_eq_true.mp n3 x hx)).imp beq_iff_eq.mp beq_iff_eq.mp
noncomputable def Tab.check (t:Tab) (K:Frag):Bool:=t.glob.all (globOk K) && t.meth.all (methOk K) && t.init.all (initOk K) && t.aok.all (fun p=>attrIn K p.1 p.2) && t.fn.all (fnOk K)
theorem lookup_mem {α β:Type} [BEq α] [LawfulBEq α] {x:α} {v:β} {l:List (α × β)}:l.lookup x = some v->(x,v) ∈ l:=by
 induction l with
 | nil=>intro h;exact no h
 | cons p r ih=>
  intro h
  rw [List.lookup_cons] at h
  cases z:x == p.1 with
  | true=>
   rw [z] at h
   rw [beq_iff_eq.mp z,← Option.some.inj h];exact List.mem_cons_self
  | false=>rw [z] at h;exact List.mem_cons_of_mem _ (ih h)
theorem pg_eq {t:Tab} {K:Frag} {p:Program} (h:t.fn.map (fun x=>fnOf K x.1 x.2) = t.fn.map (fun x=>fnAt p x.2)):t.pg K = t.pgP p:=by
 have e:(fun a=>(t.fn.lookup a).bind (fnOf K a)) = fun a=>(t.fn.lookup a).bind (fnAt p):=by
  funext a
  cases e:t.fn.lookup a with
  | none=>rfl
  | some x=>exact List.map_inj_left.mp h _ (lookup_mem e)
 exact congrArg (fun f=>({ t.pg [] with fn:=f }:Pg)) e
theorem lookM_mem {c:Addr} {n:Str} {f:Addr} {l:List (Addr × Str × Addr)}:lookM c n l = some f->(c,n,f) ∈ l:=by
 induction l with
 | nil=>intro h;exact no h
 | cons p r ih=>
  intro h
  obtain ⟨d,m,g⟩:=p
  have h':(if c = d/\n = m then some g else lookM c n r) = some f:=h
  by_cases q:c = d/\n = m
  ·rw [if_pos q] at h'
   rw [q.1,q.2,Option.some.inj h'];exact List.mem_cons_self
  ·rw [if_neg q] at h';exact List.mem_cons_of_mem _ (ih h')
section
variable {t:Tab} {K:Frag} {prog:Program} {w:World} {base:Heap}
theorem glob_ok (hK:K.In base) {x:Str} {v:V} (h:gIn K (x,v) (nsIn K mainGlobals x) = true):∃ y,(nsIn K mainGlobals x = some (some y) ∨ (nsIn K mainGlobals x = some none/\bootBuiltins x = some y/\x ≠ "__name__")) /\
  ∀ T ρ,(∀ a o,base.get? a = some o->T a = .fro o)->VRel ⟨prog,w,K,t.pg K,base⟩ T ρ v y:=by
 have rel:∀ y,vOk K v y = true->∀ T ρ,(∀ a o,base.get? a = some o->T a = .fro o)->VRel ⟨prog,w,K,t.pg K,base⟩ T ρ v y:=fun y h T ρ hT=>vOk_rel (X:=⟨prog,w,K,t.pg K,base⟩) hK hT v h
 generalize nsIn K mainGlobals x = o at h ⊢
 cases o with
 | none=>exact nob h
 | some o=>
  cases o with
  | some y=>exact ⟨y,.inl rfl,rel y h⟩
  | none=>
   obtain ⟨y,e,h⟩:=el h
   obtain ⟨h1,h2⟩:=tt h
   exact ⟨y,.inr ⟨rfl,e,bne_iff_ne.mp h1⟩,rel y h2⟩
theorem tab_ok (t:Tab) {K:Frag} {prog:Program} {w:World} {base:Heap} (hK:K.In base) {mg mb:Str->Option Value} (hg:base.Ns mainGlobals mg) (hb:base.Ns builtinsNs mb) (hbb:∀ x:Str,x ≠ "__name__" -> mb x = bootBuiltins x) (hl:base.NoLimit) (hc:t.check K = true) :
  BC ⟨prog,w,K,t.pg K,base⟩/\∀ a f,(t.pg K).fn a = some f->FnOk ⟨prog,w,K,t.pg K,base⟩ a f:=by
 obtain ⟨hc,c5⟩:=tt hc
 obtain ⟨hc,c4⟩:=tt hc
 obtain ⟨hc,c3⟩:=tt hc
 obtain ⟨c1,c2⟩:=tt hc
 refine ⟨{ kin:=hK,g:=⟨mg,hg⟩,b:=⟨mb,hb,hbb⟩,nolimit:=hl,glob:=fun x v e=>?_,aok:=fun c n e=>?_,meth:=fun c n f e=>?_,init:=fun c f e=>?_,keep:=fun x a e=>?_ },fun a f e=>?_⟩
 ·exact glob_ok hK (tt (List.all_eq_true.mp c1 _ (lookup_mem e))).1
 ·exact List.all_eq_true.mp c4 (c,n) (List.contains_iff_mem.mp e)
 ·obtain ⟨h,h4⟩:=tt (List.all_eq_true.mp c2 _ (lookM_mem e))
  obtain ⟨h,h3⟩:=tt h
  obtain ⟨h1,h2⟩:=tt h
  exact ⟨h1,beq_iff_eq.mp h2,h3,h4⟩
 ·obtain ⟨h,h4⟩:=tt (List.all_eq_true.mp c3 _ (lookup_mem e))
  obtain ⟨h,h3⟩:=tt h
  obtain ⟨h1,h2⟩:=tt h
  exact ⟨h1,beq_iff_eq.mp h2,h3,h4⟩
 ·exact (tt (List.all_eq_true.mp c1 _ (lookup_mem e))).2
 ·obtain ⟨h,hh,e⟩:=bi e
  exact fnOk_ok (X:=⟨prog,w,K,t.pg K,base⟩) hK (List.all_eq_true.mp c5 _ (lookup_mem hh)) e
end
end
end Mine
end
noncomputable section
open PySem PySem.W PySem.Calls PyProof.Rows PySem.SeqAt
namespace Mine
section
variable {X:Ctx}
theorem ints_rel {P:Params} {h:Heap} {T:TT} {ρ:List Addr}:∀ {ns:List Int} {vs:List Value},WellAll P h vs (ofPys (ns.map PyData.int))->VRels X T ρ (ns.map V.int) vs
 | [],vs,w=>by
  rw [List.map_nil] at w
  unfold ofPys at w
  cases w;rfl
 | n :: ns,vs,w=>by
  rw [List.map_cons] at w
  unfold ofPys at w
  cases w with
  | cons w1 w2=>
   unfold ofPy at w1
   cases w1
   exact ⟨_,_,rfl,⟨_,rfl⟩,ints_rel w2⟩
theorem law_run (B:BC X) (hfn:∀ a f,X.P.fn a = some f->FnOk X a f) {s₁:Shared} (hb:X.base = s₁.heap) {a fa:Addr} {ns:List Int} {P:Params} (w1:Well P s₁.heap (.ref a) (ofPy (PyData.list (ns.map PyData.int)))) (hlen:ns.length<=63) {k:Nat} {hp:Hp} {A:Around} (hr:Room A k)
  (e:Mine.call X.P k fa [.lst (ns.map .int)] ([],0) = some (.bool true,hp)) {Q:Value->Shared->Prop} {E:Value->Shared->Prop} (hQ:∀ h' tk,(∀ b o,s₁.heap.get? b = some o->h'.get? b = some o)->Q (.bool true) { s₁ with heap:=h',toks:=tk }) :
  wpAny (model X.prog X.w) A (PySem.call (.ref fa) [.ref a]) Q E s₁:=by
 have hW:WRel X (fun b=>match X.base.get? b with | some o=>.fro o | none=>.no) s₁.heap:={
  fro:=fun b o q=>by
   split at q
   ·rename_i h;cases q;rw [← hb];exact h
   ·cases q
  itr:=fun b o q=>by
   split at q <;> cases q
  live:=fun b q=>by
   split at q
   ·rename_i o h;exact ⟨o,by rw [← hb];exact h⟩
   ·exact absurd rfl q
  base:=fun b o q=>by rw [q]}
 unfold ofPy at w1
 cases w1 with
 | list hget hall=>
  rename_i vs
  refine wpAny_call ?_
  refine raw_ok B hfn k fa _ ([],0) _ _ e A 0 0 _ [] [.ref a] s₁ hr hW ORels.nil ⟨_,[],rfl,⟨?_,a,_,vs,rfl,?_,⟨0,rfl⟩,ints_rel hall⟩,rfl⟩ _ fun T' ρ' h' tk y x p w' o' rv=>?_
  ·simp only [List.length_map];exact Nat.le_trans hlen (by decide)
  ·rw [hb];simp only [hget]
  ·cases (show y = .bool true from rv)
   exact hQ h' tk fun b o q=>w'.fro b o (w'.base b o (by rw [hb];exact q))
end
end Mine
end
noncomputable section
open PySem PySem.W
namespace Mine
inductive Fr (α:Type) where
 | pure (a:α)
 | no
 | opM (m:M V) (s:S) (k:V × S->Fr α)
 | opF (m:M Fl) (s:S) (k:Fl × S->Fr α)
 | opB (c:Option Bool) (k:Bool->Fr α)
 | opV (c:Option V) (k:V->Fr α)
 | opH (c:Option Sh) (k:Sh->Fr α)
 | opN (c:Bool) (k:Bool->Fr α)
noncomputable def Fr.run {α:Type}:Fr α->Option α
 | .pure a=>some a
 | .no=>none
 | .opM m s k=>(m s).bind fun x=>(k x).run
 | .opF m s k=>(m s).bind fun x=>(k x).run
 | .opB c k=>c.bind fun x=>(k x).run
 | .opV c k=>c.bind fun x=>(k x).run
 | .opH c k=>c.bind fun x=>(k x).run
 | .opN c k=>(k c).run
noncomputable def Fr.bind {α β:Type}:Fr α->(α->Fr β)->Fr β
 | .pure a,g=>g a
 | .no,_=>.no
 | .opM m s k,g=>.opM m s fun x=>(k x).bind g
 | .opF m s k,g=>.opF m s fun x=>(k x).bind g
 | .opB c k,g=>.opB c fun x=>(k x).bind g
 | .opV c k,g=>.opV c fun x=>(k x).bind g
 | .opH c k,g=>.opH c fun x=>(k x).bind g
 | .opN c k,g=>.opN c fun x=>(k x).bind g
theorem Fr.run_bind {α β:Type} (g:α->Fr β) (t:Fr α):(t.bind g).run = t.run.bind fun a=>(g a).run:=by
 induction t with
 | pure a=>rfl
 | no=>rfl
 | opM m s k ih=>show (m s).bind _ = ((m s).bind _).bind _;cases m s with
  | none=>rfl
  | some x=>exact ih x
 | opF m s k ih=>show (m s).bind _ = ((m s).bind _).bind _;cases m s with
  | none=>rfl
  | some x=>exact ih x
 | opB c k ih | opV c k ih | opH c k ih=>cases c with
  | none=>rfl
  | some x=>exact ih x
 | opN c k ih=>exact ih c
inductive Q where
 | m (f:M V)
 | s (f:M V) (s:S)
 | f (f:M Fl) (s:S)
 | b (c:Option Bool)
 | v (c:Option V)
 | h (c:Option Sh)
 | n (c:Bool)
inductive Ft where
 | m0
 | b0
 | m {f:M V} {x:V} (h:∀ s,f s = some (x,s))
 | s {f:M V} {s:S} {x:V × S} (h:f s = some x)
 | f {f:M Fl} {s:S} {x:Fl × S} (h:f s = some x)
 | b {c:Option Bool} {x:Bool} (h:c = some x)
 | v {c:Option V} {x:V} (h:c = some x)
 | h {c:Option Sh} {x:Sh} (h:c = some x)
 | n {c:Bool} {x:Bool} (h:c = x)
noncomputable def qs:List Ft->List Q
 | []=>[]
 | .m0 :: r=>qs r
 | .b0 :: r=>qs r
 | .m (f:=f) _ :: r=>.m f :: qs r
 | .s (f:=f) (s:=s) _ :: r=>.s f s :: qs r
 | .f (f:=f) (s:=s) _ :: r=>.f f s :: qs r
 | .b (c:=c) _ :: r=>.b c :: qs r
 | .v (c:=c) _ :: r=>.v c :: qs r
 | .h (c:=c) _ :: r=>.h c :: qs r
 | .n (c:=c) _ :: r=>.n c :: qs r
noncomputable def pre {α:Type} (q:Q) (o:Option (List Q × α)):Option (List Q × α):=o.bind fun p=>some (q :: p.1,p.2)
noncomputable def Fr.col {α:Type}:Fr α->List Ft->Option (List Q × α)
 | .pure a,as=>some (qs as,a)
 | .no,_=>none
 | .opM m s k,as=>match as with
  | .m (x:=x) _ :: as=>pre (.m m) ((k (x,s)).col as)
  | .s (x:=x) _ :: as=>pre (.s m s) ((k x).col as)
  | .m0 :: as=>(m s).bind fun x=>(k x).col as
  | as=>(m s).bind fun x=>(k x).col as
 | .opF m s k,as=>match as with
  | .f (x:=x) _ :: as=>pre (.f m s) ((k x).col as)
  | as=>(m s).bind fun x=>(k x).col as
 | .opB c k,as=>match as with
  | .b (x:=x) _ :: as=>pre (.b c) ((k x).col as)
  | .b0 :: as=>c.bind fun x=>(k x).col as
  | as=>c.bind fun x=>(k x).col as
 | .opV c k,as=>match as with
  | .v (x:=x) _ :: as=>pre (.v c) ((k x).col as)
  | as=>c.bind fun x=>(k x).col as
 | .opH c k,as=>match as with
  | .h (x:=x) _ :: as=>pre (.h c) ((k x).col as)
  | as=>c.bind fun x=>(k x).col as
 | .opN c k,as=>match as with
  | .n (x:=x) _ :: as=>pre (.n c) ((k x).col as)
  | as=>(k c).col as
theorem pre_some {α:Type} {q:Q} {o:Option (List Q × α)} {l:List Q} {a:α} (h:pre q o = some (q' :: l,a)):q = q'/\o = some (l,a):=by
 obtain ⟨⟨m,b⟩,e,h⟩:=Option.bind_eq_some_iff.mp h
 cases h
 exact ⟨rfl,e⟩
theorem Fr.col_ok {α:Type} {r:α}:∀ {t:Fr α} {as:List Ft},t.col as = some (qs as,r)->t.run = some r:=by
 intro t
 induction t with
 | pure a=>intro as h;cases h;rfl
 | no=>intro as h;cases h
 | opM m s k ih=>
  intro as h
  have go:∀ as,(m s).bind (fun x=>(k x).col as) = some (qs as,r)->(Fr.opM m s k).run = some r:=fun as h=>by
   obtain ⟨x,e,h⟩:=Option.bind_eq_some_iff.mp h
   show (m s).bind _ = _
   rw [e];exact ih x h
  cases as with
  | nil=>exact go _ h
  | cons a as=>
   cases a with
   | m q=>
    obtain ⟨e,h'⟩:=pre_some h
    cases e
    show (m s).bind _ = _
    rw [q s];exact ih _ h'
   | s q=>
    obtain ⟨e,h'⟩:=pre_some h
    cases e
    show (m s).bind _ = _
    rw [q];exact ih _ h'
   | m0=>exact go as h
   | _=>exact go _ h
 | opF m s k ih=>
  intro as h
  have go:∀ as,(m s).bind (fun x=>(k x).col as) = some (qs as,r)->(Fr.opF m s k).run = some r:=fun as h=>by
   obtain ⟨x,e,h⟩:=Option.bind_eq_some_iff.mp h
   show (m s).bind _ = _
   rw [e];exact ih x h
  cases as with
  | nil=>exact go _ h
  | cons a as=>
   cases a with
   | f q=>
    obtain ⟨e,h'⟩:=pre_some h
    cases e
    show (m s).bind _ = _
    rw [q];exact ih _ h'
   | _=>exact go _ h
 | opB c k ih=>
  intro as h
  have go:∀ as,c.bind (fun x=>(k x).col as) = some (qs as,r)->(Fr.opB c k).run = some r:=fun as h=>by
   obtain ⟨x,e,h⟩:=Option.bind_eq_some_iff.mp h
   subst e
   exact ih x h
  cases as with
  | nil=>exact go _ h
  | cons a as=>
   cases a with
   | b q=>
    obtain ⟨e,h'⟩:=pre_some h
    cases e
    subst q
    exact ih _ h'
   | b0=>exact go as h
   | _=>exact go _ h
 | opV c k ih=>
  intro as h
  have go:∀ as,c.bind (fun x=>(k x).col as) = some (qs as,r)->(Fr.opV c k).run = some r:=fun as h=>by
   obtain ⟨x,e,h⟩:=Option.bind_eq_some_iff.mp h
   subst e
   exact ih x h
  cases as with
  | nil=>exact go _ h
  | cons a as=>
   cases a with
   | v q=>
    obtain ⟨e,h'⟩:=pre_some h
    cases e
    subst q
    exact ih _ h'
   | _=>exact go _ h
 | opH c k ih=>
  intro as h
  have go:∀ as,c.bind (fun x=>(k x).col as) = some (qs as,r)->(Fr.opH c k).run = some r:=fun as h=>by
   obtain ⟨x,e,h⟩:=Option.bind_eq_some_iff.mp h
   subst e
   exact ih x h
  cases as with
  | nil=>exact go _ h
  | cons a as=>
   cases a with
   | h q=>
    obtain ⟨e,h'⟩:=pre_some h
    cases e
    subst q
    exact ih _ h'
   | _=>exact go _ h
 | opN c k ih=>
  intro as h
  cases as with
  | nil=>exact ih c h
  | cons a as=>
   cases a with
   | n q=>
    obtain ⟨e,h'⟩:=pre_some h
    cases e
    subst q
    exact ih _ h'
   | _=>exact ih c h
structure B (α:Type) where
 f:M α
 g:S->Fr (α × S)
 ok:∀ s,(g s).run = f s
theorem B.by {α:Type} {b:B α} {s:S} {r:α × S} (as:List Ft) (e:(b.g s).col as = some (qs as,r)):b.f s = some r:=(b.ok s).symm.trans (Fr.col_ok e)
theorem B.fin {b:B Fl} {s:S} {r:V × Hp} (as:List Ft) (e:((b.g s).col as).bind (fun p=>(fin (some p.2)).map fun x=>(p.1,x)) = some (qs as,r)):fin (b.f s) = some r:=by
 obtain ⟨⟨l,p⟩,e1,e2⟩:=Option.bind_eq_some_iff.mp e
 obtain ⟨x,e3,e4⟩:=Option.map_eq_some_iff.mp e2
 cases e4
 rw [← b.ok s,Fr.col_ok e1]
 exact e3
structure En where
 rc:Raw
 mt:Addr->Str->Option Addr
 ak:Addr->Str->Bool
noncomputable def kS (x:Str):M V:=lift (some (.str x))
noncomputable def kI (i:Int):M V:=lift (some (.int i))
noncomputable def kB (b:Bool):M V:=lift (some (.bool b))
noncomputable def kN:M V:=lift (some .none)
theorem B.bnd {α β:Type} {x:B α} {f:α->M β} {g:α × S->Fr (β × S)} (h:∀ a s,(g (a,s)).run = f a s) (s:S):((x.g s).bind g).run = Mine.bnd x.f f s:=by
 rw [Fr.run_bind,x.ok]
 unfold Mine.bnd
 cases x.f s with
 | none=>rfl
 | some p=>exact h p.1 p.2
noncomputable def oq (f:M V):S->Fr (V × S):=fun s=>.opM f s .pure
theorem oq_ok (f:M V) (s:S):(oq f s).run = f s:=by
 show (f s).bind some = f s
 cases f s <;> rfl
noncomputable def oB (c:Option Bool) (s:S):Fr (Bool × S):=.opB c fun b=>.pure (b,s)
theorem oB_ok (c:Option Bool) (s:S):(oB c s).run = c.map (·,s):=by cases c <;> rfl
noncomputable def ot {α:Type} (o:Option α):Fr α:=match o with
 | some a=>.pure a
 | none=>.no
theorem ot_ok {α:Type} (o:Option α):(ot o).run = o:=by cases o <;> rfl
noncomputable def oc {α:Type} (f:M α):B α:=⟨f,fun s=>ot (f s),fun s=>ot_ok _⟩
noncomputable def okS (x:Str):B V:=⟨kS x,fun s=>.pure (.str x,s),fun _=>rfl⟩
noncomputable def okI (x:Int):B V:=⟨kI x,fun s=>.pure (.int x,s),fun _=>rfl⟩
noncomputable def okB (x:Bool):B V:=⟨kB x,fun s=>.pure (.bool x,s),fun _=>rfl⟩
noncomputable def okN:B V:=⟨kN,fun s=>.pure (.none,s),fun _=>rfl⟩
noncomputable def oeK (v:V):B V:=oc (eK v)
noncomputable def oeG (v:Option V):B V:=oc (eG v)
noncomputable def oeVar (i:Nat):B V:=oc (eVar i)
theorem B.next {α β:Type} {x:B α} {f:M β} {k:α->M β} {g:α × S->Fr (β × S)} (h:f = Mine.bnd x.f k) (q:∀ a s,(g (a,s)).run = k a s) (s:S):((x.g s).bind g).run = f s:=by subst h;exact B.bnd q s
noncomputable def gSeq:List (B V)->S->Fr (List V × S)
 | [],s=>.pure ([],s)
 | x :: r,s=>(x.g s).bind fun p=>(gSeq r p.2).bind fun q=>.pure (p.1 :: q.1,q.2)
theorem gSeq_ok:∀ (l:List (B V)) (s:S),(gSeq l s).run = eSeq (l.map B.f) s
 | [],_=>rfl
 | x :: r,s=>B.bnd (fun a s=>by
  rw [Fr.run_bind,gSeq_ok r s]
  unfold bnd
  cases eSeq (r.map B.f) s <;> rfl) s
noncomputable def oseq (l:List (B V)):B (List V):=⟨eSeq (l.map B.f),gSeq l,gSeq_ok l⟩
noncomputable def oeSub (x y:B V):B V:=⟨eSub x.f y.f,fun s=>(x.g s).bind fun p=>(y.g p.2).bind fun q=>oq (sub p.1 q.1) q.2,B.bnd fun _ s=>B.bnd (fun _=>oq_ok _) s⟩
noncomputable def gBin (m:Bool) (op:Operator) (a b:V) (s:S):Fr (V × S):=match op,a,b with
 | .Add,.int x,.int y=>.pure (.int (x + y),s)
 | .Sub,.int x,.int y=>.pure (.int (x - y),s)
 | op,a,b=>oq (bin m op a b) s
theorem gBin_ok (m:Bool) (op:Operator) (a b:V) (s:S):(gBin m op a b s).run = bin m op a b s:=by
 unfold gBin
 split
 ·rfl
 ·rfl
 ·exact oq_ok _ _
noncomputable def oeBin (m:Bool) (op:Operator) (x y:B V):B V:=⟨eBin m op x.f y.f,fun s=>(x.g s).bind fun p=>(y.g p.2).bind fun q=>gBin m op p.1 q.1 q.2,B.bnd fun _ s=>B.bnd (fun _=>gBin_ok _ _ _ _) s⟩
noncomputable def negM (a:V):M V:=fun s=>int1 a fun i=>some (.int (-i),s)
noncomputable def oeNeg (x:B V):B V:=⟨eNeg x.f,fun s=>(x.g s).bind fun p=>ot (negM p.1 p.2),B.bnd fun _ _=>ot_ok _⟩
noncomputable def oeIf (t:B Bool) (x y:B V):B V:=⟨eIf t.f x.f y.f,fun s=>(t.g s).bind fun p=>match p.1 with
 | true=>x.g p.2
 | false=>y.g p.2,B.bnd fun a s=>by cases a <;> exact B.ok _ s⟩
noncomputable def gBool (op:BoolOp):List (B V)->S->Fr (V × S)
 | [],_=>.no
 | [x],s=>x.g s
 | x :: r,s=>(x.g s).bind fun p=>match p.1 with
  | .bool b=>(match op,b with
   | .And,false=>.pure p
   | .Or,true=>.pure p
   | _,_=>gBool op r p.2)
  | _=>.no
theorem gBool_ok (op:BoolOp):∀ (l:List (B V)) (s:S),(gBool op l s).run = eBool op (l.map B.f) s
 | [],_=>rfl
 | [x],s=>x.ok s
 | x :: y :: r,s=>B.bnd (fun a s=>by
  cases a <;> first | rfl | skip
  rename_i b
  cases op <;> cases b <;> first | rfl | exact gBool_ok _ (y :: r) s) s
noncomputable def oeBool (op:BoolOp) (l:List (B V)):B V:=⟨eBool op (l.map B.f),gBool op l,gBool_ok op l⟩
noncomputable def oeCmp (op:CmpOp) (x y:B V):B V:=⟨eCmp op x.f y.f,fun s=>(x.g s).bind fun p=>(y.g p.2).bind fun q=>.opB (cmpv op p.1 q.1 q.2.ob) fun b=>.pure (.bool b,q.2),B.bnd fun a s=>B.bnd (fun b s=>by
 show (cmpv op a b s.ob).bind (fun x=>some (V.bool x,s)) = (cmpv op a b s.ob).map fun r=>(V.bool r,s)
 cases cmpv op a b s.ob <;> rfl) s⟩
noncomputable def oeList (m:Bool) (l:List (B V)):B V:=⟨eList m (l.map B.f),fun s=>(gSeq l s).bind fun p=>ot (mkL m p.1 p.2),B.bnd (x:=oseq l) fun _ _=>ot_ok _⟩
noncomputable def tupM (l:List V):M V:=if l.length<=lim then ret' (.tup l) else lift none
noncomputable def oeTup (l:List (B V)):B V:=⟨eTup (l.map B.f),fun s=>(gSeq l s).bind fun p=>ot (tupM p.1 p.2),B.bnd (x:=oseq l) fun _ _=>ot_ok _⟩
noncomputable def oeDict (m:Bool) (l r:List (B V)):B V:=oc (eDict m (l.map B.f) (r.map B.f))
noncomputable def oeAttr (n:Str) (x:B V):B V:=⟨eAttr n x.f,fun s=>(x.g s).bind fun p=>oq (fun s=>getAttr p.1 n s) p.2,B.bnd fun _=>oq_ok _⟩
noncomputable def gOpt:Option (B V)->S->Fr (Option V × S)
 | none,s=>.pure (none,s)
 | some x,s=>(x.g s).bind fun p=>.pure (some p.1,p.2)
noncomputable def oOpt (o:Option (B V)):B (Option V):=⟨eOpt (o.map B.f),gOpt o,by cases o with
 | none=>exact fun _=>rfl
 | some x=>exact B.bnd fun _ _=>rfl⟩
noncomputable def oeSlice (m:Bool) (x:B V) (lo hi:Option (B V)):B V:=⟨eSlice m x.f (lo.map B.f) (hi.map B.f),fun s=>(x.g s).bind fun p=>(gOpt lo p.2).bind fun q=>(gOpt hi q.2).bind fun r=>oq (slice m p.1 q.1 r.1) r.2,
 B.bnd fun _ s=>B.bnd (x:=oOpt lo) (fun _ s=>B.bnd (x:=oOpt hi) (fun _=>oq_ok _) s) s⟩
noncomputable def oeRev (m:Bool) (x:B V):B V:=⟨eRev m x.f,fun s=>(x.g s).bind fun p=>oq (rev m p.1) p.2,B.bnd fun _=>oq_ok _⟩
noncomputable def lenM (a:V):M V:=fun s=>(items a s.ob).map fun l=>(.int l.length,s)
noncomputable def oeLen (x:B V):B V:=⟨eLen x.f,fun s=>(x.g s).bind fun p=>oq (lenM p.1) p.2,B.bnd fun _=>oq_ok _⟩
noncomputable def listM (m:Bool) (a:V):M V:=fun s=>(listOf a s.ob).bind fun l=>mkL m l s
noncomputable def oeListOf (m:Bool) (x:B V):B V:=⟨eListOf m x.f,fun s=>(x.g s).bind fun p=>oq (listM m p.1) p.2,B.bnd fun _=>oq_ok _⟩
noncomputable def intM (a:V):M V:=fun s=>(toI a).map fun i=>(.int i,s)
noncomputable def oeInt (x:B V):B V:=⟨eInt x.f,fun s=>(x.g s).bind fun p=>ot (intM p.1 p.2),B.bnd fun _ _=>ot_ok _⟩
noncomputable def maxM (a b:V):M V:=fun s=>int1 a fun x=>int1 b fun y=>some (.int (if x < y then y else x),s)
noncomputable def oeMax (x y:B V):B V:=⟨eMax x.f y.f,fun s=>(x.g s).bind fun p=>(y.g p.2).bind fun q=>ot (maxM p.1 q.1 q.2),B.bnd fun _ s=>B.bnd (fun _ _=>ot_ok _) s⟩
noncomputable def isM (a b:V):M V:=fun s=>(typeOf b).bind fun t=>if t = "bool" ∨ t = "list" then (isInst t a s.ob).map fun b=>(.bool b,s) else none
noncomputable def oeIs (x y:B V):B V:=⟨eIs x.f y.f,fun s=>(x.g s).bind fun p=>(y.g p.2).bind fun q=>ot (isM p.1 q.1 q.2),B.bnd fun _ s=>B.bnd (fun _ _=>ot_ok _) s⟩
noncomputable def sortM (m:Bool) (a:V):M V:=fun s=>(listOf a s.ob).bind fun l=>sortL m l s
noncomputable def oeSorted (m:Bool) (x:B V):B V:=⟨eSorted m x.f,fun s=>(x.g s).bind fun p=>oq (sortM m p.1) p.2,B.bnd fun _=>oq_ok _⟩
noncomputable def callM (rc:Raw) (a:Addr) (vs:List V):M V:=bnd (freeze vs) fun xs=>lift (pureCall rc a xs)
noncomputable def oeCallP (rc:Raw) (a:Addr) (l:List (B V)):B V:=⟨eCallP rc a (l.map B.f),fun s=>(gSeq l s).bind fun p=>oq (callM rc a p.1) p.2,B.bnd (x:=oseq l) fun _=>oq_ok _⟩
noncomputable def lentM (rc:Raw) (a:Addr) (vs:List V):M V:=fun s=>(lend s.ob vs).bind fun xs=>(pureCall rc a xs).bind fun r=>if scal r = true then some (r,s) else none
noncomputable def oeCallL (rc:Raw) (a:Addr) (l:List (B V)):B V:=⟨eCallL rc a (l.map B.f),fun s=>(gSeq l s).bind fun p=>oq (lentM rc a p.1) p.2,B.bnd (x:=oseq l) fun _=>oq_ok _⟩
noncomputable def oeCallI (rc:Raw) (a:Addr) (l:List (B V)):B V:=⟨eCallI rc a (l.map B.f),fun s=>(gSeq l s).bind fun p=>oq (impCall rc a p.1) p.2,B.bnd (x:=oseq l) fun _=>oq_ok _⟩
noncomputable def newM (rc:Raw) (c a:Addr) (vs:List V):M V:=bnd (freeze vs) fun xs=>lift (newCall rc c a xs)
noncomputable def oeNewP (rc:Raw) (c a:Addr) (l:List (B V)):B V:=⟨eNewP rc c a (l.map B.f),fun s=>(gSeq l s).bind fun p=>oq (newM rc c a p.1) p.2,B.bnd (x:=oseq l) fun _=>oq_ok _⟩
noncomputable def newIM (rc:Raw) (c a:Addr) (vs:List V):M V:=bnd (alloc' (.inst c [] [])) fun x=>bnd (impCall rc a (x :: vs)) fun r=>if isNo r = true then ret' x else lift none
noncomputable def oeNewI (rc:Raw) (c a:Addr) (l:List (B V)):B V:=⟨eNewI rc c a (l.map B.f),fun s=>(gSeq l s).bind fun p=>oq (newIM rc c a p.1) p.2,B.bnd (x:=oseq l) fun _=>oq_ok _⟩
noncomputable def gMeth (rc:Raw) (mt:Addr->Str->Option Addr) (k:MK) (v:V) (sh:Sh) (as:List V) (s:S):Fr (V × S):=match k,v,sh,as with
 | .append,.ref n,.list,[x]=>(match olook n s.ob with
  | some (.list l)=>.opB (some (decide (l.length < lim))) fun b=>match b with
   | true=>.pure (.none,{ s with ob:=oset n (.list (l++[x])) s.ob })
   | false=>.no
  | _=>.no)
 | .extend,.ref n,.list,[.lst r]=>(match olook n s.ob with
  | some (.list l)=>.opB (some (decide (l.length + r.length<=lim))) fun b=>match b with
   | true=>.pure (.none,{ s with ob:=oset n (.list (l++r)) s.ob })
   | false=>.no
  | _=>.no)
 | .pop,.ref n,.list,[]=>(match olook n s.ob with
  | some (.list l)=>.opV l.getLast? fun v=>.pure (v,{ s with ob:=oset n (.list l.dropLast) s.ob })
  | _=>.no)
 | k,v,sh,as=>.opM (methGo rc mt k v sh as) s .pure
theorem shape_lref {nm:Str} {n:Nat} {ob:OB} (h:shapeOf nm (.ref n) ob = some .list):∃ l,olook n ob = some (.list l):=by
 obtain ⟨o,e,h⟩:=bi h
 cases o with
 | list l=>exact ⟨l,e⟩
 | dict _ _=>exact nomatch Option.some.inj h
 | inst _ _ _=>exact nomatch Option.some.inj (ni h).2
theorem go_list {rc:Raw} {mt:Addr->Str->Option Addr} {k:MK} {n:Nat} {l:List V} {as:List V} {s:S} (h:shapeOf k.name (.ref n) s.ob = some .list) (e:olook n s.ob = some (.list l)):methGo rc mt k (.ref n) .list as s = listMeth k n l as s:=by
 refine (if_pos h).trans ?_
 show (olook n s.ob).bind _ = _
 rw [e];rfl
theorem dec_run {α:Type} {p:Prop} [Decidable p] (a:α):(match decide p with | true=>.pure a | false=>.no:Fr α).run = if p then some a else none:=by
 by_cases h:p
 ·rw [decide_eq_true h,if_pos h];rfl
 ·rw [decide_eq_false h,if_neg h];rfl
theorem gMeth_ok (rc:Raw) (mt:Addr->Str->Option Addr) (k:MK) (v:V) (sh:Sh) (as:List V) (s:S) (h:shapeOf k.name v s.ob = some sh):(gMeth rc mt k v sh as s).run = methGo rc mt k v sh as s:=by
 unfold gMeth
 split
 ·obtain ⟨l,e⟩:=shape_lref h
  rw [go_list h e,e]
  exact dec_run _
 ·obtain ⟨l,e⟩:=shape_lref h
  rw [go_list h e,e]
  exact dec_run _
 ·obtain ⟨l,e⟩:=shape_lref h
  rw [go_list h e,e]
  show l.getLast?.bind _ = l.getLast?.map _
  cases l.getLast? <;> rfl
 ·exact oq_ok _ s
noncomputable def oeMeth (rc:Raw) (mt:Addr->Str->Option Addr) (k:MK) (x:B V) (l:List (B V)):B V:=⟨eMeth rc mt k x.f (l.map B.f),fun s=>(x.g s).bind fun p=>.opH (shapeOf k.name p.1 p.2.ob) fun sh=>(gSeq l p.2).bind fun q=>
  .opH (shapeOf k.name p.1 q.2.ob) fun sh'=>if sh' = sh then gMeth rc mt k p.1 sh q.1 q.2 else .no,B.bnd fun a s=>by
 show (shapeOf k.name a s.ob).bind (fun sh=>Fr.run _) = _
 cases shapeOf k.name a s.ob with
 | none=>rfl
 | some sh=>
  refine B.bnd (x:=oseq l) (fun as s=>?_) s
  show (shapeOf k.name a s.ob).bind (fun sh'=>Fr.run _) = _
  cases e:shapeOf k.name a s.ob with
  | none=>unfold methGo;rw [e];rfl
  | some sh'=>
   show Fr.run (if sh' = sh then _ else _) = _
   by_cases z:sh' = sh
   ·rw [if_pos z];subst z;exact gMeth_ok rc mt k a _ as s e
   ·rw [if_neg z]
    unfold methGo
    rw [e,if_neg (fun q=>z (Option.some.inj q))];rfl⟩
noncomputable def frzM (v:V):M V:=bnd (freeze [v]) one1
noncomputable def oeFrz (x:B V):B V:=⟨eFrz x.f,fun s=>(x.g s).bind fun p=>oq (frzM p.1) p.2,B.bnd fun _=>oq_ok _⟩
noncomputable def otNot (t:B Bool):B Bool:=⟨tNot t.f,fun s=>(t.g s).bind fun p=>.pure (!p.1,p.2),B.bnd fun _ _=>rfl⟩
noncomputable def otVal (x:B V):B Bool:=⟨tVal x.f,fun s=>(x.g s).bind fun p=>ot (toB p.1 p.2),B.bnd fun _ _=>ot_ok _⟩
noncomputable def gAll (op:BoolOp):List (B Bool)->S->Fr (Bool × S)
 | [],s=>.pure ((match op with | .And=>true | .Or=>false),s)
 | t :: r,s=>(t.g s).bind fun p=>match op,p.1 with
  | .And,false=>.pure (false,p.2)
  | .Or,true=>.pure (true,p.2)
  | _,_=>gAll op r p.2
theorem gAll_ok (op:BoolOp):∀ (l:List (B Bool)) (s:S),(gAll op l s).run = tAll op (l.map B.f) s
 | [],_=>by cases op <;> rfl
 | t :: r,s=>B.bnd (fun b s=>by cases op <;> cases b <;> first | rfl | exact gAll_ok _ r s) s
noncomputable def otAll (op:BoolOp) (l:List (B Bool)):B Bool:=⟨tAll op (l.map B.f),gAll op l,gAll_ok op l⟩
noncomputable def otCmp (op:CmpOp) (x y:B V):B Bool:=⟨tCmp op x.f y.f,fun s=>(x.g s).bind fun p=>(y.g p.2).bind fun q=>oB (cmpv op p.1 q.1 q.2.ob) q.2,B.bnd fun a s=>B.bnd (fun b s=>oB_ok _ s) s⟩
noncomputable def otCmp2 (o1 o2:CmpOp) (x y z:B V):B Bool:=⟨tCmp2 o1 o2 x.f y.f z.f,fun s=>(x.g s).bind fun p=>(y.g p.2).bind fun q=>.opB (cmpv o1 p.1 q.1 q.2.ob) fun b=>match b with
 | true=>(z.g q.2).bind fun r=>oB (cmpv o2 q.1 r.1 r.2.ob) r.2
 | false=>.pure (false,q.2),B.bnd fun a s=>B.bnd (fun b s=>by
  show (cmpv o1 a b s.ob).bind (fun c=>Fr.run _) = _
  cases cmpv o1 a b s.ob with
  | none=>rfl
  | some c=>cases c with
   | true=>exact B.bnd (fun _ s=>oB_ok _ s) s
   | false=>rfl) s⟩
noncomputable def seqM (v:V):M Sq:=fun s=>(seqOf v s.ob).map fun p=>((p.1,p.2,false),s)
noncomputable def osrcSeq (x:B V):B Sq:=⟨srcSeq x.f,fun s=>(x.g s).bind fun p=>ot (seqM p.1 p.2),B.bnd fun _ _=>ot_ok _⟩
noncomputable def gRng (a b:V) (s:S):Fr (Sq × S):=match a,b with
 | .int x,.int y=>.opB (some (small x && small y)) fun c=>match c with
  | true=>.pure ((rangeV x y,none,false),s)
  | false=>.no
 | _,_=>.no
theorem bool_run {α:Type} (b:Bool) (a:α):(match b with | true=>.pure a | false=>.no:Fr α).run = if b = true then some a else none:=by
 cases b <;> rfl
theorem gRng_ok (a b:V) (s:S):(gRng a b s).run = int1 a fun x=>int1 b fun y=>if (small x && small y) = true then some ((rangeV x y,none,false),s) else none:=by
 cases a with
 | int x=>cases b with
  | int y=>exact bool_run _ _
  | _=>rfl
 | _=>rfl
noncomputable def osrcRng (x y:B V):B Sq:=⟨srcRng x.f y.f,fun s=>(x.g s).bind fun p=>(y.g p.2).bind fun q=>gRng p.1 q.1 q.2,B.bnd fun a s=>B.bnd (fun b s=>gRng_ok a b s) s⟩
noncomputable def gRng1 (b:V) (s:S):Fr (Sq × S):=match b with
 | .int y=>.opB (some (small y)) fun c=>match c with
  | true=>.pure ((rangeV 0 y,none,false),s)
  | false=>.no
 | _=>.no
theorem gRng1_ok (b:V) (s:S):(gRng1 b s).run = int1 b fun y=>if small y = true then some ((rangeV 0 y,none,false),s) else none:=by
 cases b with
 | int y=>exact bool_run _ _
 | _=>rfl
noncomputable def osrcRng1 (y:B V):B Sq:=⟨srcRng1 y.f,fun s=>(y.g s).bind fun q=>gRng1 q.1 q.2,B.bnd fun b s=>gRng1_ok b s⟩
noncomputable def enuM (v:V):M Sq:=fun s=>(lstOf v s.ob).map fun p=>((enum 0 p.1,p.2,true),s)
noncomputable def osrcEnu (x:B V):B Sq:=⟨srcEnu x.f,fun s=>(x.g s).bind fun p=>ot (enuM p.1 p.2),B.bnd fun _ _=>ot_ok _⟩
noncomputable def zipM (a b:V):M Sq:=fun s=>lst1 a fun x=>lst1 b fun y=>some ((zips x y,none,true),s)
noncomputable def osrcZip (x y:B V):B Sq:=⟨srcZip x.f y.f,fun s=>(x.g s).bind fun p=>(y.g p.2).bind fun q=>ot (zipM p.1 q.1 q.2),B.bnd fun _ s=>B.bnd (fun _ _=>ot_ok _) s⟩
noncomputable def compM (m:Bool) (cp:List (Option Nat)) (t:Tg) (p:Sq) (cs:List (M Bool)) (f:M V):M V:=fun s=>(compRun cp t p cs f s.sl).bind fun xs=>mkL m xs s
noncomputable def oeComp (m:Bool) (cp:List (Option Nat)) (t:Tg) (x:B Sq) (cs:List (B Bool)) (y:B V):B V:=⟨eComp m cp t x.f (cs.map B.f) y.f,fun s=>(x.g s).bind fun p=>oq (compM m cp t p.1 (cs.map B.f) y.f) p.2,B.bnd fun _=>oq_ok _⟩
noncomputable def osNext:B Fl:=⟨sNext,fun s=>.pure (.next,s),fun _=>rfl⟩
noncomputable def osBrk:B Fl:=⟨sBrk,fun s=>.pure (.brk,s),fun _=>rfl⟩
noncomputable def osCont:B Fl:=⟨sCont,fun s=>.pure (.cont,s),fun _=>rfl⟩
noncomputable def osSeq (x y:B Fl):B Fl:=⟨sSeq x.f y.f,fun s=>(x.g s).bind fun p=>match p.1 with
 | .next=>y.g p.2
 | r=>.pure (r,p.2),B.bnd fun a s=>by cases a <;> first | exact B.ok _ s | rfl⟩
noncomputable def osExp (x:B V):B Fl:=⟨sExp x.f,fun s=>(x.g s).bind fun p=>.pure (.next,p.2),B.bnd fun _ _=>rfl⟩
noncomputable def osRet (x:B V):B Fl:=⟨sRet x.f,fun s=>(x.g s).bind fun p=>.pure (.ret p.1,p.2),B.bnd fun _ _=>rfl⟩
noncomputable def nfo:Option (Option V)->Bool
 | some (some (.ref _))=>false
 | _=>true
noncomputable def gPut1 (i:Nat) (v:V) (s:S):Fr (Unit × S):=match Nat.blt i s.sl.length with
 | true=>.opN (nfo s.sl[i]?) fun b=>match b with
  | true=>.pure ((),{ s with sl:=s.sl.set i (some v)})
  | false=>.pure ((),{ s with sl:=s.sl.set i (some v),ob:=dropOld i v s })
 | false=>.no
theorem nfo_drop {i:Nat} {v:V} {s:S} (h:nfo s.sl[i]? = true):dropOld i v s = s.ob:=by
 unfold dropOld
 split
 ·rename_i n e;rw [e] at h;cases h
 ·rfl
theorem gPut1_ok (i:Nat) (v:V) (s:S):(gPut1 i v s).run = put1 i v s:=by
 unfold gPut1 put1
 by_cases h:i < s.sl.length
 ·rw [if_pos h,show Nat.blt i s.sl.length = true from Nat.ble_eq_true_of_le h]
  show (match nfo s.sl[i]? with | true=>_ | false=>_:Fr (Unit × S)).run = _
  cases e:nfo s.sl[i]? with
  | true=>rw [nfo_drop e];rfl
  | false=>rfl
 ·rw [if_neg h,show Nat.blt i s.sl.length = false from by cases q:Nat.blt i s.sl.length with | false=>rfl | true=>exact absurd (Nat.le_of_ble_eq_true q) h];rfl
noncomputable def gPuts:List Nat->List V->S->Fr (Unit × S)
 | [],[],s=>.pure ((),s)
 | i :: r,v :: t,s=>(gPut1 i v s).bind fun p=>gPuts r t p.2
 | _,_,_=>.no
theorem gPuts_ok:∀ (is:List Nat) (vs:List V) (s:S),(gPuts is vs s).run = puts is vs s
 | [],[],_=>rfl
 | i :: r,v :: t,s=>B.bnd (x:=⟨put1 i v,gPut1 i v,gPut1_ok i v⟩) (fun _ s=>gPuts_ok r t s) s
 | [],_ :: _,_=>rfl
 | _ :: _,[],_=>rfl
noncomputable def gPut (t:Tg) (v:V) (s:S):Fr (Unit × S):=match t with
 | .one i=>gPut1 i v s
 | .many is=>match v with
  | .tup l=>gPuts is l s
  | _=>.no
theorem gPut_ok (t:Tg) (v:V) (s:S):(gPut t v s).run = putT t v s:=by
 cases t with
 | one i=>exact gPut1_ok i v s
 | many is=>cases v <;> first | rfl | exact gPuts_ok _ _ _
noncomputable def oput (t:Tg) (v:V):B Unit:=⟨putT t v,gPut t v,gPut_ok t v⟩
noncomputable def osAsg (t:Tg) (x:B V):B Fl:=⟨sAsg t x.f,fun s=>(x.g s).bind fun p=>(gPut t p.1 p.2).bind fun q=>.pure (.next,q.2),B.bnd fun a s=>B.bnd (x:=oput t a) (fun _ _=>rfl) s⟩
noncomputable def osAttr (ak:Addr->Str->Bool) (x:B V) (n:Str) (y:B V):B Fl:=⟨sAttr ak x.f n y.f,fun s=>(y.g s).bind fun p=>(x.g p.2).bind fun q=>(ot (setAttr ak q.1 n p.1 q.2)).bind fun r=>.pure (.next,r.2),
 B.bnd fun a s=>B.bnd (fun b s=>B.bnd (x:=oc (setAttr ak b n a)) (fun _ _=>rfl) s) s⟩
noncomputable def gSet (a i x:V) (s:S):Fr (Unit × S):=match a with
 | .ref n=>(match olook n s.ob,i with
  | some (.list l),.int k=>.opB (some (decide (0<=k/\k < l.length))) fun b=>(match b with
   | true=>.pure ((),{ s with ob:=oset n (.list (l.set k.toNat x)) s.ob })
   | false=>.no)
  | some (.dict ks vs),i=>(match keyOf i with
   | some k=>.opB (some (decide (ks.length<=1000))) fun b=>(match b with
    | true=>.pure ((),{ s with ob:=oset n (.dict (dput k x ks vs).1 (dput k x ks vs).2) s.ob })
    | false=>.no)
   | none=>.no)
  | _,_=>.no)
 | _=>.no
theorem gSet_ok (a i x:V) (s:S):(gSet a i x s).run = setItem a i x s:=by
 cases a with
 | ref n=>
  show (match olook n s.ob,i with
  | some (.list l),.int k=>.opB (some (decide (0<=k/\k < l.length))) fun b=>(match b with
   | true=>.pure ((),{ s with ob:=oset n (.list (l.set k.toNat x)) s.ob })
   | false=>.no)
  | some (.dict ks vs),i=>(match keyOf i with
   | some k=>.opB (some (decide (ks.length<=1000))) fun b=>(match b with
    | true=>.pure ((),{ s with ob:=oset n (.dict (dput k x ks vs).1 (dput k x ks vs).2) s.ob })
    | false=>.no)
   | none=>.no)
  | _,_=>.no:Fr (Unit × S)).run = (olook n s.ob).bind (setMO n i x s)
  cases olook n s.ob with
  | none=>rfl
  | some o=>
   cases o with
   | list l=>cases i with
    | int k=>exact dec_run _
    | _=>rfl
   | dict ks vs=>
    show _ = (keyOf i).bind _
    dsimp only
    cases keyOf i with
    | none=>rfl
    | some k=>exact dec_run _
   | inst c ns vs=>rfl
 | _=>rfl
noncomputable def osSet (x z y:B V):B Fl:=⟨sSet x.f z.f y.f,fun s=>(y.g s).bind fun p=>(x.g p.2).bind fun q=>(z.g q.2).bind fun r=>(gSet q.1 r.1 p.1 r.2).bind fun t=>.pure (.next,t.2),
 B.bnd fun a s=>B.bnd (fun b s=>B.bnd (fun i s=>B.bnd (x:=⟨setItem b i a,gSet b i a,gSet_ok b i a⟩) (fun _ _=>rfl) s) s) s⟩
noncomputable def osIf (t:B Bool) (x y:B Fl):B Fl:=⟨sIf t.f x.f y.f,fun s=>(t.g s).bind fun p=>match p.1 with
 | true=>x.g p.2
 | false=>y.g p.2,B.bnd fun a s=>by cases a <;> exact B.ok _ s⟩
noncomputable def oqF (m:M Fl):S->Fr (Fl × S):=fun s=>.opF m s .pure
theorem oqF_ok (f:M Fl) (s:S):(oqF f s).run = f s:=by
 show (f s).bind some = f s
 cases f s <;> rfl
noncomputable def osWhile (t:B Bool) (x:B Fl):B Fl:=⟨sWhile t.f x.f,oqF (sWhile t.f x.f),oqF_ok _⟩
noncomputable def osFor (t:Tg) (x:B Sq) (y:B Fl):B Fl:=⟨sFor t x.f y.f,fun s=>(x.g s).bind fun p=>match t.fits p.1.2.2 with
 | true=>(ot (thawSrc p.1 p.2)).bind fun q=>oqF (forL t y.f q.1) q.2
 | false=>.no,B.bnd fun a s=>by
 cases e:t.fits a.2.2 with
 | true=>dsimp only;rw [if_pos rfl];exact B.bnd (x:=oc (thawSrc a)) (fun _=>oqF_ok _) s
 | false=>rfl⟩
noncomputable def osAsgR (is:List Nat) (x:B V):B Fl:=⟨sAsgR is x.f,fun s=>(x.g s).bind fun p=>(match p.1 with
 | .tup l=>(gPuts is.reverse l.reverse p.2).bind fun q=>.pure (.next,q.2)
 | _=>.no),B.bnd fun a s=>by
 cases a <;> first | rfl | skip
 rename_i l
 exact B.bnd (x:=⟨_,gPuts is.reverse l.reverse,gPuts_ok _ _⟩) (fun _ _=>rfl) s⟩
noncomputable def b30 (E:En):B Fl:=
 (osSeq (osRet (oeComp false [none,none,some 1] (.one 1) (osrcSeq (oeVar 0)) [] (oeMeth E.rc E.mt .get (oeVar 2) [(okS "bc"),(oeVar 1)])))
 osNext)
noncomputable def f37_1 (E:En):B Fl:=
 (osSeq (osIf (otCmp .Eq (oeMeth E.rc E.mt .get (oeVar 1) [(okS "bc"),(oeVar 5)]) (oeG (some (.str "B"))))
 (osSeq (osAsg (.one 6) (oeBool .And [(oeCmp .Eq (oeVar 5) (oeG (some (.int 13)))),(oeCmp .Lt (oeBin false .Add (oeVar 4) (okI 1)) (oeLen (oeVar 0))),(oeCmp .Eq (oeSub (oeVar 0) (oeBin false .Add (oeVar 4) (okI 1))) (oeG (some (.int 10))))]))
 (osSeq (osIf (otNot (otVal (oeVar 6)))
 (osSeq (osExp (oeMeth E.rc E.mt .append (oeVar 2) [(oeTup [(oeVar 3),(oeBin false .Add (oeVar 4) (okI 1))])]))
 (osSeq (osAsg (.one 3) (oeBin false .Add (oeVar 4) (okI 1)))
 osNext))
 osNext)
 osNext))
 osNext)
 osNext)
noncomputable def b37 (E:En):B Fl:=
 (osSeq (osAsg (.one 2) (oeList true []))
 (osSeq (osAsg (.one 3) (okI 0))
 (osSeq (osFor (.many [4,5]) (osrcEnu (oeVar 0)) (f37_1 E))
 (osSeq (osIf (otCmp .Lt (oeVar 3) (oeLen (oeVar 0)))
 (osSeq (osExp (oeMeth E.rc E.mt .append (oeVar 2) [(oeTup [(oeVar 3),(oeLen (oeVar 0))])]))
 osNext)
 osNext)
 (osSeq (osRet (oeVar 2))
 osNext)))))
noncomputable def f44_1 (E:En):B Fl:=
 (osSeq (osIf (otCmp .In (oeVar 4) (oeG (some (.tup [.str "LRI",.str "RLI",.str "FSI"]))))
 (osSeq (osExp (oeMeth E.rc E.mt .append (oeVar 2) [(oeVar 3)]))
 osNext)
 (osSeq (osIf (otAll .And [(otCmp .Eq (oeVar 4) (okS "PDI")),(otCmp .NotEq (oeVar 2) (oeList false []))])
 (osSeq (osAsg (.one 5) (oeMeth E.rc E.mt .pop (oeVar 2) []))
 (osSeq (osSet (oeVar 1) (oeVar 5) (oeVar 3))
 (osSeq (osSet (oeVar 1) (oeVar 3) (oeVar 5))
 osNext)))
 (osSeq (osIf (otCmp .Eq (oeVar 4) (oeG (some (.str "B"))))
 (osSeq (osAsg (.one 2) (oeList true []))
 osNext)
 osNext)
 osNext))
 osNext))
 osNext)
noncomputable def b44 (E:En):B Fl:=
 (osSeq (osAsg (.one 1) (oeDict true [] []))
 (osSeq (osAsg (.one 2) (oeList true []))
 (osSeq (osFor (.many [3,4]) (osrcEnu (oeVar 0)) (f44_1 E))
 (osSeq (osRet (oeVar 1))
 osNext))))
noncomputable def w51_1 (E:En):B Fl:=
 (osSeq (osAsg (.one 5) (oeSub (oeVar 0) (oeVar 4)))
 (osSeq (osIf (otCmp .In (oeVar 5) (oeG (some (.tup [.str "L",.str "R",.str "AL"]))))
 (osSeq (osRet (oeVar 5))
 osNext)
 osNext)
 (osSeq (osIf (otCmp .Eq (oeVar 5) (oeG (some (.str "B"))))
 (osSeq (osRet okN)
 osNext)
 osNext)
 (osSeq (osIf (otCmp .In (oeVar 5) (oeG (some (.tup [.str "LRI",.str "RLI",.str "FSI"]))))
 (osSeq (osIf (otCmp .NotIn (oeVar 4) (oeVar 3))
 (osSeq (osRet okN)
 osNext)
 osNext)
 (osSeq (osAsg (.one 4) (oeSub (oeVar 3) (oeVar 4)))
 osNext))
 osNext)
 (osSeq (osAsg (.one 4) (oeBin false .Add (oeVar 4) (okI 1)))
 osNext)))))
noncomputable def t51_1 (E:En):B Bool:=
 (otCmp .Lt (oeVar 4) (oeVar 2))
noncomputable def b51 (E:En):B Fl:=
 (osSeq (osAsg (.one 4) (oeVar 1))
 (osSeq (osWhile (t51_1 E) (w51_1 E))
 (osSeq (osRet okN)
 osNext)))
noncomputable def b58 (E:En):B Fl:=
 (osSeq (osIf (otAll .Or [(otCmp .Eq (oeVar 1) (okS "ltr")),(otCmp .Eq (oeVar 1) (okS "rtl"))])
 (osSeq (osRet (oeIf (otCmp .Eq (oeVar 1) (okS "ltr")) (okI 0) (okI 1)))
 osNext)
 osNext)
 (osSeq (osAsg (.one 2) (oeCallP E.rc 51 [(oeVar 0),(okI 0),(oeLen (oeVar 0)),(oeCallP E.rc 44 [(oeVar 0)])]))
 (osSeq (osIf (otCmp .Is (oeVar 2) okN)
 (osSeq (osRet (oeIf (otCmp .Eq (oeVar 1) (okS "auto-rtl")) (okI 1) (okI 0)))
 osNext)
 osNext)
 (osSeq (osRet (oeIf (otCmp .Eq (oeVar 2) (okS "L")) (okI 0) (okI 1)))
 osNext))))
noncomputable def b72 (E:En):B Fl:=
 (osSeq (osAttr E.ak (oeVar 0) "level" (oeVar 1))
 (osSeq (osAttr E.ak (oeVar 0) "override" (oeVar 2))
 (osSeq (osAttr E.ak (oeVar 0) "is_isolate" (oeVar 3))
 osNext)))
noncomputable def b93 (E:En):B Fl:=
 (osSeq (osAttr E.ak (oeVar 0) "depth" (oeVar 2))
 (osSeq (osAttr E.ak (oeVar 0) "entries" (oeList true [(oeNewP E.rc 75 72 [(oeVar 1),okN,(okB false)])]))
 (osSeq (osAttr E.ak (oeVar 0) "over_isolates" (okI 0))
 (osSeq (osAttr E.ak (oeVar 0) "over_embeddings" (okI 0))
 (osSeq (osAttr E.ak (oeVar 0) "valid_isolates" (okI 0))
 osNext)))))
noncomputable def b100 (E:En):B Fl:=
 (osSeq (osRet (oeSub (oeAttr "entries" (oeVar 0)) (oeNeg (okI 1))))
 osNext)
noncomputable def f157_1 (E:En):B Fl:=
 (osSeq (osIf (otCmp .In (oeVar 8) (oeG (some (.tup [.str "RLE",.str "LRE",.str "RLO",.str "LRO",.str "PDF",.str "BN"]))))
 (osSeq (osExp (oeMeth E.rc E.mt .append (oeVar 5) [okN]))
 (osSeq (osExp (oeMeth E.rc E.mt .append (oeVar 6) [(okS "BN")]))
 (osSeq (osIf (otCmp .In (oeVar 8) (oeG (some (.tup [.str "RLE",.str "LRE",.str "RLO",.str "LRO"]))))
 (osSeq (osAsg (.one 9) (oeBool .Or [(oeCmp .Eq (oeVar 8) (okS "RLE")),(oeCmp .Eq (oeVar 8) (okS "RLO"))]))
 (osSeq (osAsg (.one 10) (oeIf (otAll .Or [(otCmp .Eq (oeVar 8) (okS "RLO")),(otCmp .Eq (oeVar 8) (okS "LRO"))]) (oeIf (otVal (oeVar 9)) (okS "R") (okS "L")) okN))
 (osSeq (osExp (oeMeth E.rc E.mt (.other "embed") (oeVar 3) [(oeVar 9),(oeVar 10)]))
 osNext)))
 (osSeq (osIf (otCmp .Eq (oeVar 8) (okS "PDF"))
 (osSeq (osExp (oeMeth E.rc E.mt (.other "end_embedding") (oeVar 3) []))
 osNext)
 osNext)
 osNext))
 osNext)))
 (osSeq (osIf (otCmp .Eq (oeVar 8) (oeG (some (.str "B"))))
 (osSeq (osExp (oeMeth E.rc E.mt .append (oeVar 5) [(oeVar 1)]))
 (osSeq (osExp (oeMeth E.rc E.mt .append (oeVar 6) [(oeVar 8)]))
 osNext))
 (osSeq (osIf (otCmp .Eq (oeVar 8) (okS "PDI"))
 (osSeq (osExp (oeMeth E.rc E.mt (.other "end_isolate") (oeVar 3) []))
 osNext)
 osNext)
 (osSeq (osAsg (.one 11) (oeMeth E.rc E.mt (.other "last") (oeVar 3) []))
 (osSeq (osExp (oeMeth E.rc E.mt .append (oeVar 5) [(oeAttr "level" (oeVar 11))]))
 (osSeq (osExp (oeMeth E.rc E.mt .append (oeVar 6) [(oeIf (otCmp .IsNot (oeAttr "override" (oeVar 11)) okN) (oeAttr "override" (oeVar 11)) (oeVar 8))]))
 (osSeq (osIf (otCmp .In (oeVar 8) (oeG (some (.tup [.str "LRI",.str "RLI",.str "FSI"]))))
 (osSeq (osExp (oeMeth E.rc E.mt (.other "isolate") (oeVar 3) [(oeCallP E.rc 164 [(oeVar 0),(oeVar 7),(oeVar 4)])]))
 osNext)
 osNext)
 osNext))))))
 osNext))
 osNext)
noncomputable def b157 (E:En):B Fl:=
 (osSeq (osAsg (.one 3) (oeNewI E.rc 145 93 [(oeVar 1),(oeVar 2)]))
 (osSeq (osAsg (.one 4) (oeCallP E.rc 44 [(oeVar 0)]))
 (osSeq (osAsg (.one 5) (oeList true []))
 (osSeq (osAsg (.one 6) (oeList true []))
 (osSeq (osFor (.many [7,8]) (osrcEnu (oeVar 0)) (f157_1 E))
 (osSeq (osRet (oeTup [(oeVar 5),(oeVar 6)]))
 osNext))))))
noncomputable def f171_1 (E:En):B Fl:=
 (osSeq (osIf (otCmp .IsNot (oeVar 4) okN)
 (osSeq (osIf (otCmp .NotEq (oeVar 4) (oeVar 2))
 (osSeq (osExp (oeMeth E.rc E.mt .append (oeVar 1) [oc (mkL true [])]))
 osNext)
 osNext)
 (osSeq (osExp (oeMeth E.rc E.mt .append (oeSub (oeVar 1) (oeNeg (okI 1))) [(oeVar 3)]))
 (osSeq (osAsg (.one 2) (oeVar 4))
 osNext)))
 osNext)
 osNext)
noncomputable def b171 (E:En):B Fl:=
 (osSeq (osAsg (.one 1) (oeList true []))
 (osSeq (osAsg (.one 2) okN)
 (osSeq (osFor (.many [3,4]) (osrcEnu (oeVar 0)) (f171_1 E))
 (osSeq (osRet (oeVar 1))
 osNext))))
noncomputable def b187 (E:En):B Fl:=
 (osSeq (osAttr E.ak (oeVar 0) "places" (oeVar 1))
 (osSeq (osAttr E.ak (oeVar 0) "classes" (oeVar 2))
 (osSeq (osAttr E.ak (oeVar 0) "level" (oeVar 3))
 (osSeq (osAttr E.ak (oeVar 0) "sos" (oeVar 4))
 (osSeq (osAttr E.ak (oeVar 0) "eos" (oeVar 5))
 (osSeq (osAttr E.ak (oeVar 0) "codes" (oeListOf false (oeVar 6)))
 osNext))))))
noncomputable def b201 (E:En):B Fl:=
 (osSeq (osRet (oeIf (otCmp .Eq (oeBin false .Mod (oeMax (oeVar 0) (oeVar 1)) (okI 2)) (okI 1)) (okS "R") (okS "L")))
 osNext)
noncomputable def w208_1 (E:En):B Fl:=
 (osSeq (osIf (otCmp .IsNot (oeSub (oeVar 0) (oeVar 1)) okN)
 (osSeq (osRet (oeSub (oeVar 0) (oeVar 1)))
 osNext)
 osNext)
 (osSeq (osAsg (.one 1) (oeBin false .Add (oeVar 1) (oeVar 2)))
 osNext))
noncomputable def t208_1 (E:En):B Bool:=
 (otCmp2 .LtE .Lt (okI 0) (oeVar 1) (oeLen (oeVar 0)))
noncomputable def b208 (E:En):B Fl:=
 (osSeq (osAsg (.one 1) (oeBin false .Add (oeVar 1) (oeVar 2)))
 (osSeq (osWhile (t208_1 E) (w208_1 E))
 (osSeq (osRet (oeVar 3))
 osNext)))
noncomputable def w215_1 (E:En):B Fl:=
 (osSeq (osExp (oeMeth E.rc E.mt .extend (oeVar 8) [(oeSub (oeVar 3) (oeSub (oeVar 4) (oeSub (oeVar 2) (oeSub (oeVar 8) (oeNeg (okI 1))))))]))
 osNext)
noncomputable def t215_1 (E:En):B Bool:=
 (otAll .And [(otCmp .In (oeSub (oeVar 0) (oeSub (oeVar 8) (oeNeg (okI 1)))) (oeG (some (.tup [.str "LRI",.str "RLI",.str "FSI"])))),(otCmp .In (oeSub (oeVar 8) (oeNeg (okI 1))) (oeVar 2))])
noncomputable def f215_3 (E:En):B Fl:=
 (osSeq (osIf (otAll .And [(otCmp .Eq (oeSub (oeVar 0) (oeSub (oeVar 6) (okI 0))) (okS "PDI")),(otCmp .In (oeSub (oeVar 6) (okI 0)) (oeVar 2))])
 (osSeq osCont
 osNext)
 osNext)
 (osSeq (osAsg (.one 8) (oeListOf true (oeVar 6)))
 (osSeq (osWhile (t215_1 E) (w215_1 E))
 (osSeq (osExp (oeMeth E.rc E.mt .append (oeVar 7) [oeFrz (oeVar 8)]))
 osNext))))
noncomputable def f215_4 (E:En):B Fl:=
 (osSeq (osSet (oeVar 4) (oeSub (oeVar 6) (okI 0)) (oeVar 5))
 osNext)
noncomputable def b215 (E:En):B Fl:=
 (osSeq (osAsg (.one 3) (oeCallP E.rc 171 [(oeVar 1)]))
 (osSeq (osAsg (.one 4) (oeDict true [] []))
 (osSeq (osFor (.many [5,6]) (osrcEnu (oeVar 3)) (f215_4 E))
 (osSeq (osAsg (.one 7) (oeList true []))
 (osSeq (osFor (.one 6) (osrcSeq (oeVar 3)) (f215_3 E))
 (osSeq (osRet (oeVar 7))
 osNext))))))
noncomputable def f221_1 (E:En):B Fl:=
 (osSeq (osAsg (.one 8) (oeSub (oeVar 7) (okI 0)))
 (osSeq (osAsg (.one 9) (oeSub (oeVar 7) (oeNeg (okI 1))))
 (osSeq (osAsg (.one 10) (oeSub (oeVar 1) (oeVar 8)))
 (osSeq (osAsg (.one 11) (oeCallP E.rc 201 [(oeVar 10),(oeCallP E.rc 208 [(oeVar 1),(oeVar 8),(oeNeg (okI 1)),(oeVar 3)])]))
 (osSeq (osIf (otAll .And [(otCmp .In (oeSub (oeVar 0) (oeVar 9)) (oeG (some (.tup [.str "LRI",.str "RLI",.str "FSI"])))),(otCmp .NotIn (oeVar 9) (oeVar 5))])
 (osSeq (osAsg (.one 12) (oeCallP E.rc 201 [(oeVar 10),(oeVar 3)]))
 osNext)
 (osSeq (osAsg (.one 12) (oeCallP E.rc 201 [(oeVar 10),(oeCallP E.rc 208 [(oeVar 1),(oeVar 9),(okI 1),(oeVar 3)])]))
 osNext))
 (osSeq (osAsg (.one 13) (oeIf (otCmp .IsNot (oeVar 4) okN) (oeComp false [none,none,some 4] (.one 1) (osrcSeq (oeVar 7)) [] (oeSub (oeVar 2) (oeVar 1))) (oeList false [])))
 (osSeq (osExp (oeMeth E.rc E.mt .append (oeVar 6) [(oeNewP E.rc 190 187 [(oeVar 7),(oeComp false [none,none,some 2] (.one 1) (osrcSeq (oeVar 7)) [] (oeSub (oeVar 2) (oeVar 1))),(oeVar 10),(oeVar 11),(oeVar 12),(oeVar 13)])]))
 osNext)))))))
noncomputable def b221 (E:En):B Fl:=
 (osSeq (osAsg (.one 5) (oeCallP E.rc 44 [(oeVar 0)]))
 (osSeq (osAsg (.one 6) (oeList true []))
 (osSeq (osFor (.one 7) (osrcSeq (oeCallP E.rc 215 [(oeVar 0),(oeVar 1),(oeVar 5)])) (f221_1 E))
 (osSeq (osRet (oeVar 6))
 osNext))))
noncomputable def b235 (E:En):B Fl:=
 (osSeq (osAttr E.ak (oeVar 0) "begin" (oeVar 1))
 (osSeq (osAttr E.ak (oeVar 0) "end" (oeBin false .Add (oeVar 1) (oeLen (oeVar 2))))
 (osSeq (osAttr E.ak (oeVar 0) "codes" (oeVar 2))
 (osSeq (osAttr E.ak (oeVar 0) "base" (oeVar 3))
 (osSeq (osAttr E.ak (oeVar 0) "kinds" (oeVar 4))
 (osSeq (osAttr E.ak (oeVar 0) "levels" (oeVar 5))
 (osSeq (osAttr E.ak (oeVar 0) "classes" (oeVar 6))
 osNext)))))))
noncomputable def b242 (E:En):B Fl:=
 (osSeq (osRet (oeCallP E.rc 221 [(oeAttr "kinds" (oeVar 0)),(oeAttr "levels" (oeVar 0)),(oeAttr "classes" (oeVar 0)),(oeAttr "base" (oeVar 0)),(oeAttr "codes" (oeVar 0))]))
 osNext)
noncomputable def f257_1 (E:En):B Fl:=
 (osSeq (osAsg (.one 7) (oeSlice false (oeVar 0) (some (oeVar 5)) (some (oeVar 6))))
 (osSeq (osAsg (.one 8) (oeCallP E.rc 30 [(oeVar 7),(oeVar 1)]))
 (osSeq (osAsg (.one 9) (oeCallP E.rc 58 [(oeVar 8),(oeVar 2)]))
 (osSeq (osAsg (.many [10,11]) (oeCallP E.rc 157 [(oeVar 8),(oeVar 9),(oeVar 3)]))
 (osSeq (osExp (oeMeth E.rc E.mt .append (oeVar 4) [(oeNewP E.rc 245 235 [(oeVar 5),(oeVar 7),(oeVar 9),(oeVar 8),(oeVar 10),(oeVar 11)])]))
 osNext)))))
noncomputable def b257 (E:En):B Fl:=
 (osSeq (osAsg (.one 4) (oeList true []))
 (osSeq (osFor (.many [5,6]) (osrcSeq (oeCallP E.rc 37 [(oeVar 0),(oeVar 1)])) (f257_1 E))
 (osSeq (osRet (oeVar 4))
 osNext)))
noncomputable def f268_1 (E:En):B Fl:=
 (osSeq (osIf (otCmp .Eq (oeVar 4) (okS "NSM"))
 (osSeq (osAsg (.one 4) (oeIf (otCmp .In (oeVar 3) (oeG (some (.tup [.str "LRI",.str "RLI",.str "FSI",.str "PDI"])))) (okS "ON") (oeVar 3)))
 osNext)
 osNext)
 (osSeq (osExp (oeMeth E.rc E.mt .append (oeVar 2) [(oeVar 4)]))
 (osSeq (osAsg (.one 3) (oeVar 4))
 osNext)))
noncomputable def b268 (E:En):B Fl:=
 (osSeq (osAsg (.one 2) (oeList true []))
 (osSeq (osAsg (.one 3) (oeVar 1))
 (osSeq (osFor (.one 4) (osrcSeq (oeVar 0)) (f268_1 E))
 (osSeq (osRet (oeVar 2))
 osNext))))
noncomputable def f275_1 (E:En):B Fl:=
 (osSeq (osIf (otCmp .In (oeVar 4) (oeTup [(okS "L"),(okS "R"),(okS "AL")]))
 (osSeq (osAsg (.one 3) (oeVar 4))
 osNext)
 osNext)
 (osSeq (osExp (oeMeth E.rc E.mt .append (oeVar 2) [(oeIf (otAll .And [(otCmp .Eq (oeVar 4) (okS "EN")),(otCmp .Eq (oeVar 3) (okS "AL"))]) (okS "AN") (oeVar 4))]))
 osNext))
noncomputable def b275 (E:En):B Fl:=
 (osSeq (osAsg (.one 2) (oeList true []))
 (osSeq (osAsg (.one 3) (oeVar 1))
 (osSeq (osFor (.one 4) (osrcSeq (oeVar 0)) (f275_1 E))
 (osSeq (osRet (oeVar 2))
 osNext))))
noncomputable def b280 (E:En):B Fl:=
 (osSeq (osRet (oeComp false [none,none] (.one 1) (osrcSeq (oeVar 0)) [] (oeIf (otCmp .Eq (oeVar 1) (okS "AL")) (okS "R") (oeVar 1))))
 osNext)
noncomputable def f287_1 (E:En):B Fl:=
 (osSeq (osAsgR [3,4] (oeTup [(oeSub (oeVar 0) (oeVar 2)),(oeSub (oeVar 0) (oeBin false .Sub (oeVar 2) (okI 1)))]))
 (osSeq (osIf (otCmp .Eq (oeVar 4) (oeSub (oeVar 0) (oeBin false .Add (oeVar 2) (okI 1))))
 (osSeq (osIf (otAll .Or [(otAll .And [(otCmp .Eq (oeVar 3) (okS "CS")),(otCmp .In (oeVar 4) (oeG (some (.tup [.str "EN",.str "AN"]))))]),(otAll .And [(otCmp .Eq (oeVar 3) (okS "ES")),(otCmp .Eq (oeVar 4) (okS "EN"))])])
 (osSeq (osSet (oeVar 1) (oeVar 2) (oeVar 4))
 osNext)
 osNext)
 osNext)
 osNext)
 osNext))
noncomputable def b287 (E:En):B Fl:=
 (osSeq (osAsg (.one 1) (oeListOf true (oeVar 0)))
 (osSeq (osFor (.one 2) (osrcRng (okI 1) (oeBin false .Sub (oeLen (oeVar 0)) (okI 1))) (f287_1 E))
 (osSeq (osRet (oeVar 1))
 osNext)))
noncomputable def f294_1 (E:En):B Fl:=
 (osSeq (osIf (otAll .And [(otCmp .In (oeVar 5) (oeVar 1)),(otCmp .Is (oeVar 3) okN)])
 (osSeq (osAsg (.one 3) (oeVar 4))
 osNext)
 (osSeq (osIf (otAll .And [(otCmp .NotIn (oeVar 5) (oeVar 1)),(otCmp .IsNot (oeVar 3) okN)])
 (osSeq (osExp (oeMeth E.rc E.mt .append (oeVar 2) [(oeTup [(oeVar 3),(oeVar 4)])]))
 (osSeq (osAsg (.one 3) okN)
 osNext))
 osNext)
 osNext))
 osNext)
noncomputable def b294 (E:En):B Fl:=
 (osSeq (osAsg (.one 2) (oeList true []))
 (osSeq (osAsg (.one 3) okN)
 (osSeq (osFor (.many [4,5]) (osrcEnu (oeVar 0)) (f294_1 E))
 (osSeq (osIf (otCmp .IsNot (oeVar 3) okN)
 (osSeq (osExp (oeMeth E.rc E.mt .append (oeVar 2) [(oeTup [(oeVar 3),(oeLen (oeVar 0))])]))
 osNext)
 osNext)
 (osSeq (osRet (oeVar 2))
 osNext)))))
noncomputable def b301 (E:En):B Fl:=
 (osSeq (osAsg (.one 5) (oeIf (otCmp .Gt (oeVar 1) (okI 0)) (oeSub (oeVar 0) (oeBin false .Sub (oeVar 1) (okI 1))) (oeVar 3)))
 (osSeq (osRet (oeTup [(oeVar 5),(oeIf (otCmp .Lt (oeVar 2) (oeLen (oeVar 0))) (oeSub (oeVar 0) (oeVar 2)) (oeVar 4))]))
 osNext))
noncomputable def f308_1 (E:En):B Fl:=
 (osSeq (osSet (oeVar 1) (oeVar 4) (okS "EN"))
 osNext)
noncomputable def f308_2 (E:En):B Fl:=
 (osSeq (osIf (otCmp .In (okS "EN") (oeCallP E.rc 301 [(oeVar 0),(oeVar 2),(oeVar 3),okN,okN]))
 (osSeq (osFor (.one 4) (osrcRng (oeVar 2) (oeVar 3)) (f308_1 E))
 osNext)
 osNext)
 osNext)
noncomputable def b308 (E:En):B Fl:=
 (osSeq (osAsg (.one 1) (oeListOf true (oeVar 0)))
 (osSeq (osFor (.many [2,3]) (osrcSeq (oeCallP E.rc 294 [(oeVar 0),(oeTup [(okS "ET")])])) (f308_2 E))
 (osSeq (osRet (oeVar 1))
 osNext)))
noncomputable def b313 (E:En):B Fl:=
 (osSeq (osRet (oeComp false [none,none,none] (.one 1) (osrcSeq (oeVar 0)) [] (oeIf (otCmp .In (oeVar 1) (oeG (some (.tup [.str "ES",.str "ET",.str "CS"])))) (okS "ON") (oeVar 1))))
 osNext)
noncomputable def f320_1 (E:En):B Fl:=
 (osSeq (osIf (otCmp .In (oeVar 4) (oeTup [(okS "L"),(okS "R")]))
 (osSeq (osAsg (.one 3) (oeVar 4))
 osNext)
 osNext)
 (osSeq (osExp (oeMeth E.rc E.mt .append (oeVar 2) [(oeIf (otAll .And [(otCmp .Eq (oeVar 4) (okS "EN")),(otCmp .Eq (oeVar 3) (okS "L"))]) (okS "L") (oeVar 4))]))
 osNext))
noncomputable def b320 (E:En):B Fl:=
 (osSeq (osAsg (.one 2) (oeList true []))
 (osSeq (osAsg (.one 3) (oeVar 1))
 (osSeq (osFor (.one 4) (osrcSeq (oeVar 0)) (f320_1 E))
 (osSeq (osRet (oeVar 2))
 osNext))))
noncomputable def b327 (E:En):B Fl:=
 (osSeq (osAsg (.one 2) (oeCallP E.rc 280 [(oeCallP E.rc 275 [(oeCallP E.rc 268 [(oeVar 0),(oeVar 1)]),(oeVar 1)])]))
 (osSeq (osRet (oeCallP E.rc 320 [(oeCallP E.rc 313 [(oeCallP E.rc 308 [(oeCallP E.rc 287 [(oeVar 2)])])]),(oeVar 1)]))
 osNext))
noncomputable def b334 (E:En):B Fl:=
 (osSeq (osRet (oeCallP E.rc 327 [(oeAttr "classes" (oeVar 0)),(oeAttr "sos" (oeVar 0))]))
 osNext)
noncomputable def b341 (E:En):B Fl:=
 (osSeq (osAsg (.one 2) (oeMeth E.rc E.mt .get (oeVar 1) [(okS "dm"),(oeVar 0)]))
 (osSeq (osIf (otAll .And [(otCmp .IsNot (oeVar 2) okN),(otCmp .Eq (oeSub (oeVar 2) (okI 0)) (okS "")),(otCmp .Eq (oeLen (oeSub (oeVar 2) (okI 1))) (okI 1))])
 (osSeq (osRet (oeSub (oeSub (oeVar 2) (okI 1)) (okI 0)))
 osNext)
 osNext)
 (osSeq (osRet (oeVar 0))
 osNext)))
noncomputable def w348_1 (E:En):B Fl:=
 (osSeq (osAsg (.one 9) (oeBin false .Sub (oeVar 9) (okI 1)))
 osNext)
noncomputable def t348_1 (E:En):B Bool:=
 (otAll .And [(otCmp .GtE (oeVar 9) (okI 0)),(otCmp .NotEq (oeSub (oeSub (oeVar 4) (oeVar 9)) (okI 0)) (oeVar 8))])
noncomputable def f348_3 (E:En):B Fl:=
 (osSeq (osAsg (.one 7) (oeIf (otCmp .Eq (oeSub (oeVar 1) (oeVar 5)) (okS "ON")) (oeMeth E.rc E.mt .get (oeVar 2) [(okS "bpb"),(oeVar 6)]) okN))
 (osSeq (osIf (otAll .And [(otCmp .IsNot (oeVar 7) okN),(otCmp .Eq (oeSub (oeVar 7) (okI 0)) (okS "o"))])
 (osSeq (osIf (otCmp .GtE (oeLen (oeVar 4)) (oeG (some (.int 63))))
 (osSeq osBrk
 osNext)
 osNext)
 (osSeq (osExp (oeMeth E.rc E.mt .append (oeVar 4) [(oeTup [(oeCallP E.rc 341 [(oeSub (oeVar 7) (okI 1)),(oeVar 2)]),(oeVar 5)])]))
 osNext))
 (osSeq (osIf (otCmp .IsNot (oeVar 7) okN)
 (osSeq (osAsg (.one 8) (oeCallP E.rc 341 [(oeVar 6),(oeVar 2)]))
 (osSeq (osAsg (.one 9) (oeBin false .Sub (oeLen (oeVar 4)) (okI 1)))
 (osSeq (osWhile (t348_1 E) (w348_1 E))
 (osSeq (osIf (otCmp .GtE (oeVar 9) (okI 0))
 (osSeq (osExp (oeMeth E.rc E.mt .append (oeVar 3) [(oeTup [(oeSub (oeSub (oeVar 4) (oeVar 9)) (okI 1)),(oeVar 5)])]))
 (osSeq (osAsg (.one 4) (oeSlice true (oeVar 4) none (some (oeVar 9))))
 osNext))
 osNext)
 osNext))))
 osNext)
 osNext))
 osNext))
noncomputable def b348 (E:En):B Fl:=
 (osSeq (osAsg (.one 3) (oeList true []))
 (osSeq (osAsg (.one 4) (oeList true []))
 (osSeq (osFor (.many [5,6]) (osrcEnu (oeVar 0)) (f348_3 E))
 (osSeq (osRet (oeSorted false (oeVar 3)))
 osNext))))
noncomputable def b355 (E:En):B Fl:=
 (osSeq (osRet (oeCallP E.rc 348 [(oeAttr "codes" (oeVar 0)),(oeAttr "classes" (oeVar 0)),(oeVar 1)]))
 osNext)
noncomputable def b362 (E:En):B Fl:=
 (osSeq (osIf (otCmp .Eq (oeVar 0) (okS "L"))
 (osSeq (osRet (okS "L"))
 osNext)
 osNext)
 (osSeq (osRet (oeIf (otAll .Or [(otCmp .Eq (oeVar 0) (okS "R")),(otCmp .In (oeVar 0) (oeG (some (.tup [.str "EN",.str "AN"]))))]) (okS "R") okN))
 osNext))
noncomputable def b369 (E:En):B Fl:=
 (osSeq (osRet (oeIf (otCmp .Eq (oeBin false .Mod (oeVar 0) (okI 2)) (okI 0)) (okS "L") (okS "R")))
 osNext)
noncomputable def f376_1 (E:En):B Fl:=
 (osSeq (osAsg (.one 7) (oeCallP E.rc 362 [(oeVar 6)]))
 (osSeq (osIf (otCmp .IsNot (oeVar 7) okN)
 (osSeq (osRet (oeVar 7))
 osNext)
 osNext)
 osNext))
noncomputable def f376_2 (E:En):B Fl:=
 (osSeq (osAsg (.one 7) (oeCallP E.rc 362 [(oeVar 6)]))
 (osSeq (osIf (otCmp .Eq (oeVar 7) (oeVar 4))
 (osSeq (osRet (oeVar 4))
 osNext)
 osNext)
 (osSeq (osAsg (.one 5) (oeBool .Or [(oeVar 5),(oeCmp .IsNot (oeVar 7) okN)]))
 osNext)))
noncomputable def b376 (E:En):B Fl:=
 (osSeq (osAsg (.one 4) (oeCallP E.rc 369 [(oeVar 2)]))
 (osSeq (osAsg (.one 5) (okB false))
 (osSeq (osFor (.one 6) (osrcSeq (oeSlice false (oeVar 0) (some (oeBin false .Add (oeSub (oeVar 1) (okI 0)) (okI 1))) (some (oeSub (oeVar 1) (okI 1))))) (f376_2 E))
 (osSeq (osIf (otNot (otVal (oeVar 5)))
 (osSeq (osRet okN)
 osNext)
 osNext)
 (osSeq (osFor (.one 6) (osrcSeq (oeRev false (oeSlice false (oeVar 0) none (some (oeSub (oeVar 1) (okI 0)))))) (f376_1 E))
 (osSeq (osRet (oeVar 3))
 osNext))))))
noncomputable def w383_1 (E:En):B Fl:=
 (osSeq (osSet (oeVar 5) (oeVar 9) (oeVar 7))
 (osSeq (osAsg (.one 9) (oeBin false .Add (oeVar 9) (okI 1)))
 osNext))
noncomputable def t383_1 (E:En):B Bool:=
 (otAll .And [(otCmp .Lt (oeVar 9) (oeLen (oeVar 5))),(otCmp .Eq (oeSub (oeVar 4) (oeVar 9)) (okS "NSM"))])
noncomputable def f383_3 (E:En):B Fl:=
 (osSeq (osSet (oeVar 5) (oeVar 8) (oeVar 7))
 (osSeq (osAsg (.one 9) (oeBin false .Add (oeVar 8) (okI 1)))
 (osSeq (osWhile (t383_1 E) (w383_1 E))
 osNext)))
noncomputable def f383_4 (E:En):B Fl:=
 (osSeq (osAsg (.one 7) (oeCallL E.rc 376 [(oeVar 5),(oeVar 6),(oeVar 2),(oeVar 3)]))
 (osSeq (osIf (otCmp .IsNot (oeVar 7) okN)
 (osSeq (osFor (.one 8) (osrcSeq (oeVar 6)) (f383_3 E))
 osNext)
 osNext)
 osNext))
noncomputable def b383 (E:En):B Fl:=
 (osSeq (osAsg (.one 5) (oeListOf true (oeVar 0)))
 (osSeq (osFor (.one 6) (osrcSeq (oeVar 1)) (f383_4 E))
 (osSeq (osRet (oeVar 5))
 osNext)))
noncomputable def f390_1 (E:En):B Fl:=
 (osSeq (osSet (oeVar 4) (oeVar 10) (oeVar 9))
 osNext)
noncomputable def f390_2 (E:En):B Fl:=
 (osSeq (osAsg (.many [7,8]) (oeCallP E.rc 301 [(oeVar 0),(oeVar 5),(oeVar 6),(oeVar 2),(oeVar 3)]))
 (osSeq (osAsg (.one 9) (oeCallP E.rc 362 [(oeVar 7)]))
 (osSeq (osIf (otCmp .NotEq (oeVar 9) (oeCallP E.rc 362 [(oeVar 8)]))
 (osSeq (osAsg (.one 9) (oeCallP E.rc 369 [(oeVar 1)]))
 osNext)
 osNext)
 (osSeq (osFor (.one 10) (osrcRng (oeVar 5) (oeVar 6)) (f390_1 E))
 osNext))))
noncomputable def b390 (E:En):B Fl:=
 (osSeq (osAsg (.one 4) (oeListOf true (oeVar 0)))
 (osSeq (osFor (.many [5,6]) (osrcSeq (oeCallP E.rc 294 [(oeVar 0),(oeG (some (.tup [.str "B",.str "S",.str "WS",.str "ON",.str "LRI",.str "RLI",.str "FSI",.str "PDI"])))])) (f390_2 E))
 (osSeq (osRet (oeVar 4))
 osNext)))
noncomputable def b398 (E:En):B Fl:=
 (osSeq (osAsg (.one 3) (oeAttr "classes" (oeVar 0)))
 (osSeq (osAsg (.one 4) (oeIf (otCmp .Is (oeVar 2) okN) (oeVar 3) (oeVar 2)))
 (osSeq (osAsg (.one 5) (oeCallP E.rc 383 [(oeVar 3),(oeCallP E.rc 355 [(oeVar 0),(oeVar 1)]),(oeAttr "level" (oeVar 0)),(oeAttr "sos" (oeVar 0)),(oeVar 4)]))
 (osSeq (osRet (oeCallP E.rc 390 [(oeVar 5),(oeAttr "level" (oeVar 0)),(oeAttr "sos" (oeVar 0)),(oeAttr "eos" (oeVar 0))]))
 osNext))))
noncomputable def b405 (E:En):B Fl:=
 (osSeq (osIf (otCmp .Eq (oeBin false .Mod (oeVar 1) (okI 2)) (okI 0))
 (osSeq (osRet (oeBin false .Add (oeVar 1) (oeIf (otCmp .In (oeVar 0) (oeG (some (.tup [.str "EN",.str "AN"])))) (okI 2) (oeIf (otCmp .Eq (oeVar 0) (okS "R")) (okI 1) (okI 0)))))
 osNext)
 osNext)
 (osSeq (osRet (oeIf (otCmp .Eq (oeVar 0) (okS "R")) (oeVar 1) (oeBin false .Add (oeVar 1) (okI 1))))
 osNext))
noncomputable def b410 (E:En):B Fl:=
 (osSeq (osRet (oeComp false [none,none,none,some 1] (.one 1) (osrcSeq (oeVar 0)) [] (oeCallP E.rc 405 [(oeVar 1),(oeVar 3)])))
 osNext)
noncomputable def b417 (E:En):B Fl:=
 (osSeq (osAsg (.one 2) (oeCallP E.rc 334 [(oeVar 0)]))
 (osSeq (osAsg (.one 3) (oeNewP E.rc 190 187 [(oeAttr "places" (oeVar 0)),(oeVar 2),(oeAttr "level" (oeVar 0)),(oeAttr "sos" (oeVar 0)),(oeAttr "eos" (oeVar 0)),(oeAttr "codes" (oeVar 0))]))
 (osSeq (osRet (oeCallP E.rc 410 [(oeCallP E.rc 398 [(oeVar 3),(oeVar 1),(oeAttr "classes" (oeVar 0))]),(oeAttr "level" (oeVar 0))]))
 osNext)))
noncomputable def f424_1 (E:En):B Fl:=
 (osSeq (osSet (oeVar 2) (oeVar 4) (oeVar 5))
 osNext)
noncomputable def f424_2 (E:En):B Fl:=
 (osSeq (osFor (.many [4,5]) (osrcZip (oeAttr "places" (oeVar 3)) (oeCallP E.rc 417 [(oeVar 3),(oeVar 1)])) (f424_1 E))
 osNext)
noncomputable def b424 (E:En):B Fl:=
 (osSeq (osAsg (.one 2) (oeListOf true (oeAttr "levels" (oeVar 0))))
 (osSeq (osFor (.one 3) (osrcSeq (oeMeth E.rc E.mt (.other "sequences") (oeVar 0) [])) (f424_2 E))
 (osSeq (osRet (oeVar 2))
 osNext)))
noncomputable def f432_1 (E:En):B Fl:=
 (osSeq (osExp (oeMeth E.rc E.mt .extend (oeVar 4) [(oeCallP E.rc 424 [(oeVar 5),(oeVar 1)])]))
 osNext)
noncomputable def b432 (E:En):B Fl:=
 (osSeq (osAsg (.one 4) (oeList true []))
 (osSeq (osFor (.one 5) (osrcSeq (oeCallP E.rc 257 [(oeVar 0),(oeVar 1),(oeVar 2),(oeVar 3)])) (f432_1 E))
 (osSeq (osRet (oeVar 4))
 osNext)))
noncomputable def w439_1 (E:En):B Fl:=
 (osSeq (osAsg (.one 4) (oeBin false .FloorDiv (oeBin false .Add (oeVar 2) (oeVar 3)) (okI 2)))
 (osSeq (osIf (otCmp .LtE (oeSub (oeVar 0) (oeVar 4)) (oeVar 1))
 (osSeq (osAsg (.one 2) (oeBin false .Add (oeVar 4) (okI 1)))
 osNext)
 (osSeq (osAsg (.one 3) (oeVar 4))
 osNext))
 osNext))
noncomputable def t439_1 (E:En):B Bool:=
 (otCmp .Lt (oeVar 2) (oeVar 3))
noncomputable def b439 (E:En):B Fl:=
 (osSeq (osAsg (.one 2) (okI 0))
 (osSeq (osAsg (.one 3) (oeLen (oeVar 0)))
 (osSeq (osWhile (t439_1 E) (w439_1 E))
 (osSeq (osRet (oeBin false .Sub (oeVar 2) (okI 1)))
 osNext))))
noncomputable def b446 (E:En):B Fl:=
 (osSeq (osRet (oeBool .And [(oeCmp .Eq (oeVar 0) (oeVar 1)),(oeCmp .Eq (oeIs (oeVar 0) (oeG (some (.st (.type "bool"))))) (oeIs (oeVar 1) (oeG (some (.st (.type "bool"))))))]))
 osNext)
noncomputable def b460 (E:En):B Fl:=
 (osSeq (osAttr E.ak (oeVar 0) "default" (oeVar 1))
 (osSeq (osAttr E.ak (oeVar 0) "starts" (oeList false [(okI 0)]))
 (osSeq (osAttr E.ak (oeVar 0) "values" (oeList false [(oeVar 1)]))
 osNext)))
noncomputable def b467 (E:En):B Fl:=
 (osSeq (osRet (oeSub (oeAttr "values" (oeVar 0)) (oeCallP E.rc 439 [(oeAttr "starts" (oeVar 0)),(oeVar 1)])))
 osNext)
noncomputable def b474 (E:En):B Fl:=
 (osSeq (osIf (otCmp .Gt (oeVar 1) (oeVar 2))
 (osSeq (osRet (oeK .none))
 osNext)
 osNext)
 (osSeq (osAsg (.one 4) (oeBin false .Add (oeCallP E.rc 439 [(oeAttr "starts" (oeVar 0)),(oeBin false .Sub (oeVar 1) (okI 1))]) (okI 1)))
 (osSeq (osAsg (.one 5) (oeBin false .Add (oeCallP E.rc 439 [(oeAttr "starts" (oeVar 0)),(oeBin false .Add (oeVar 2) (okI 1))]) (okI 1)))
 (osSeq (osAsg (.one 6) (oeSub (oeAttr "values" (oeVar 0)) (oeBin false .Sub (oeVar 5) (okI 1))))
 (osSeq (osAsgR [7,8] (oeTup [(oeList true [(oeVar 1)]),(oeList true [(oeVar 3)])]))
 (osSeq (osIf (otAll .And [(otCmp .Lt (oeVar 2) (oeG (some (.int 1114111)))),(otNot (otVal (oeCallP E.rc 446 [(oeVar 6),(oeVar 3)])))])
 (osSeq (osExp (oeMeth E.rc E.mt .append (oeVar 7) [(oeBin false .Add (oeVar 2) (okI 1))]))
 (osSeq (osExp (oeMeth E.rc E.mt .append (oeVar 8) [(oeVar 6)]))
 osNext))
 osNext)
 (osSeq (osIf (otAll .And [(otCmp .Gt (oeVar 4) (okI 0)),(otVal (oeCallP E.rc 446 [(oeSub (oeAttr "values" (oeVar 0)) (oeBin false .Sub (oeVar 4) (okI 1))),(oeVar 3)]))])
 (osSeq (osAsgR [7,8] (oeTup [(oeSlice true (oeVar 7) (some (okI 1)) none),(oeSlice true (oeVar 8) (some (okI 1)) none)]))
 osNext)
 osNext)
 (osSeq (osAttr E.ak (oeVar 0) "starts" (oeBin false .Add (oeBin false .Add (oeSlice false (oeAttr "starts" (oeVar 0)) none (some (oeVar 4))) (oeVar 7)) (oeSlice false (oeAttr "starts" (oeVar 0)) (some (oeVar 5)) none)))
 (osSeq (osAttr E.ak (oeVar 0) "values" (oeBin false .Add (oeBin false .Add (oeSlice false (oeAttr "values" (oeVar 0)) none (some (oeVar 4))) (oeVar 8)) (oeSlice false (oeAttr "values" (oeVar 0)) (some (oeVar 5)) none)))
 osNext)))))))))
noncomputable def f502_1 (E:En):B Fl:=
 (osSeq (osSet (oeVar 0) (oeVar 1) (oeTup []))
 osNext)
noncomputable def f502_2 (E:En):B Fl:=
 (osSeq (osSet (oeVar 0) (oeVar 1) okN)
 osNext)
noncomputable def f502_3 (E:En):B Fl:=
 (osSeq (osSet (oeVar 0) (oeVar 1) (okB false))
 osNext)
noncomputable def f502_4 (E:En):B Fl:=
 (osSeq (osSet (oeVar 0) (oeVar 1) (okS "Other"))
 osNext)
noncomputable def b502 (E:En):B Fl:=
 (osSeq (osAsg (.one 0) (oeDict true [(okS "gc"),(okS "ccc"),(okS "bc"),(okS "lb"),(okS "ea"),(okS "sc"),(okS "jt"),(okS "incb")] [(okS "Cn"),(okI 0),(okS "L"),(okS "XX"),(okS "N"),(okS "Zzzz"),(okS "U"),(okS "None")]))
 (osSeq (osFor (.one 1) (osrcSeq (oeTup [(okS "gcb"),(okS "wb"),(okS "sb")])) (f502_4 E))
 (osSeq (osFor (.one 1) (osrcSeq (oeTup [(okS "ex"),(okS "sd"),(okS "cased"),(okS "ci"),(okS "ep"),(okS "di"),(okS "ids"),(okS "idc"),(okS "xids"),(okS "xidc"),(okS "pat_syn"),(okS "pat_ws"),(okS "idst")])) (f502_3 E))
 (osSeq (osFor (.one 1) (osrcSeq (oeTup [(okS "dm"),(okS "uc"),(okS "lc"),(okS "tc"),(okS "cf"),(okS "bm"),(okS "bpb"),(okS "scx"),(okS "nt"),(okS "nv"),(okS "name"),(okS "conf"),(okS "nfkc_cf")])) (f502_2 E))
 (osSeq (osFor (.one 1) (osrcSeq (oeTup [(okS "suc"),(okS "slc"),(okS "stc"),(okS "alias")])) (f502_1 E))
 (osSeq (osSet (oeVar 0) (okS "idna") (oeTup [(okS "disallowed"),(oeTup [])]))
 (osSeq (osRet (oeVar 0))
 osNext)))))))
noncomputable def b516 (E:En):B Fl:=
 (osSeq (osAttr E.ak (oeVar 0) "defaults" (oeCallP E.rc 502 []))
 (osSeq (osAttr E.ak (oeVar 0) "maps" (oeDict true [] []))
 (osSeq (osAttr E.ak (oeVar 0) "properties" (oeDict false [] []))
 (osSeq (osAttr E.ak (oeVar 0) "words" (oeDict false [] []))
 osNext))))
noncomputable def b523 (E:En):B Fl:=
 (osSeq (osExp (oeMeth E.rc E.mt (.other "put") (oeMeth E.rc E.mt (.other "map_of") (oeVar 0) [(oeVar 1)]) [(oeVar 2),(oeVar 3),(oeVar 4)]))
 osNext)
noncomputable def b530 (E:En):B Fl:=
 (osSeq (osIf (otCmp .In (oeVar 1) (oeAttr "maps" (oeVar 0)))
 (osSeq (osRet (oeMeth E.rc E.mt .get (oeSub (oeAttr "maps" (oeVar 0)) (oeVar 1)) [(oeVar 2)]))
 osNext)
 osNext)
 (osSeq (osRet (oeMeth E.rc E.mt .get (oeAttr "defaults" (oeVar 0)) [(oeVar 1)]))
 osNext))
noncomputable def b537 (E:En):B Fl:=
 (osSeq (osIf (otCmp .NotIn (oeVar 1) (oeAttr "maps" (oeVar 0)))
 (osSeq (osSet (oeAttr "maps" (oeVar 0)) (oeVar 1) (oeNewI E.rc 491 460 [(oeMeth E.rc E.mt .get (oeAttr "defaults" (oeVar 0)) [(oeVar 1)])]))
 osNext)
 osNext)
 (osSeq (osRet (oeSub (oeAttr "maps" (oeVar 0)) (oeVar 1)))
 osNext))
noncomputable def b551 (E:En):B Fl:=
 (osSeq (osRet (oeList false [(oeTup [(okI 40),(okS "o"),(okI 0)]),(oeTup [(okI 91),(okS "o"),(okI 1)]),(oeTup [(okI 9001),(okS "o"),(okI 2)]),(oeTup [(okI 41),(okS "c"),(okI 0)]),(oeTup [(okI 93),(okS "c"),(okI 1)]),(oeTup [(okI 9002),(okS "c"),(okI 2)]),(oeTup [(okI 12296),(okS "o"),(okI 2)]),(oeTup [(okI 12297),(okS "c"),(okI 2)])]))
 osNext)
noncomputable def b558 (E:En):B Fl:=
 (osSeq (osRet (oeDict false [(okI 40),(okI 91),(okI 9001),(okI 41),(okI 93),(okI 9002),(okI 12296),(okI 12297)] [(okI 41),(okI 93),(okI 9002),(okI 40),(okI 91),(okI 9001),(okI 12297),(okI 12296)]))
 osNext)
noncomputable def b565 (E:En):B Fl:=
 (osSeq (osRet (oeList false [(okS "L"),(okS "R"),(okS "AL"),(okS "EN"),(okS "AN"),(okS "ON"),(okS "WS"),(okS "NSM")]))
 osNext)
noncomputable def b570 (E:En):B Fl:=
 (osSeq (osRet (oeDict true [(okS "cells"),(okS "at")] [(oeComp false [none,none,none] (.one 1) (osrcSeq (oeSlice false (oeVar 0) none (some (okI 40)))) [] (oeBin false .Mod (oeInt (oeVar 1)) (okI 1000000007))),(okI 0)]))
 osNext)
noncomputable def b577 (E:En):B Fl:=
 (osSeq (osAsgR [2,3] (oeTup [(oeSub (oeVar 0) (okS "at")),(oeSub (oeVar 0) (okS "cells"))]))
 (osSeq (osSet (oeVar 0) (okS "at") (oeBin false .Add (oeVar 2) (okI 1)))
 (osSeq (osIf (otCmp .Lt (oeVar 2) (oeLen (oeVar 3)))
 (osSeq (osRet (oeBin false .Mod (oeSub (oeVar 3) (oeVar 2)) (oeVar 1)))
 osNext)
 osNext)
 (osSeq (osIf (otCmp .Eq (oeVar 3) (oeList false []))
 (osSeq (osRet (oeBin false .Mod (oeBin false .Add (oeBin false .Mult (oeVar 2) (okI 7)) (oeBin false .FloorDiv (oeVar 2) (okI 3))) (oeVar 1)))
 osNext)
 osNext)
 (osSeq (osRet (oeBin false .Mod (oeBin false .Add (oeBin false .FloorDiv (oeSub (oeVar 3) (oeBin false .Mod (oeVar 2) (oeLen (oeVar 3)))) (oeBin false .Add (oeVar 2) (okI 1))) (oeBin false .Mult (oeVar 2) (okI 5))) (oeVar 1)))
 osNext)))))
noncomputable def f584_1 (E:En):B Fl:=
 (osSeq (osAsg (.one 3) (oeIf (otCmp .Eq (oeVar 3) (okS "AL")) (okS "R") (oeVar 3)))
 (osSeq (osAsg (.one 4) (oeIf (otCmp .In (oeVar 3) (oeTup [(okS "L"),(okS "R")])) (oeVar 3) (oeVar 4)))
 (osSeq (osExp (oeMeth E.rc E.mt .append (oeVar 2) [(oeIf (otAll .And [(otCmp .Eq (oeVar 3) (okS "EN")),(otCmp .Eq (oeVar 4) (okS "L"))]) (okS "L") (oeVar 3))]))
 osNext)))
noncomputable def f584_2 (E:En):B Fl:=
 (osSeq (osAsg (.one 4) (oeIf (otCmp .In (oeVar 3) (oeTup [(okS "L"),(okS "R"),(okS "AL")])) (oeVar 3) (oeVar 4)))
 (osSeq (osExp (oeMeth E.rc E.mt .append (oeVar 5) [(oeIf (otAll .And [(otCmp .Eq (oeVar 3) (okS "EN")),(otCmp .Eq (oeVar 4) (okS "AL"))]) (okS "AN") (oeVar 3))]))
 osNext))
noncomputable def f584_3 (E:En):B Fl:=
 (osSeq (osExp (oeMeth E.rc E.mt .append (oeVar 2) [(oeIf (otCmp .Eq (oeVar 3) (okS "NSM")) (oeIf (otCmp .NotEq (oeVar 2) (oeList false [])) (oeSub (oeVar 2) (oeNeg (okI 1))) (oeVar 1)) (oeVar 3))]))
 osNext)
noncomputable def b584 (E:En):B Fl:=
 (osSeq (osAsg (.one 2) (oeList true []))
 (osSeq (osFor (.one 3) (osrcSeq (oeVar 0)) (f584_3 E))
 (osSeq (osAsgR [4,5] (oeTup [(oeVar 1),(oeList true [])]))
 (osSeq (osFor (.one 3) (osrcSeq (oeVar 2)) (f584_2 E))
 (osSeq (osAsgR [4,2] (oeTup [(oeVar 1),(oeList true [])]))
 (osSeq (osFor (.one 3) (osrcSeq (oeVar 5)) (f584_1 E))
 (osSeq (osRet (oeVar 2))
 osNext)))))))
noncomputable def b591 (E:En):B Fl:=
 (osSeq (osRet (oeMeth E.rc E.mt .get (oeDict false [(okS "L"),(okS "R"),(okS "EN"),(okS "AN")] [(okS "L"),(okS "R"),(okS "R"),(okS "R")]) [(oeVar 0)]))
 osNext)
noncomputable def f596_1 (E:En):B Fl:=
 (osSeq (osIf (otAll .And [(otCmp .IsNot (oeVar 4) okN),(otCmp .Eq (oeSub (oeVar 4) (okI 1)) (okS "o"))])
 (osSeq (osExp (oeMeth E.rc E.mt .append (oeVar 1) [(oeTup [(oeVar 3),(oeSub (oeVar 4) (okI 2))])]))
 osNext)
 (osSeq (osIf (otCmp .IsNot (oeVar 4) okN)
 (osSeq (osAsg (.one 5) (oeComp false [none,none,none,some 4] (.many [1,2]) (osrcEnu (oeVar 1)) [(otCmp .Eq (oeSub (oeVar 2) (okI 1)) (oeSub (oeVar 3) (okI 2)))] (oeVar 1)))
 (osSeq (osIf (otCmp .NotEq (oeVar 5) (oeList false []))
 (osSeq (osExp (oeMeth E.rc E.mt .append (oeVar 2) [(oeTup [(oeSub (oeSub (oeVar 1) (oeSub (oeVar 5) (oeNeg (okI 1)))) (okI 0)),(oeVar 3)])]))
 (osSeq (osAsg (.one 1) (oeSlice true (oeVar 1) none (some (oeSub (oeVar 5) (oeNeg (okI 1))))))
 osNext))
 osNext)
 osNext))
 osNext)
 osNext))
 osNext)
noncomputable def b596 (E:En):B Fl:=
 (osSeq (osAsgR [1,2] (oeTup [(oeList true []),(oeList true [])]))
 (osSeq (osFor (.many [3,4]) (osrcEnu (oeVar 0)) (f596_1 E))
 (osSeq (osRet (oeSorted false (oeVar 2)))
 osNext)))
noncomputable def f601_1 (E:En):B Fl:=
 (osSeq (osIf (otCmp .Eq (oeComp false [none,none] (.one 1) (osrcSeq (oeSlice false (oeVar 3) (some (oeBin false .Add (oeVar 11) (okI 1))) (some (oeBin false .Add (oeVar 12) (okI 1))))) [(otCmp .NotEq (oeVar 1) (okS "NSM"))] (oeVar 1)) (oeList false []))
 (osSeq (osSet (oeVar 4) (oeVar 12) (oeVar 10))
 osNext)
 osNext)
 osNext)
noncomputable def f601_2 (E:En):B Fl:=
 (osSeq (osSet (oeVar 4) (oeVar 11) (oeVar 10))
 (osSeq (osFor (.one 12) (osrcRng (oeBin false .Add (oeVar 11) (okI 1)) (oeLen (oeVar 4))) (f601_1 E))
 osNext))
noncomputable def f601_3 (E:En):B Fl:=
 (osSeq (osAsg (.one 8) (oeComp false [none,none,none] (.one 1) (osrcSeq (oeSlice false (oeVar 4) (some (oeBin false .Add (oeVar 6) (okI 1))) (some (oeVar 7)))) [] (oeCallP E.rc 591 [(oeVar 1)])))
 (osSeq (osAsg (.one 9) (oeBin false .Add (oeList false [(oeVar 2)]) (oeComp false [none,none,none] (.one 1) (osrcSeq (oeSlice false (oeVar 4) none (some (oeVar 6)))) [(otCmp .IsNot (oeCallP E.rc 591 [(oeVar 1)]) okN)] (oeCallP E.rc 591 [(oeVar 1)]))))
 (osSeq (osIf (otAll .Or [(otCmp .In (oeVar 2) (oeVar 8)),(otCmp .In (oeVar 5) (oeVar 8))])
 (osSeq (osAsg (.one 10) (oeIf (otAll .Or [(otCmp .In (oeVar 2) (oeVar 8)),(otCmp .Eq (oeSub (oeVar 9) (oeNeg (okI 1))) (oeVar 2))]) (oeVar 2) (oeVar 5)))
 (osSeq (osFor (.one 11) (osrcSeq (oeTup [(oeVar 6),(oeVar 7)])) (f601_2 E))
 osNext))
 osNext)
 osNext)))
noncomputable def b601 (E:En):B Fl:=
 (osSeq (osAsgR [4,5] (oeTup [(oeListOf true (oeVar 0)),(oeIf (otCmp .Eq (oeVar 2) (okS "L")) (okS "R") (okS "L"))]))
 (osSeq (osFor (.many [6,7]) (osrcSeq (oeVar 1)) (f601_3 E))
 (osSeq (osRet (oeVar 4))
 osNext)))
noncomputable def f606_1 (E:En):B Fl:=
 (osSeq (osIf (otCmp .Is (oeCallP E.rc 591 [(oeVar 4)]) okN)
 (osSeq (osAsg (.one 5) (oeBin false .Add (oeList false [(oeVar 1)]) (oeComp false [none,none,none] (.one 1) (osrcSeq (oeSlice false (oeVar 0) none (some (oeVar 3)))) [(otCmp .IsNot (oeCallP E.rc 591 [(oeVar 1)]) okN)] (oeCallP E.rc 591 [(oeVar 1)]))))
 (osSeq (osAsg (.one 6) (oeBin false .Add (oeComp false [none,none,none] (.one 1) (osrcSeq (oeSlice false (oeVar 0) (some (oeVar 3)) none)) [(otCmp .IsNot (oeCallP E.rc 591 [(oeVar 1)]) okN)] (oeCallP E.rc 591 [(oeVar 1)])) (oeList false [(oeVar 1)])))
 (osSeq (osAsg (.one 4) (oeIf (otCmp .Eq (oeSub (oeVar 5) (oeNeg (okI 1))) (oeSub (oeVar 6) (okI 0))) (oeSub (oeVar 5) (oeNeg (okI 1))) (oeVar 1)))
 osNext)))
 osNext)
 (osSeq (osExp (oeMeth E.rc E.mt .append (oeVar 2) [(oeVar 4)]))
 osNext))
noncomputable def b606 (E:En):B Fl:=
 (osSeq (osAsg (.one 2) (oeList true []))
 (osSeq (osFor (.many [3,4]) (osrcEnu (oeVar 0)) (f606_1 E))
 (osSeq (osRet (oeVar 2))
 osNext)))
noncomputable def f611_1 (E:En):B Fl:=
 (osSeq (osIf (otCmp .In (oeVar 9) (oeVar 2))
 (osSeq (osExp (oeMeth E.rc E.mt (.other "put") (oeVar 5) [(okS "bc"),(oeSub (oeVar 9) (okI 0)),(oeSub (oeVar 9) (okI 0)),(okS "ON")]))
 (osSeq (osExp (oeMeth E.rc E.mt (.other "put") (oeVar 5) [(okS "bpb"),(oeSub (oeVar 9) (okI 0)),(oeSub (oeVar 9) (okI 0)),(oeTup [(oeSub (oeVar 9) (okI 1)),(oeSub (oeCallP E.rc 558 []) (oeSub (oeVar 9) (okI 0)))])]))
 osNext))
 osNext)
 osNext)
noncomputable def f611_2 (E:En):B Fl:=
 (osSeq (osIf (otCmp .In (oeVar 10) (oeVar 3))
 (osSeq (osExp (oeMeth E.rc E.mt (.other "put") (oeVar 5) [(okS "bc"),(oeBin false .Add (okI 1000) (oeVar 11)),(oeBin false .Add (okI 1000) (oeVar 11)),(oeVar 10)]))
 osNext)
 osNext)
 osNext)
noncomputable def f611_3 (E:En):B Fl:=
 (osSeq (osAsg (.one 8) (oeCallI E.rc 577 [(oeVar 1),(okI 18)]))
 (osSeq (osAsgR [9,10] (oeTup [okN,(oeSub (oeCallP E.rc 565 []) (oeBin false .Mod (oeBin false .Sub (oeVar 8) (okI 8)) (okI 8)))]))
 (osSeq (osIf (otCmp .Lt (oeVar 8) (okI 8))
 (osSeq (osAsgR [9,10] (oeTup [(oeSub (oeCallP E.rc 551 []) (oeVar 8)),(okS "ON")]))
 osNext)
 osNext)
 (osSeq (osExp (oeMeth E.rc E.mt .append (oeVar 2) [(oeVar 9)]))
 (osSeq (osExp (oeMeth E.rc E.mt .append (oeVar 3) [(oeVar 10)]))
 (osSeq (osExp (oeMeth E.rc E.mt .append (oeVar 4) [(oeIf (otCmp .IsNot (oeVar 9) okN) (oeSub (oeVar 9) (okI 0)) (oeBin false .Add (okI 1000) (oeMeth E.rc E.mt .index (oeCallP E.rc 565 []) [(oeVar 10)])))]))
 osNext))))))
noncomputable def b611 (E:En):B Fl:=
 (osSeq (osAsg (.many [1,2,3,4,5]) (oeTup [(oeCallI E.rc 570 [(oeVar 0)]),(oeList true []),(oeList true []),(oeList true []),(oeNewI E.rc 540 516 [])]))
 (osSeq (osAsg (.one 6) (oeSub (oeList false [(okS "ltr"),(okS "rtl"),(okS "auto")]) (oeCallI E.rc 577 [(oeVar 1),(okI 3)])))
 (osSeq (osFor (.one 7) (osrcRng1 (oeCallI E.rc 577 [(oeVar 1),(okI 11)])) (f611_3 E))
 (osSeq (osFor (.many [11,10]) (osrcEnu (oeCallP E.rc 565 [])) (f611_2 E))
 (osSeq (osFor (.one 9) (osrcSeq (oeCallP E.rc 551 [])) (f611_1 E))
 (osSeq (osExp (oeMeth E.rc E.mt (.other "put") (oeVar 5) [(okS "dm"),(okI 9001),(okI 9001),(oeTup [(okS ""),(oeTup [(okI 12296)])])]))
 (osSeq (osExp (oeMeth E.rc E.mt (.other "put") (oeVar 5) [(okS "dm"),(okI 9002),(okI 9002),(oeTup [(okS ""),(oeTup [(okI 12297)])])]))
 (osSeq (osAsg (.one 12) (oeComp false [none,none] (.one 1) (osrcSeq (oeVar 3)) [(otCmp .In (oeVar 1) (oeTup [(okS "L"),(okS "R"),(okS "AL")]))] (oeVar 1)))
 (osSeq (osAsg (.one 13) (oeMeth E.rc E.mt .get (oeDict false [(okS "ltr"),(okS "rtl")] [(okI 0),(okI 1)]) [(oeVar 6),(oeInt (oeBool .And [(oeCmp .NotEq (oeVar 12) (oeList false [])),(oeCmp .NotEq (oeSub (oeVar 12) (okI 0)) (okS "L"))]))]))
 (osSeq (osAsg (.one 14) (oeSub (okS "LR") (oeVar 13)))
 (osSeq (osAsg (.one 15) (oeCallP E.rc 606 [(oeCallP E.rc 601 [(oeCallP E.rc 584 [(oeVar 3),(oeVar 14)]),(oeCallP E.rc 596 [(oeVar 2)]),(oeVar 14),(oeVar 3)]),(oeVar 14)]))
 (osSeq (osAsg (.one 16) (oeComp false [none,none,none,some 13] (.one 1) (osrcSeq (oeVar 15)) [] (oeBin false .Add (oeVar 3) (oeIf (otCmp .Eq (oeVar 3) (okI 0)) (oeMeth E.rc E.mt .get (oeDict false [(okS "R"),(okS "AN"),(okS "EN")] [(okI 1),(okI 2),(okI 2)]) [(oeVar 1),(okI 0)]) (oeInt (oeCmp .NotEq (oeVar 1) (okS "R")))))))
 (osSeq (osRet (oeCmp .Eq (oeListOf false (oeCallP E.rc 432 [(oeVar 4),(oeVar 5),(oeVar 6)])) (oeVar 16)))
 osNext)))))))))))))
end Mine
end
noncomputable section
open PySem PySem.W PySem.Calls PyProof.Rows PySem.SeqAt
namespace Mine
noncomputable def hTop (sT:Program->World->SharedT->Thread->Option (SharedT × Thread)) (ok:Nat->Option Value->Thread->Bool) (p:Program) (w:World) (n₀:Nat) (ann:Option Value):Nat->SharedT->Thread->Option SharedT
 | 0,_,_=>none
 | n + 1,s,t=>match through t with
  | true=>some s
  | false=>match ok n₀ ann t with
   | false=>none
   | true=>match sT p w s t with
    | some (s',t')=>hTop sT ok p w n₀ ann n s' t'
    | none=>none
theorem hTop_of {p:Program} {w:World} {n₀:Nat} {ann:Option Value}:∀ {n:Nat} {s s':SharedT} {t:Thread},hTop (stepT (denote treeTable)) stepOk p w n₀ ann n s t = some s'->topRun treeTable p w n₀ ann n s.abs t = some s'.abs
 | 0,_,_,_,h=>by cases h
 | n + 1,s,s',t,h=>by
  unfold hTop at h
  unfold topRun
  cases e:through t with
  | true=>rw [e] at h;cases h;rfl
  | false=>
   rw [e] at h
   cases k:stepOk n₀ ann t with
   | false=>rw [k] at h;cases h
   | true=>
    rw [k] at h
    cases hs:stepT (denote treeTable) p w s t with
    | none=>rw [hs] at h;cases h
    | some r=>obtain ⟨s₂,t₂⟩:=r;rw [hs] at h;rw [stepT_spec hs];exact hTop_of h
noncomputable def hBoot (P:Params):BT:=((boot_heap P).objs.toList.foldl (fun a o=>(a.1.ins a.2 o,a.2 + 1)) (BT.nil,0)).1
theorem hBoot_abs (P:Params):absHeap (hBoot P) 11 {} = boot_heap P:=by kernel_rfl
noncomputable def hRun (sT:Program->World->SharedT->Thread->Option (SharedT × Thread)) (ok:Nat->Option Value->Thread->Bool) (p:Program) (M:Nat) (w:World) (os:OsState):Option SharedT:=
 hTop sT ok p w 11 (some (.ref 6)) M ⟨hBoot w.params,11,{},#[],boot_drawn,boot_toks,os⟩ (topStub p)
noncomputable abbrev hRunS:=hRun (stepT (denote treeTable)) stepOk
noncomputable def hFrag (s:SharedT):Frag:=(List.range s.n).filterMap fun a=>((s.tree.get a).bind alive).map fun o=>(a,o)
theorem hFrag_in (s:SharedT):(hFrag s).In s.abs.heap:=fun a o e=>by
 obtain ⟨b,hb,q⟩:=List.mem_filterMap.mp (lookup_mem e)
 obtain ⟨x,hx,e⟩:=Option.map_eq_some_iff.mp q
 cases e
 obtain ⟨y,hy,e⟩:=Option.bind_eq_some_iff.mp hx
 exact (abs_get (List.mem_range.mp hb) hy).trans e
noncomputable def hSays (t:Tab) (p:Program) (nm:Str) (a:Addr) (h:Heap):Prop:=∃ K:Frag,K.In h/\t.check K = true/\t.pg K = t.pgP p/\nsIn K mainGlobals nm = some (some (.ref a))
theorem hSays_keeps {t:Tab} {p:Program} {nm:Str} {a:Addr} {h h':Heap} (x:hSays t p nm a h) (k:∀ b o,h.get? b = some o->h'.get? b = some o):hSays t p nm a h':=
 let ⟨K,i,r⟩:=x;⟨K,i.keeps k,r⟩
theorem hLeft_of {p q:Program} {loose:List Str} {Xt:Shared->Bool} {N M:Nat} {t:Tab} {nm:Str} {a:Addr}
  (open_:∀ w:World,(fencedOpening treeTable p w N).map (fun s=>(s.heap,s.gens,s.drawn,s.toks)) = some (boot_heap w.params,#[],boot_drawn,boot_toks))
  (size:∀ w:World,((boot_heap w.params).isNs mainGlobals && (#[]:Array GenState).size == 0,(boot_heap w.params).objs.size,(boot_heap w.params).nsMap mainGlobals "__annotations__") = (true,11,some (.ref 6)))
  (le:Nat.ble M N = true)
  (l1:∀ w os,(hRunS p M w os).map (fun s=>staticsOk (importedModules p.main.body) (boot_heap w.params) s.abs.heap && namesBound p s.abs.heap && gensDone s.abs && laidKept (boot_heap w.params) s.abs.heap) = some true)
  (l2:∀ w os,(hRunS p M w os).map (fun s=>openSeen q loose (importedModules p.main.body) Xt true s.abs) = some (openGood q loose))
  (l3:∀ w os,(hRunS p M w os).map (fun s=>(t.check (hFrag s),nsIn (hFrag s) mainGlobals nm)) = some (true,some (some (.ref a))))
  (l4:∀ w os,(hRunS p M w os).map (fun s=>t.fn.map (fun x=>fnOf (hFrag s) x.1 x.2)) = some (t.fn.map (fun x=>fnAt p x.2))):LeftO p q loose Xt (fun s=>hSays t p nm a s.heap) (fun _=>True) N:=fun w=>by
 obtain ⟨⟨h,gs,d,k,os⟩,e,e'⟩:=Option.map_eq_some_iff.mp (open_ w)
 obtain ⟨rfl,rfl,rfl,rfl⟩:h = boot_heap w.params/\gs = #[]/\d = boot_drawn/\k = boot_toks:=by simpa using e'
 obtain ⟨z1,z2,z3⟩:_/\_/\_:=by simpa only [Prod.mk.injEq] using size w
 obtain ⟨s,r,l1⟩:=Option.map_eq_some_iff.mp (l1 w os)
 have l2:=l2 w os
 have l3:=l3 w os
 have l4:=l4 w os
 rw [r] at l2 l3 l4
 have l2:=Option.some.inj l2
 have l3:=Option.some.inj l3
 have l4:=Option.some.inj l4
 have r:=hTop_of r
 rw [show SharedT.abs ⟨hBoot w.params,11,{},#[],boot_drawn,boot_toks,os⟩ = ⟨boot_heap w.params,#[],boot_drawn,boot_toks,os⟩ by unfold SharedT.abs;rw [hBoot_abs]] at r
 have r:=topRun_mono (N - M) _ _ _ _ r
 rw [show M + (N - M) = N by have:=Nat.le_of_ble_eq_true le;omega] at r
 have ht:topFrom treeTable p w N ⟨boot_heap w.params,#[],boot_drawn,boot_toks,os⟩ = some s.abs:=by
  unfold topFrom
  dsimp only
  rw [z1,z2,z3,r]
  show (match staticsOk (importedModules p.main.body) (boot_heap w.params) s.abs.heap && namesBound p s.abs.heap && gensDone s.abs && laidKept (boot_heap w.params) s.abs.heap with | true=>_ | false=>_) = _
  rw [l1]
 unfold openEnds
 rw [e]
 show (topFrom treeTable p w N _).map _ = _
 rw [ht]
 exact congrArg some (Prod.ext l2 (eq_true ⟨_,hFrag_in s,congrArg Prod.fst l3,pg_eq l4,congrArg Prod.snd l3⟩))
noncomputable def gG (x:Str) (v:V):Str × V:=(x,v)
noncomputable def gM (c:Addr) (x:Str) (f:Addr):Addr × Str × Addr:=(c,x,f)
noncomputable def gI (c:Addr) (f:Addr):Addr × Addr:=(c,f)
noncomputable def gA (c:Addr) (x:Str):Addr × Str:=(c,x)
noncomputable def gK (c:Addr) (k:FK):Addr × FK:=(c,k)
noncomputable def gS (x:Str):Str:=x
noncomputable def gF (a:Addr) (i j:Nat) (d:List V) (m:List Str) (r:Bool):Addr × Hint:=(a,⟨d,m,r,i,j⟩)
noncomputable def tab:Tab where
 glob:=(gG "MAX_DEPTH" (.int 125) :: gG "STRONG" (.tup [.str "L",.str "R",.str "AL"]) :: gG "EMBEDDINGS" (.tup [.str "RLE",.str "LRE",.str "RLO",.str "LRO"]) :: gG "INITIATORS" (.tup [.str "LRI",.str "RLI",.str "FSI"]) :: gG "REMOVED" (.tup [.str "RLE",.str "LRE",.str "RLO",.str "LRO",.str "PDF",.str "BN"]) :: gG "SEPARATOR" (.str "B") :: gG "CARRIAGE_RETURN" (.int 13) :: gG "LINE_FEED" (.int 10) :: gG "MOST_BRACKETS" (.int 63) :: gG "ISOLATE_SIGNS" (.tup [.str "LRI",.str "RLI",.str "FSI",.str "PDI"]) :: gG "NEUTRALS" (.tup [.str "B",.str "S",.str "WS",.str "ON",.str "LRI",.str "RLI",.str "FSI",.str "PDI"]) :: gG "LEFT_OVERS" (.tup [.str "ES",.str "ET",.str "CS"]) :: gG "NUMBERS" (.tup [.str "EN",.str "AN"]) :: gG "MAX_CODE" (.int 1114111) :: gG "bidi_kinds" (.st (.ref 30)) :: gG "paragraphs" (.st (.ref 37)) :: gG "isolate_pairs" (.st (.ref 44)) :: gG "bidi_first_strong" (.st (.ref 51)) :: gG "bidi_base" (.st (.ref 58)) :: gG "explicit" (.st (.ref 157)) :: gG "bidi_is_right_isolate" (.st (.ref 164)) :: gG "level_runs" (.st (.ref 171)) :: gG "bidi_direction" (.st (.ref 201)) :: gG "bidi_level_beside" (.st (.ref 208)) :: gG "bidi_joined_runs" (.st (.ref 215)) :: gG "isolating_sequences" (.st (.ref 221)) :: gG "bidi_paragraphs" (.st (.ref 257)) :: gG "bidi_marks" (.st (.ref 268)) :: gG "bidi_arabic_numbers" (.st (.ref 275)) :: gG "bidi_arabic_letters" (.st (.ref 280)) :: gG "bidi_separators" (.st (.ref 287)) :: gG "bidi_runs" (.st (.ref 294)) :: gG "bidi_beside" (.st (.ref 301)) :: gG "bidi_terminators" (.st (.ref 308)) :: gG "bidi_left_overs" (.st (.ref 313)) :: gG "bidi_left_numbers" (.st (.ref 320)) :: gG "weak_classes" (.st (.ref 327)) :: gG "weak" (.st (.ref 334)) :: gG "bidi_bracket_key" (.st (.ref 341)) :: gG "bracket_pairs_of" (.st (.ref 348)) :: gG "bracket_pairs" (.st (.ref 355)) :: gG "bidi_strong" (.st (.ref 362)) :: gG "bidi_embedding" (.st (.ref 369)) :: gG "bidi_bracket_direction" (.st (.ref 376)) :: gG "bracket_classes" (.st (.ref 383)) :: gG "neutral_classes" (.st (.ref 390)) :: gG "neutral" (.st (.ref 398)) :: gG "implicit_level" (.st (.ref 405)) :: gG "implicit" (.st (.ref 410)) :: gG "sequence_levels" (.st (.ref 417)) :: gG "paragraph_levels" (.st (.ref 424)) :: gG "bidi_levels" (.st (.ref 432)) :: gG "place_by_half" (.st (.ref 439)) :: gG "range_are_like" (.st (.ref 446)) :: gG "data_defaults" (.st (.ref 502)) :: gG "_law_marks" (.st (.ref 551)) :: gG "_law_mates" (.st (.ref 558)) :: gG "_law_classes" (.st (.ref 565)) :: gG "_law_deck" (.st (.ref 570)) :: gG "_law_draw" (.st (.ref 577)) :: gG "_law_behind" (.st (.ref 584)) :: gG "_law_way" (.st (.ref 591)) :: gG "_law_pairs" (.st (.ref 596)) :: gG "_law_turned" (.st (.ref 601)) :: gG "_law_settled" (.st (.ref 606)) :: gG "law" (.st (.ref 611)) :: gG "BidiEntry" (.st (.ref 75)) :: gG "BidiStack" (.st (.ref 145)) :: gG "BidiSequence" (.st (.ref 190)) :: gG "BidiParagraph" (.st (.ref 245)) :: gG "RangeMap" (.st (.ref 491)) :: gG "Data" (.st (.ref 540)) :: gG "len" (.st (.builtin "len")) :: gG "sorted" (.st (.builtin "sorted")) :: gG "max" (.st (.builtin "max")) :: gG "isinstance" (.st (.builtin "isinstance")) :: gG "range" (.st (.type "range")) :: gG "enumerate" (.st (.type "enumerate")) :: gG "zip" (.st (.type "zip")) :: gG "list" (.st (.type "list")) :: gG "int" (.st (.type "int")) :: gG "bool" (.st (.type "bool")) :: [])
 meth:=(gM 145 "last" 100 :: gM 145 "further" 107 :: gM 145 "is_free" 114 :: gM 145 "embed" 121 :: gM 145 "isolate" 128 :: gM 145 "end_isolate" 135 :: gM 145 "end_embedding" 142 :: gM 245 "sequences" 242 :: gM 491 "get" 467 :: gM 491 "put" 474 :: gM 491 "ranges" 481 :: gM 491 "set_of" 488 :: gM 540 "put" 523 :: gM 540 "get" 530 :: gM 540 "map_of" 537 :: [])
 init:=(gI 75 72 :: gI 145 93 :: gI 190 187 :: gI 245 235 :: gI 491 460 :: gI 540 516 :: [])
 aok:=(gA 75 "level" :: gA 75 "override" :: gA 75 "is_isolate" :: gA 145 "depth" :: gA 145 "entries" :: gA 145 "over_isolates" :: gA 145 "over_embeddings" :: gA 145 "valid_isolates" :: gA 190 "places" :: gA 190 "classes" :: gA 190 "level" :: gA 190 "sos" :: gA 190 "eos" :: gA 190 "codes" :: gA 245 "begin" :: gA 245 "end" :: gA 245 "codes" :: gA 245 "base" :: gA 245 "kinds" :: gA 245 "levels" :: gA 245 "classes" :: gA 491 "default" :: gA 491 "starts" :: gA 491 "values" :: gA 540 "defaults" :: gA 540 "maps" :: gA 540 "properties" :: gA 540 "words" :: [])
 kind:=(gK 145 .imp :: gK 540 .imp :: gK 491 .imp :: gK 570 .imp :: gK 577 .imp :: gK 376 .lent :: [])
 tid:=[474,577]
 mutA:=(gS "entries" :: gS "maps" :: [])
 fn:=(gF 30 10 0 [] ([]) false ::
  gF 37 11 0 [] (gS "found" :: []) false ::
  gF 44 12 0 [] (gS "waiting" :: gS "found" :: []) false ::
  gF 51 13 0 [] ([]) false ::
  gF 58 14 0 [] ([]) false ::
  gF 72 15 1 [] ([]) false ::
  gF 93 16 1 [] ([]) false ::
  gF 100 16 2 [] ([]) false ::
  gF 107 16 3 [] ([]) false ::
  gF 114 16 4 [] ([]) false ::
  gF 121 16 5 [] ([]) false ::
  gF 128 16 6 [] ([]) false ::
  gF 135 16 7 [] ([]) false ::
  gF 142 16 8 [] ([]) false ::
  gF 157 17 0 [.int 125] (gS "levels" :: gS "classes" :: []) false ::
  gF 164 18 0 [] ([]) false ::
  gF 171 19 0 [] (gS "found" :: []) false ::
  gF 187 20 1 [.tup []] ([]) false ::
  gF 201 21 0 [] ([]) false ::
  gF 208 22 0 [] ([]) false ::
  gF 215 23 0 [] (gS "run_of" :: gS "found" :: gS "places" :: []) false ::
  gF 221 24 0 [.none] (gS "found" :: []) false ::
  gF 235 25 1 [] ([]) false ::
  gF 242 25 2 [] ([]) false ::
  gF 257 26 0 [.str "auto",.int 125] (gS "found" :: []) false ::
  gF 268 33 0 [] (gS "found" :: []) false ::
  gF 275 34 0 [] (gS "found" :: []) false ::
  gF 280 35 0 [] ([]) false ::
  gF 287 36 0 [] (gS "found" :: []) false ::
  gF 294 37 0 [] (gS "found" :: []) false ::
  gF 301 38 0 [] ([]) false ::
  gF 308 39 0 [] (gS "found" :: []) false ::
  gF 313 40 0 [] ([]) false ::
  gF 320 41 0 [] (gS "found" :: []) false ::
  gF 327 42 0 [] ([]) false ::
  gF 334 43 0 [] ([]) false ::
  gF 341 44 0 [] ([]) false ::
  gF 348 45 0 [] (gS "waiting" :: gS "found" :: []) false ::
  gF 355 46 0 [] ([]) false ::
  gF 362 47 0 [] ([]) false ::
  gF 369 48 0 [] ([]) false ::
  gF 376 49 0 [] ([]) false ::
  gF 383 50 0 [] (gS "found" :: []) false ::
  gF 390 51 0 [] (gS "found" :: []) false ::
  gF 398 52 0 [.none] ([]) false ::
  gF 405 53 0 [] ([]) false ::
  gF 410 54 0 [] ([]) false ::
  gF 417 55 0 [] ([]) false ::
  gF 424 56 0 [] (gS "found" :: []) false ::
  gF 432 57 0 [.str "auto",.int 125] (gS "found" :: []) false ::
  gF 439 60 0 [] ([]) false ::
  gF 446 62 0 [] ([]) false ::
  gF 460 63 1 [] ([]) false ::
  gF 467 63 2 [] ([]) false ::
  gF 474 63 3 [] (gS "starts" :: gS "values" :: []) false ::
  gF 481 63 4 [] ([]) false ::
  gF 488 63 5 [] ([]) false ::
  gF 502 65 0 [] (gS "found" :: []) false ::
  gF 516 66 1 [] ([]) false ::
  gF 523 66 2 [] ([]) false ::
  gF 530 66 3 [] ([]) false ::
  gF 537 66 4 [] ([]) false ::
  gF 551 68 0 [] ([]) false ::
  gF 558 69 0 [] ([]) false ::
  gF 565 70 0 [] ([]) false ::
  gF 570 71 0 [] ([]) true ::
  gF 577 72 0 [] (gS "deck" :: []) false ::
  gF 584 73 0 [] (gS "found" :: gS "arabic" :: []) false ::
  gF 591 74 0 [] ([]) false ::
  gF 596 75 0 [] (gS "free" :: gS "found" :: []) false ::
  gF 601 76 0 [] (gS "found" :: []) false ::
  gF 606 77 0 [] (gS "found" :: []) false ::
  gF 611 78 0 [] (gS "signs" :: gS "begun" :: gS "codes" :: []) false :: [])
noncomputable abbrev lw:=PySem.Challenge.rw_nt0067_03
noncomputable abbrev pr:Program:=lw.row.prog
noncomputable def pg:Pg:=tab.pgP pr
noncomputable def en (k:Nat):En:=⟨Mine.call pg k,pg.meth,pg.aok⟩
theorem stp30 (k:Nat) (x0 x1:V) (hp:Hp):Mine.call pg (k + 1) 30 [x0,x1] hp = fin ((b30 (en k)).f ⟨[some x0,some x1],hp.1,hp.2⟩):=by kernel_rfl
theorem stp37 (k:Nat) (x0 x1:V) (hp:Hp):Mine.call pg (k + 1) 37 [x0,x1] hp = fin ((b37 (en k)).f ⟨[some x0,some x1,none,none,none,none,none,none,none,none,none,none],hp.1,hp.2⟩):=by kernel_rfl
theorem stp44 (k:Nat) (x0:V) (hp:Hp):Mine.call pg (k + 1) 44 [x0] hp = fin ((b44 (en k)).f ⟨[some x0,none,none,none,none,none,none,none,none],hp.1,hp.2⟩):=by kernel_rfl
theorem stp51 (k:Nat) (x0 x1 x2 x3:V) (hp:Hp):Mine.call pg (k + 1) 51 [x0,x1,x2,x3] hp = fin ((b51 (en k)).f ⟨[some x0,some x1,some x2,some x3,none,none,none,none,none],hp.1,hp.2⟩):=by kernel_rfl
theorem stp58 (k:Nat) (x0 x1:V) (hp:Hp):Mine.call pg (k + 1) 58 [x0,x1] hp = fin ((b58 (en k)).f ⟨[some x0,some x1,none,none,none,none],hp.1,hp.2⟩):=by kernel_rfl
theorem stp72 (k:Nat) (x0 x1 x2 x3:V) (hp:Hp):Mine.call pg (k + 1) 72 [x0,x1,x2,x3] hp = fin ((b72 (en k)).f ⟨[some x0,some x1,some x2,some x3],hp.1,hp.2⟩):=by kernel_rfl
theorem stp93 (k:Nat) (x0 x1 x2:V) (hp:Hp):Mine.call pg (k + 1) 93 [x0,x1,x2] hp = fin ((b93 (en k)).f ⟨[some x0,some x1,some x2,none],hp.1,hp.2⟩):=by kernel_rfl
theorem stp100 (k:Nat) (x0:V) (hp:Hp):Mine.call pg (k + 1) 100 [x0] hp = fin ((b100 (en k)).f ⟨[some x0],hp.1,hp.2⟩):=by kernel_rfl
theorem stp157 (k:Nat) (x0 x1 x2:V) (hp:Hp):Mine.call pg (k + 1) 157 [x0,x1,x2] hp = fin ((b157 (en k)).f ⟨[some x0,some x1,some x2,none,none,none,none,none,none,none,none,none,none,none,none,none,none,none,none,none],hp.1,hp.2⟩):=by kernel_rfl
theorem stp171 (k:Nat) (x0:V) (hp:Hp):Mine.call pg (k + 1) 171 [x0] hp = fin ((b171 (en k)).f ⟨[some x0,none,none,none,none,none],hp.1,hp.2⟩):=by kernel_rfl
theorem stp187 (k:Nat) (x0 x1 x2 x3 x4 x5 x6:V) (hp:Hp):Mine.call pg (k + 1) 187 [x0,x1,x2,x3,x4,x5,x6] hp = fin ((b187 (en k)).f ⟨[some x0,some x1,some x2,some x3,some x4,some x5,some x6,none],hp.1,hp.2⟩):=by kernel_rfl
theorem stp201 (k:Nat) (x0 x1:V) (hp:Hp):Mine.call pg (k + 1) 201 [x0,x1] hp = fin ((b201 (en k)).f ⟨[some x0,some x1,none],hp.1,hp.2⟩):=by kernel_rfl
theorem stp208 (k:Nat) (x0 x1 x2 x3:V) (hp:Hp):Mine.call pg (k + 1) 208 [x0,x1,x2,x3] hp = fin ((b208 (en k)).f ⟨[some x0,some x1,some x2,some x3,none],hp.1,hp.2⟩):=by kernel_rfl
theorem stp215 (k:Nat) (x0 x1 x2:V) (hp:Hp):Mine.call pg (k + 1) 215 [x0,x1,x2] hp = fin ((b215 (en k)).f ⟨[some x0,some x1,some x2,none,none,none,none,none,none,none,none,none,none],hp.1,hp.2⟩):=by kernel_rfl
theorem stp221 (k:Nat) (x0 x1 x2 x3 x4:V) (hp:Hp):Mine.call pg (k + 1) 221 [x0,x1,x2,x3,x4] hp = fin ((b221 (en k)).f ⟨[some x0,some x1,some x2,some x3,some x4,none,none,none,none,none,none,none,none,none,none,none,none,none,none,none],hp.1,hp.2⟩):=by kernel_rfl
theorem stp235 (k:Nat) (x0 x1 x2 x3 x4 x5 x6:V) (hp:Hp):Mine.call pg (k + 1) 235 [x0,x1,x2,x3,x4,x5,x6] hp = fin ((b235 (en k)).f ⟨[some x0,some x1,some x2,some x3,some x4,some x5,some x6,none],hp.1,hp.2⟩):=by kernel_rfl
theorem stp242 (k:Nat) (x0:V) (hp:Hp):Mine.call pg (k + 1) 242 [x0] hp = fin ((b242 (en k)).f ⟨[some x0,none],hp.1,hp.2⟩):=by kernel_rfl
theorem stp257 (k:Nat) (x0 x1 x2 x3:V) (hp:Hp):Mine.call pg (k + 1) 257 [x0,x1,x2,x3] hp = fin ((b257 (en k)).f ⟨[some x0,some x1,some x2,some x3,none,none,none,none,none,none,none,none,none,none,none,none,none],hp.1,hp.2⟩):=by kernel_rfl
theorem stp268 (k:Nat) (x0 x1:V) (hp:Hp):Mine.call pg (k + 1) 268 [x0,x1] hp = fin ((b268 (en k)).f ⟨[some x0,some x1,none,none,none,none],hp.1,hp.2⟩):=by kernel_rfl
theorem stp275 (k:Nat) (x0 x1:V) (hp:Hp):Mine.call pg (k + 1) 275 [x0,x1] hp = fin ((b275 (en k)).f ⟨[some x0,some x1,none,none,none],hp.1,hp.2⟩):=by kernel_rfl
theorem stp280 (k:Nat) (x0:V) (hp:Hp):Mine.call pg (k + 1) 280 [x0] hp = fin ((b280 (en k)).f ⟨[some x0],hp.1,hp.2⟩):=by kernel_rfl
theorem stp287 (k:Nat) (x0:V) (hp:Hp):Mine.call pg (k + 1) 287 [x0] hp = fin ((b287 (en k)).f ⟨[some x0,none,none,none,none,none,none,none,none],hp.1,hp.2⟩):=by kernel_rfl
theorem stp294 (k:Nat) (x0 x1:V) (hp:Hp):Mine.call pg (k + 1) 294 [x0,x1] hp = fin ((b294 (en k)).f ⟨[some x0,some x1,none,none,none,none,none,none],hp.1,hp.2⟩):=by kernel_rfl
theorem stp301 (k:Nat) (x0 x1 x2 x3 x4:V) (hp:Hp):Mine.call pg (k + 1) 301 [x0,x1,x2,x3,x4] hp = fin ((b301 (en k)).f ⟨[some x0,some x1,some x2,some x3,some x4,none,none],hp.1,hp.2⟩):=by kernel_rfl
theorem stp308 (k:Nat) (x0:V) (hp:Hp):Mine.call pg (k + 1) 308 [x0] hp = fin ((b308 (en k)).f ⟨[some x0,none,none,none,none,none,none,none,none],hp.1,hp.2⟩):=by kernel_rfl
theorem stp313 (k:Nat) (x0:V) (hp:Hp):Mine.call pg (k + 1) 313 [x0] hp = fin ((b313 (en k)).f ⟨[some x0],hp.1,hp.2⟩):=by kernel_rfl
theorem stp320 (k:Nat) (x0 x1:V) (hp:Hp):Mine.call pg (k + 1) 320 [x0,x1] hp = fin ((b320 (en k)).f ⟨[some x0,some x1,none,none,none],hp.1,hp.2⟩):=by kernel_rfl
theorem stp327 (k:Nat) (x0 x1:V) (hp:Hp):Mine.call pg (k + 1) 327 [x0,x1] hp = fin ((b327 (en k)).f ⟨[some x0,some x1,none,none,none,none,none,none,none,none],hp.1,hp.2⟩):=by kernel_rfl
theorem stp334 (k:Nat) (x0:V) (hp:Hp):Mine.call pg (k + 1) 334 [x0] hp = fin ((b334 (en k)).f ⟨[some x0,none],hp.1,hp.2⟩):=by kernel_rfl
theorem stp341 (k:Nat) (x0 x1:V) (hp:Hp):Mine.call pg (k + 1) 341 [x0,x1] hp = fin ((b341 (en k)).f ⟨[some x0,some x1,none,none],hp.1,hp.2⟩):=by kernel_rfl
theorem stp348 (k:Nat) (x0 x1 x2:V) (hp:Hp):Mine.call pg (k + 1) 348 [x0,x1,x2] hp = fin ((b348 (en k)).f ⟨[some x0,some x1,some x2,none,none,none,none,none,none,none,none,none,none,none,none],hp.1,hp.2⟩):=by kernel_rfl
theorem stp355 (k:Nat) (x0 x1:V) (hp:Hp):Mine.call pg (k + 1) 355 [x0,x1] hp = fin ((b355 (en k)).f ⟨[some x0,some x1,none],hp.1,hp.2⟩):=by kernel_rfl
theorem stp362 (k:Nat) (x0:V) (hp:Hp):Mine.call pg (k + 1) 362 [x0] hp = fin ((b362 (en k)).f ⟨[some x0,none],hp.1,hp.2⟩):=by kernel_rfl
theorem stp369 (k:Nat) (x0:V) (hp:Hp):Mine.call pg (k + 1) 369 [x0] hp = fin ((b369 (en k)).f ⟨[some x0],hp.1,hp.2⟩):=by kernel_rfl
theorem stp376 (k:Nat) (x0 x1 x2 x3:V) (hp:Hp):Mine.call pg (k + 1) 376 [x0,x1,x2,x3] hp = fin ((b376 (en k)).f ⟨[some x0,some x1,some x2,some x3,none,none,none,none,none,none],hp.1,hp.2⟩):=by kernel_rfl
theorem stp383 (k:Nat) (x0 x1 x2 x3 x4:V) (hp:Hp):Mine.call pg (k + 1) 383 [x0,x1,x2,x3,x4] hp = fin ((b383 (en k)).f ⟨[some x0,some x1,some x2,some x3,some x4,none,none,none,none,none,none,none,none],hp.1,hp.2⟩):=by kernel_rfl
theorem stp390 (k:Nat) (x0 x1 x2 x3:V) (hp:Hp):Mine.call pg (k + 1) 390 [x0,x1,x2,x3] hp = fin ((b390 (en k)).f ⟨[some x0,some x1,some x2,some x3,none,none,none,none,none,none,none,none,none,none,none,none,none,none],hp.1,hp.2⟩):=by kernel_rfl
theorem stp398 (k:Nat) (x0 x1 x2:V) (hp:Hp):Mine.call pg (k + 1) 398 [x0,x1,x2] hp = fin ((b398 (en k)).f ⟨[some x0,some x1,some x2,none,none,none,none,none,none],hp.1,hp.2⟩):=by kernel_rfl
theorem stp405 (k:Nat) (x0 x1:V) (hp:Hp):Mine.call pg (k + 1) 405 [x0,x1] hp = fin ((b405 (en k)).f ⟨[some x0,some x1,none],hp.1,hp.2⟩):=by kernel_rfl
theorem stp410 (k:Nat) (x0 x1:V) (hp:Hp):Mine.call pg (k + 1) 410 [x0,x1] hp = fin ((b410 (en k)).f ⟨[some x0,some x1],hp.1,hp.2⟩):=by kernel_rfl
theorem stp417 (k:Nat) (x0 x1:V) (hp:Hp):Mine.call pg (k + 1) 417 [x0,x1] hp = fin ((b417 (en k)).f ⟨[some x0,some x1,none,none,none,none,none,none],hp.1,hp.2⟩):=by kernel_rfl
theorem stp424 (k:Nat) (x0 x1:V) (hp:Hp):Mine.call pg (k + 1) 424 [x0,x1] hp = fin ((b424 (en k)).f ⟨[some x0,some x1,none,none,none,none,none,none,none],hp.1,hp.2⟩):=by kernel_rfl
theorem stp432d (k:Nat) (x0 x1 x2:V) (hp:Hp):Mine.call pg (k + 1) 432 [x0,x1,x2] hp = fin ((b432 (en k)).f ⟨[some x0,some x1,some x2,some (.int 125),none,none,none,none],hp.1,hp.2⟩):=by kernel_rfl
theorem stp439 (k:Nat) (x0 x1:V) (hp:Hp):Mine.call pg (k + 1) 439 [x0,x1] hp = fin ((b439 (en k)).f ⟨[some x0,some x1,none,none,none,none],hp.1,hp.2⟩):=by kernel_rfl
theorem stp446 (k:Nat) (x0 x1:V) (hp:Hp):Mine.call pg (k + 1) 446 [x0,x1] hp = fin ((b446 (en k)).f ⟨[some x0,some x1,none,none],hp.1,hp.2⟩):=by kernel_rfl
theorem stp460 (k:Nat) (x0 x1:V) (hp:Hp):Mine.call pg (k + 1) 460 [x0,x1] hp = fin ((b460 (en k)).f ⟨[some x0,some x1],hp.1,hp.2⟩):=by kernel_rfl
theorem stp467 (k:Nat) (x0 x1:V) (hp:Hp):Mine.call pg (k + 1) 467 [x0,x1] hp = fin ((b467 (en k)).f ⟨[some x0,some x1,none],hp.1,hp.2⟩):=by kernel_rfl
theorem stp474 (k:Nat) (x0 x1 x2 x3:V) (hp:Hp):Mine.call pg (k + 1) 474 [x0,x1,x2,x3] hp = (fin ((b474 (en k)).f ⟨[some x0,some x1,some x2,some x3,none,none,none,none,none,none,none,none],hp.1,hp.2⟩)).bind (tidy hp.2):=by kernel_rfl
theorem stp502 (k:Nat) (hp:Hp):Mine.call pg (k + 1) 502 [] hp = fin ((b502 (en k)).f ⟨[none,none],hp.1,hp.2⟩):=by kernel_rfl
theorem stp516 (k:Nat) (x0:V) (hp:Hp):Mine.call pg (k + 1) 516 [x0] hp = fin ((b516 (en k)).f ⟨[some x0,none],hp.1,hp.2⟩):=by kernel_rfl
theorem stp523 (k:Nat) (x0 x1 x2 x3 x4:V) (hp:Hp):Mine.call pg (k + 1) 523 [x0,x1,x2,x3,x4] hp = fin ((b523 (en k)).f ⟨[some x0,some x1,some x2,some x3,some x4],hp.1,hp.2⟩):=by kernel_rfl
theorem stp530 (k:Nat) (x0 x1 x2:V) (hp:Hp):Mine.call pg (k + 1) 530 [x0,x1,x2] hp = fin ((b530 (en k)).f ⟨[some x0,some x1,some x2],hp.1,hp.2⟩):=by kernel_rfl
theorem stp537 (k:Nat) (x0 x1:V) (hp:Hp):Mine.call pg (k + 1) 537 [x0,x1] hp = fin ((b537 (en k)).f ⟨[some x0,some x1,none],hp.1,hp.2⟩):=by kernel_rfl
theorem stp551 (k:Nat) (hp:Hp):Mine.call pg (k + 1) 551 [] hp = fin ((b551 (en k)).f ⟨[],hp.1,hp.2⟩):=by kernel_rfl
theorem stp558 (k:Nat) (hp:Hp):Mine.call pg (k + 1) 558 [] hp = fin ((b558 (en k)).f ⟨[],hp.1,hp.2⟩):=by kernel_rfl
theorem stp565 (k:Nat) (hp:Hp):Mine.call pg (k + 1) 565 [] hp = fin ((b565 (en k)).f ⟨[],hp.1,hp.2⟩):=by kernel_rfl
theorem stp570 (k:Nat) (x0:V) (hp:Hp):Mine.call pg (k + 1) 570 [x0] hp = fin ((b570 (en k)).f ⟨[some x0],hp.1,hp.2⟩):=by kernel_rfl
theorem stp577 (k:Nat) (x0 x1:V) (hp:Hp):Mine.call pg (k + 1) 577 [x0,x1] hp = (fin ((b577 (en k)).f ⟨[some x0,some x1,none,none,none],hp.1,hp.2⟩)).bind (tidy hp.2):=by kernel_rfl
theorem stp584 (k:Nat) (x0 x1:V) (hp:Hp):Mine.call pg (k + 1) 584 [x0,x1] hp = fin ((b584 (en k)).f ⟨[some x0,some x1,none,none,none,none],hp.1,hp.2⟩):=by kernel_rfl
theorem stp591 (k:Nat) (x0:V) (hp:Hp):Mine.call pg (k + 1) 591 [x0] hp = fin ((b591 (en k)).f ⟨[some x0],hp.1,hp.2⟩):=by kernel_rfl
theorem stp596 (k:Nat) (x0:V) (hp:Hp):Mine.call pg (k + 1) 596 [x0] hp = fin ((b596 (en k)).f ⟨[some x0,none,none,none,none,none,none,none],hp.1,hp.2⟩):=by kernel_rfl
theorem stp601 (k:Nat) (x0 x1 x2 x3:V) (hp:Hp):Mine.call pg (k + 1) 601 [x0,x1,x2,x3] hp = fin ((b601 (en k)).f ⟨[some x0,some x1,some x2,some x3,none,none,none,none,none,none,none,none,none,none,none,none],hp.1,hp.2⟩):=by kernel_rfl
theorem stp606 (k:Nat) (x0 x1:V) (hp:Hp):Mine.call pg (k + 1) 606 [x0,x1] hp = fin ((b606 (en k)).f ⟨[some x0,some x1,none,none,none,none,none,none,none],hp.1,hp.2⟩):=by kernel_rfl
theorem stp611 (k:Nat) (x0:V) (hp:Hp):Mine.call pg (k + 1) 611 [x0] hp = fin ((b611 (en k)).f ⟨[some x0,none,none,none,none,none,none,none,none,none,none,none,none,none,none,none,none,none,none,none,none,none,none,none,none,none,none,none,none,none,none,none],hp.1,hp.2⟩):=by kernel_rfl
end Mine
end
noncomputable section
open PySem PySem.W
namespace Mine
inductive C where
 | L | R | AL | EN | AN | ON | WS | NSM | ES | CS | ET | LRI | RLI | FSI | PDI
 deriving DecidableEq
noncomputable def C.s:C->Str
 | .L=>"L" | .R=>"R" | .AL=>"AL" | .EN=>"EN" | .AN=>"AN" | .ON=>"ON" | .WS=>"WS" | .NSM=>"NSM" | .ES=>"ES" | .CS=>"CS" | .ET=>"ET"
 | .LRI=>"LRI" | .RLI=>"RLI" | .FSI=>"FSI" | .PDI=>"PDI"
noncomputable def C.v (c:C):V:=.str c.s
noncomputable def vs (l:List C):List V:=l.map C.v
noncomputable def cl (l:List C):V:=.lst (vs l)
noncomputable def pfin (t:Option (Fl × S)):Option V:=(fin t).bind fun p=>(fz 8 p.1 p.2.1).map (·.1)
theorem thread_cons {g:V->OB->Option (V × OB)} {v:V} {l:List V} {ob:OB} (h:g v ob = some (v,ob)) (k:thread g l ob = some (l,ob)):thread g (v :: l) ob = some (v :: l,ob):=by
 show (g v ob).bind _ = _
 rw [h]
 show (thread g l ob).map _ = _
 rw [k];rfl
theorem fz_scal {v:V} {f:Nat} {ob:OB} (h:scal v = true):fz (f + 1) v ob = some (v,ob):=by
 cases v <;> first | rfl | exact nob h
theorem thread_scal {f:Nat} {ob:OB} {l:List V}:scals l = true->thread (fz (f + 1)) l ob = some (l,ob):=by
 induction l with
 | nil=>intro _;rfl
 | cons v l ih=>
  intro h
  have h:=Bool.and_eq_true_iff.mp h
  exact thread_cons (fz_scal h.1) (ih h.2)
theorem scals_vs (l:List C):scals (vs l) = true:=by
 induction l with
 | nil=>rfl
 | cons c l ih=>exact ih
theorem vs_len (l:List C):(vs l).length = l.length:=List.length_map _
theorem vs_app (l m:List C):vs (l++m) = vs l++vs m:=List.map_append
theorem fz_ref {f n:Nat} {l:List V} {ob:OB} (h:olook n ob = some (.list l)) (k:thread (fz f) l (odrop n ob) = some (l,odrop n ob)):(fz (f + 1) (.ref n) ob).map (·.1) = some (.lst l):=by
 show ((olook n ob).bind _).map _ = _
 rw [h]
 show ((thread (fz f) l (odrop n ob)).map _).map _ = _
 rw [k];rfl
noncomputable def allC:List C:=[.L,.R,.AL,.EN,.AN,.ON,.WS,.NSM,.ES,.CS,.ET,.LRI,.RLI,.FSI,.PDI]
theorem mem_allC (c:C):c ∈ allC:=List.contains_iff_mem.mp (by cases c <;> rfl)
theorem fin1 {p:C->Bool} (h:allC.all p = true) (c:C):p c = true:=List.all_eq_true.mp h c (mem_allC c)
theorem fin2 {p:C->C->Bool} (h:allC.all (fun d=>allC.all (p d)) = true) (d c:C):p d c = true:=fin1 (fin1 (p:=fun d=>allC.all (p d)) h d) c
theorem C.eq_s (c d:C):(c.s == d.s) = decide (c = d):=of_decide_eq_true (fin2 (p:=fun c d=>decide ((c.s == d.s) = decide (c = d))) (by kernel_rfl) c d)
theorem qt {p:Prop} [Decidable p] (h:p):some (decide p) = some true:=congrArg some (decide_eq_true h)
theorem qf {p:Prop} [Decidable p] (h:¬ p):some (decide p) = some false:=congrArg some (decide_eq_false h)
theorem qe {c d:C} (h:c = d):some (c.s == d.s) = some true:=congrArg some ((C.eq_s c d).trans (decide_eq_true h))
theorem qn {c d:C} (h:c ≠ d):some (c.s == d.s) = some false:=congrArg some ((C.eq_s c d).trans (decide_eq_false h))
theorem qz {i j:Int} (h:i = j):some (i == j) = some true:=congrArg some (beq_iff_eq.mpr h)
theorem qy {i j:Int} (h:i ≠ j):some (i == j) = some false:=congrArg some (beq_eq_false_iff_ne.mpr h)
theorem any_vs (c:C) (l:List C):anyEq c.v (vs l) = some (l.contains c):=by
 induction l with
 | nil=>rfl
 | cons d l ih=>
  show (some (d.s == c.s)).bind (fun a=>(anyEq c.v (vs l)).bind fun b=>some (a || b)) = _
  rw [ih,List.contains_cons]
  show some ((d.s == c.s) || _) = some ((c == d) || _)
  rw [C.eq_s,show (c == d) = decide (d = c) from decide_eq_decide.mpr eq_comm]
theorem qi {c:C} {l:List C} (h:c ∈ l):anyEq c.v (vs l) = some true:=(any_vs c l).trans (congrArg some (List.contains_iff_mem.mpr h))
theorem qj {c:C} {l:List C} (h:c ∉ l):anyEq c.v (vs l) = some false:=(any_vs c l).trans (congrArg some (by
 cases e:l.contains c with
 | false=>rfl
 | true=>exact absurd (List.contains_iff_mem.mp e) h))
noncomputable def ontn (t:Tg) (v:V) (b:B Fl):B Fl:=⟨bnd (putT t v) fun _=>b.f,fun s=>(gPut t v s).bind fun p=>b.g p.2,B.bnd (x:=oput t v) fun _ s=>b.ok s⟩
theorem bnd_eq {α β:Type} {f:M α} {g:α->M β} {S S1:SS} {a:α} (h:f S = some (a,S1)):bnd f g S = g a S1:=by
 unfold bnd
 rw [h]
theorem forL_cons {t:Tg} {b:B Fl} {v:V} {r:List V} {S S1:SS} (h:(ontn t v b).f S = some (.next,S1)):forL t b.f (v :: r) S = forL t b.f r S1:=by
 obtain ⟨u,S2,h1,h2⟩:=bnd_some (show bnd (putT t v) (fun _=>b.f) S = some (.next,S1) from h)
 exact (bnd_eq h1).trans (bnd_eq h2)
noncomputable abbrev nf (o:Option V):Prop:=nfo (some o) = true
theorem loopI {α:Type} {t:Tg} {b:B Fl} (val:α->V) (R:List α->SS->Prop) (step:∀ a l S,R (a :: l) S->∃ S',(ontn t (val a) b).f S = some (.next,S')/\R l S') (l:List α):∀ S,R l S->∃ S',forL t b.f (l.map val) S = some (.next,S')/\R [] S':=by
 induction l with
 | nil=>intro S h;exact ⟨S,rfl,h⟩
 | cons a l ih=>
  intro S h
  obtain ⟨S1,e,q⟩:=step a l S h
  obtain ⟨S2,e2,q2⟩:=ih S1 q
  exact ⟨S2,(forL_cons e).trans e2,q2⟩
theorem nrs_vs (l:List C):nrs (vs l) = true:=by
 induction l with
 | nil=>rfl
 | cons c l ih=>exact ih
noncomputable def still:V->Bool
 | .ref _=>false
 | .tup l=>scals l
 | v=>nr v
theorem fz_still {v:V} {ob:OB} {f:Nat} (h:still v = true):fz (f + 2) v ob = some (v,ob):=by
 cases v with
 | ref _=>exact nob h
 | tup l=>
  show (thread (fz (f + 1)) l ob).map _ = _
  rw [thread_scal h];rfl
 | none | bool _ | int _ | str _ | st _=>rfl
 | lst _ | dic _ _ | ins _ _ _=>exact if_pos h
theorem thread_still {f:Nat} {ob:OB} {l:List V}:l.all still = true->thread (fz (f + 2)) l ob = some (l,ob):=by
 induction l with
 | nil=>intro _;rfl
 | cons v l ih=>
  intro h
  have h:=Bool.and_eq_true_iff.mp h
  exact thread_cons (fz_still h.1) (ih h.2)
theorem thaw_still {v x:V} {sl:List (Option V)} (h:still v = true):thaw1 v x sl = sl:=by
 cases v <;> first | exact nob h | rfl
theorem thaws_still {l:List V} {sl:List (Option V)}:l.all still = true->thaws l l sl = sl:=by
 induction l with
 | nil=>intro _;rfl
 | cons v l ih=>
  intro h
  have h:=Bool.and_eq_true_iff.mp h
  show thaws l l (thaw1 v v sl) = sl
  rw [thaw_still h.1];exact ih h.2
theorem freeze_still {l:List V} {S:SS} (h:l.all still = true):freeze l S = some (l,S):=by
 show (thread (fz 8) l S.ob).map _ = _
 rw [thread_still (f:=6) h]
 show some (l,({ S with sl:=thaws l l S.sl,ob:=S.ob }:SS)) = _
 rw [thaws_still h]
theorem qc {rc:Raw} {a:Addr} {l:List V} {v:V} (h:l.all still = true) (q:pureCall rc a l = some v) (S:SS):callM rc a l S = some (v,S):=by
 refine (bnd_eq (freeze_still h)).trans ?_
 rw [q];rfl
theorem sc {l:List C} {r:List V} (h:r.all still = true):(cl l :: r).all still = true:=Bool.and_eq_true_iff.mpr ⟨nrs_vs l,h⟩
theorem still_cl (l:List C):still (cl l) = true:=nrs_vs l
theorem pure_pfin {rc:Raw} {a:Addr} {l:List V} {t:Option (Fl × S)} (h:rc a l ([],0) = fin t):pureCall rc a l = pfin t:=congrArg (fun o=>o.bind fun p:V × Hp=>(fz 8 p.1 p.2.1).map (·.1)) h
theorem pfinV {t:Option (Fl × S)} {v:V} {hp:Hp} (h:fin t = some (v,hp)) (q:still v = true):pfin t = some v:=by
 unfold pfin
 rw [h]
 show (fz 8 v hp.1).map _ = _
 rw [fz_still (f:=6) q];rfl
theorem B.pv {b:B Fl} {s:S} {v:V} (q:still v = true) (as:List Ft) (e:((b.g s).col as).bind (fun p=>(Mine.fin (some p.2)).map fun x=>(p.1,x.1)) = some (qs as,v)):pfin (b.f s) = some v:=by
 obtain ⟨p,e1,e2⟩:=bi e
 obtain ⟨x,e3,e4⟩:=mi e2
 obtain ⟨k1,k2⟩:=pd e4
 have e5:(b.g s).col as = some (qs as,p.2):=e1.trans (congrArg (fun l=>some (l,p.2)) k1)
 rw [← b.ok s,Fr.col_ok e5]
 exact k2 ▸ pfinV e3 (k2 ▸ q)
theorem pfinL {t:Option (Fl × S)} {l:List V} {n nx:Nat} {ob:OB} (h:fin t = some (.ref n,(ob,nx))) (ho:olook n ob = some (.list l)) (hs:l.all still = true):pfin t = some (.lst l):=by
 unfold pfin
 rw [h]
 exact fz_ref (f:=7) ho (thread_still (f:=5) hs)
theorem pfin0 {t:Option (Fl × S)} {l:List V} (hs:l.all still = true) (h:fin t = some (.ref 0,([(0,.list l)],1))):pfin t = some (.lst l):=pfinL h rfl hs
theorem newOk {rc:Raw} {c a nx:Nat} {l l':List V} {ns:List Str} {t:Option (Fl × S)} (h:fin t = some (.none,([(0,.inst c ns l')],nx))) (e:rc a (.ref 0 :: l) ([(0,.inst c [] [])],1) = fin t) (hs:l'.all still = true):newCall rc c a l = some (.ins c ns l'):=by
 unfold newCall
 rw [e,h]
 show ((thread (fz 7) l' []).map fun p=>(V.ins c ns p.1,p.2)).map (·.1) = _
 rw [thread_still (f:=5) hs];rfl
theorem qw {rc:Raw} {c a:Addr} {l:List V} {v:V} (h:l.all still = true) (q:newCall rc c a l = some v) (S:SS):newM rc c a l S = some (v,S):=by
 refine (bnd_eq (freeze_still h)).trans ?_
 rw [q];rfl
theorem still_vs (l:List C):(vs l).all still = true:=by
 induction l with
 | nil=>rfl
 | cons c l ih=>exact ih
theorem compGo_I {α:Type} {t:Tg} {f:M V} (val:α->V) (g:α->V) (R:SS->Prop) (l:List α):(∀ a ∈ l,∀ S,R S->∃ S',bnd (putT t (val a)) (fun _=>f) S = some (g a,S')/\R S')->∀ S,R S->∃ S',compGo t [] f (l.map val) S = some (l.map g,S')/\R S':=by
 induction l with
 | nil=>intro _ S h;exact ⟨S,rfl,h⟩
 | cons a l ih=>
  intro st S h
  obtain ⟨S1,e,h1⟩:=st a List.mem_cons_self S h
  obtain ⟨S2,e2,h2⟩:=ih (fun a m=>st a (List.mem_cons_of_mem _ m)) S1 h1
  obtain ⟨u,S3,e3,e4⟩:=bnd_some e
  exact ⟨S2,((bnd_eq e3).trans ((bnd_eq (f:=tests []) rfl).trans ((bnd_eq e4).trans ((bnd_eq e2).trans rfl)))),h2⟩
noncomputable def ontv (t:Tg) (v:V) (b:B V):B V:=⟨bnd (putT t v) fun _=>b.f,fun s=>(gPut t v s).bind fun p=>b.g p.2,B.bnd (x:=oput t v) fun _ s=>b.ok s⟩
theorem comp_I {α:Type} {t:Tg} {b:B V} {p:Bool} {cp:List (Option Nat)} {sl:List (Option V)} {ob:OB} {nx:Nat} (val:α->V) (g:α->V) (R:SS->Prop) (l:List α) (ht:t.fits p = true) (hv:nrs (l.map val) = true) (hg:nrs (l.map g) = true) (hl:l.length<=lim)
  (st:∀ a ∈ l,∀ S,R S->∃ S',(ontv t (val a) b).f S = some (g a,S')/\R S') (h:R ⟨inner cp sl,[],0⟩):compM false cp t (l.map val,none,p) [] b.f ⟨sl,ob,nx⟩ = some (.lst (l.map g),⟨sl,ob,nx⟩):=by
 obtain ⟨S',e,_⟩:=compGo_I val g R l st _ h
 have k:compRun cp t (l.map val,none,p) [] b.f sl = some (l.map g):=by
  refine (if_pos (Bool.and_eq_true_iff.mpr ⟨hv,ht⟩)).trans ?_
  rw [e]
  exact if_pos hg
 show (compRun cp t (l.map val,none,p) [] b.f sl).bind _ = _
 rw [k]
 exact if_pos (Nat.le_trans (Nat.le_of_eq (List.length_map _)) hl)
theorem comp_C {t:Tg} {b:B V} {cp:List (Option Nat)} {sl:List (Option V)} {ob:OB} {nx:Nat} (g:C->C) (st:Option V->SS) (l:List C) (hl:l.length<=lim) (ht:t.fits false = true)
  (hs:∀ o,nf o->∀ c,(ontv t (C.v c) b).f (st o) = some ((g c).v,st (some (C.v c)))) (h:st none = ⟨inner cp sl,[],0⟩):compM false cp t (vs l,none,false) [] b.f ⟨sl,ob,nx⟩ = some (cl (l.map g),⟨sl,ob,nx⟩):=by
 have:=comp_I (b:=b) (cp:=cp) (sl:=sl) (ob:=ob) (nx:=nx) C.v (fun c=>(g c).v) (fun S=>∃ o,nf o/\S = st o) l ht (nrs_vs l) (by have:=nrs_vs (l.map g);unfold vs at this;rwa [List.map_map] at this) hl
  (fun c _ S ⟨o,ho,hS⟩=>⟨_,hS ▸ hs o ho c,_,rfl,rfl⟩) ⟨none,rfl,h.symm⟩
 refine this.trans ?_
 unfold cl vs
 rw [List.map_map];rfl
noncomputable def mark1 (d c:C):C:=if c = .NSM then (if d ∈ [C.LRI,.RLI,.FSI,.PDI] then .ON else d) else c
noncomputable def marks:C->List C->List C
 | _,[]=>[]
 | d,c :: l=>mark1 d c :: marks (mark1 d c) l
noncomputable def R3 (cls sos:V) (tl:List (Option V)) (F:C->List C->List C) (res:List V) (l:List C) (S:SS):Prop:=
 ∃ acc d o,nf o/\acc++vs (F d l) = res/\S = ⟨[some cls,some sos,some (.ref 0),some (C.v d),o]++tl,[(0,.list acc)],1⟩
theorem loop3 {cls sos:V} {tl:List (Option V)} {b:B Fl} (F:C->List C->List C) (f g:C->C->C) (hF:∀ d c l,F d (c :: l) = f d c :: F (g d c) l) {d:C} (l:List C) (h:(F d l).length<=lim)
  (st:∀ acc d c o,nf o->acc.length < lim->∃ o',nf o'/\(ontn (.one 4) (C.v c) b).f ⟨[some cls,some sos,some (.ref 0),some (C.v d),o]++tl,[(0,.list acc)],1⟩ = some (.next,⟨[some cls,some sos,some (.ref 0),some (C.v (g d c)),o']++tl,[(0,.list (acc++[(f d c).v]))],1⟩)) (hN:∀ d,F d [] = []) :
  ∃ d' o',forL (.one 4) b.f (vs l) ⟨[some cls,some sos,some (.ref 0),some (C.v d),none]++tl,[(0,.list [])],1⟩ = some (.next,⟨[some cls,some sos,some (.ref 0),some (C.v d'),o']++tl,[(0,.list (vs (F d l)))],1⟩):=by
 obtain ⟨S',e,acc,d',o',_,hr,rfl⟩:=loopI C.v (R3 cls sos tl F (vs (F d l))) (fun c l' S ⟨acc,d1,o,ho,hr,hS⟩=>by
  rw [hF] at hr
  obtain ⟨o',ho',q⟩:=st acc d1 c o ho (by
   have:=congrArg List.length hr
   rw [List.length_append,vs_len,vs_len,List.length_cons] at this
   omega)
  exact ⟨_,hS ▸ q,_,_,o',ho',by rw [List.append_assoc];exact hr,rfl⟩) l _ ⟨[],d,none,rfl,rfl,rfl⟩
 rw [hN,show vs [] = [] from rfl,List.append_nil] at hr
 exact ⟨d',o',hr ▸ e⟩
theorem marks_len:∀ (l:List C) (d:C),(marks d l).length = l.length
 | [],_=>rfl
 | _ :: l,_=>congrArg (· + 1) (marks_len l _)
theorem sp268 (E:En) (l:List C) (d:C) (h:l.length<=lim):pfin ((b268 E).f ⟨[some (cl l),some d.v,none,none,none,none],[],0⟩) = some (cl (marks d l)):=by
 obtain ⟨d',o',e⟩:=loop3 (cls:=cl l) (sos:=d.v) (tl:=[none]) (b:=f268_1 E) marks mark1 mark1 (fun _ _ _=>rfl) (d:=d) l (marks_len l d ▸ h) (fun acc d c o ho h=>by
  refine ⟨some (mark1 d c).v,rfl,?_⟩
  unfold mark1
  by_cases h1:c = .NSM
  ·subst h1
   by_cases h2:d ∈ [C.LRI,.RLI,.FSI,.PDI]
   ·rw [if_pos rfl,if_pos h2]
    exact B.by [.n ho,.b0,.b (qi h2),.b (qt h)] (by kernel_rfl)
   ·rw [if_pos rfl,if_neg h2]
    exact B.by [.n ho,.b0,.b (qj h2),.b (qt h)] (by kernel_rfl)
  ·rw [if_neg h1]
   exact B.by [.n ho,.b (qn h1),.b (qt h)] (by kernel_rfl)) fun _=>rfl
 exact pfin0 (still_vs _) (B.fin [.f e] (by kernel_rfl))
noncomputable def strongA (d c:C):C:=if c ∈ [C.L,.R,.AL] then c else d
noncomputable def num1 (d c:C):C:=if c = .EN/\strongA d c = .AL then .AN else c
noncomputable def nums:C->List C->List C
 | _,[]=>[]
 | d,c :: l=>num1 d c :: nums (strongA d c) l
theorem nums_len:∀ (l:List C) (d:C),(nums d l).length = l.length
 | [],_=>rfl
 | _ :: l,_=>congrArg (· + 1) (nums_len l _)
theorem sp275 (E:En) (l:List C) (d:C) (h:l.length<=lim):pfin ((b275 E).f ⟨[some (cl l),some d.v,none,none,none],[],0⟩) = some (cl (nums d l)):=by
 obtain ⟨d',o',e⟩:=loop3 (cls:=cl l) (sos:=d.v) (tl:=[]) (b:=f275_1 E) nums num1 strongA (fun _ _ _=>rfl) (d:=d) l (nums_len l d ▸ h) (fun acc d c o ho h=>by
  refine ⟨some c.v,rfl,?_⟩
  by_cases h1:c ∈ [C.L,.R,.AL]
  ·have h2:c ≠ .EN:=by rintro rfl;revert h1;decide
   rw [show num1 d c = c from if_neg fun q=>h2 q.1,show strongA d c = c from if_pos h1]
   exact B.by [.n ho,.b (qi h1),.b (qn h2),.b (qt h)] (by kernel_rfl)
  ·have h3:strongA d c = d:=if_neg h1
   unfold num1
   rw [h3]
   by_cases h2:c = .EN
   ·subst h2
    by_cases h4:d = .AL
    ·rw [if_pos ⟨rfl,h4⟩];exact B.by [.n ho,.b0,.b0,.b (qe h4),.b (qt h)] (by kernel_rfl)
    ·rw [if_neg fun q=>h4 q.2];exact B.by [.n ho,.b0,.b0,.b (qn h4),.b (qt h)] (by kernel_rfl)
   ·rw [if_neg fun q=>h2 q.1]
    exact B.by [.n ho,.b (qj h1),.b (qn h2),.b (qt h)] (by kernel_rfl)) fun _=>rfl
 exact pfin0 (still_vs _) (B.fin [.f e] (by kernel_rfl))
noncomputable def let1 (c:C):C:=if c = .AL then .R else c
theorem sp280 (E:En) (l:List C) (h:l.length<=lim):pfin ((b280 E).f ⟨[some (cl l)],[],0⟩) = some (cl (l.map let1)):=by
 have e:=comp_C (t:=.one 1) (cp:=[none,none]) (sl:=[some (cl l)]) (ob:=[]) (nx:=0) (b:=oeIf (otCmp .Eq (oeVar 1) (okS "AL")) (okS "R") (oeVar 1)) let1 (fun o=>⟨[none,o],[],0⟩) l h rfl (fun o ho c=>by
  unfold let1
  by_cases hc:c = .AL
  ·rw [if_pos hc];exact B.by [.n ho,.b (qe hc)] (by kernel_rfl)
  ·rw [if_neg hc];exact B.by [.n ho,.b (qn hc)] (by kernel_rfl)) rfl
 exact B.pv (still_cl _) [.s e] (by kernel_rfl)
noncomputable def left1 (c:C):C:=if c ∈ [C.ES,.ET,.CS] then .ON else c
theorem sp313 (E:En) (l:List C) (h:l.length<=lim):pfin ((b313 E).f ⟨[some (cl l)],[],0⟩) = some (cl (l.map left1)):=by
 have e:=comp_C (t:=.one 1) (cp:=[none,none,none]) (sl:=[some (cl l)]) (ob:=[]) (nx:=0) (b:=oeIf (otCmp .In (oeVar 1) (oeG (some (.tup [.str "ES",.str "ET",.str "CS"])))) (okS "ON") (oeVar 1)) left1 (fun o=>⟨[none,o,none],[],0⟩) l h rfl (fun o ho c=>by
  unfold left1
  by_cases hc:c ∈ [C.ES,.ET,.CS]
  ·rw [if_pos hc];exact B.by [.n ho,.b (qi hc)] (by kernel_rfl)
  ·rw [if_neg hc];exact B.by [.n ho,.b (qj hc)] (by kernel_rfl)) rfl
 exact B.pv (still_cl _) [.s e] (by kernel_rfl)
noncomputable def strongL (d c:C):C:=if c ∈ [C.L,.R] then c else d
noncomputable def lnum1 (d c:C):C:=if c = .EN/\strongL d c = .L then .L else c
noncomputable def lnums:C->List C->List C
 | _,[]=>[]
 | d,c :: l=>lnum1 d c :: lnums (strongL d c) l
theorem lnums_len:∀ (l:List C) (d:C),(lnums d l).length = l.length
 | [],_=>rfl
 | _ :: l,_=>congrArg (· + 1) (lnums_len l _)
theorem sp320 (E:En) (l:List C) (d:C) (h:l.length<=lim):pfin ((b320 E).f ⟨[some (cl l),some d.v,none,none,none],[],0⟩) = some (cl (lnums d l)):=by
 obtain ⟨d',o',e⟩:=loop3 (cls:=cl l) (sos:=d.v) (tl:=[]) (b:=f320_1 E) lnums lnum1 strongL (fun _ _ _=>rfl) (d:=d) l (lnums_len l d ▸ h) (fun acc d c o ho h=>by
  refine ⟨some c.v,rfl,?_⟩
  by_cases h1:c ∈ [C.L,.R]
  ·have h2:c ≠ .EN:=by rintro rfl;revert h1;decide
   rw [show lnum1 d c = c from if_neg fun q=>h2 q.1,show strongL d c = c from if_pos h1]
   exact B.by [.n ho,.b (qi h1),.b (qn h2),.b (qt h)] (by kernel_rfl)
  ·have h3:strongL d c = d:=if_neg h1
   unfold lnum1
   rw [h3]
   by_cases h2:c = .EN
   ·subst h2
    by_cases h4:d = .L
    ·rw [if_pos ⟨rfl,h4⟩];exact B.by [.n ho,.b0,.b0,.b (qe h4),.b (qt h)] (by kernel_rfl)
    ·rw [if_neg fun q=>h4 q.2];exact B.by [.n ho,.b0,.b0,.b (qn h4),.b (qt h)] (by kernel_rfl)
   ·rw [if_neg fun q=>h2 q.1]
    exact B.by [.n ho,.b (qj h1),.b (qn h2),.b (qt h)] (by kernel_rfl)) fun _=>rfl
 exact pfin0 (still_vs _) (B.fin [.f e] (by kernel_rfl))
noncomputable def strongV (c:C):V:=if c = .L then .str "L" else if c ∈ [C.R,.EN,.AN] then .str "R" else .none
theorem sp362 (E:En) (c:C):pfin ((b362 E).f ⟨[some c.v,none],[],0⟩) = some (strongV c):=by
 cases c <;> exact B.pv rfl [] (by kernel_rfl)
noncomputable def emb (i:Int):C:=if i % 2 = 0 then .L else .R
theorem sp369 (E:En) (i:Int):pfin ((b369 E).f ⟨[some (.int i)],[],0⟩) = some (emb i).v:=by
 unfold emb
 by_cases h:i % 2 = 0
 ·rw [if_pos h];exact B.pv rfl [.b (qz h)] (by kernel_rfl)
 ·rw [if_neg h];exact B.pv rfl [.b (qy h)] (by kernel_rfl)
noncomputable def dir2 (i j:Int):C:=if (if i < j then j else i) % 2 = 1 then .R else .L
theorem sp201 (E:En) (i j:Int):pfin ((b201 E).f ⟨[some (.int i),some (.int j),none],[],0⟩) = some (dir2 i j).v:=by
 unfold dir2
 by_cases h:(if i < j then j else i) % 2 = 1
 ·rw [if_pos h];exact B.pv rfl [.b (qz h)] (by kernel_rfl)
 ·rw [if_neg h];exact B.pv rfl [.b (qy h)] (by kernel_rfl)
noncomputable def impl1 (c:C) (i:Int):Int:=if i % 2 = 0 then i + (if c ∈ [C.EN,.AN] then 2 else if c = .R then 1 else 0) else if c = .R then i else i + 1
theorem sp405 (E:En) (c:C) (i:Int):pfin ((b405 E).f ⟨[some c.v,some (.int i),none],[],0⟩) = some (.int (impl1 c i)):=by
 unfold impl1
 by_cases h:i % 2 = 0
 ·rw [if_pos h];cases c <;> exact B.pv rfl [.b (qz h)] (by kernel_rfl)
 ·rw [if_neg h];cases c <;> exact B.pv rfl [.b (qy h)] (by kernel_rfl)
noncomputable def cAt (l:List C) (i:Nat):C:=l.getD i .ON
theorem vs_get (l:List C) (i:Nat) (h:i < l.length):(vs l)[i]? = some (cAt l i).v:=by
 simp [vs,cAt,h]
theorem place_nat {i n:Nat} (h:i < n):place (i:Int) n = some i:=by unfold place;rw [if_pos (by omega),if_pos (by omega)];rfl
theorem place_pred {i n:Nat} (h0:0 < i) (h:i<=n):place ((i:Int) - 1) n = some (i - 1):=by rw [show (i:Int) - 1 = ((i - 1:Nat):Int) by omega];exact place_nat (by omega)
theorem place_succ {i n:Nat} (h:i + 1 < n):place ((i:Int) + 1) n = some (i + 1):=place_nat h
theorem sub_cl {l:List C} {i:Int} {k:Nat} (h:place i l.length = some k) (S:SS):sub (cl l) (.int i) S = some ((cAt l k).v,S):=by
 have hk:k < l.length:=by
  unfold place at h
  split at h
  ·split at h
   ·cases h;omega
   ·cases h
  ·split at h
   ·cases h;omega
   ·cases h
 show (((place i (vs l).length).bind fun j=>(vs l)[j]?).map (·,S)) = _
 rw [vs_len,h]
 show ((vs l)[k]?).map (·,S) = _
 rw [vs_get l k hk];rfl
theorem len_cl (l:List C) (S:SS):lenM (cl l) S = some (.int l.length,S):=by
 show some (V.int ((vs l).length:Nat),S) = _
 rw [vs_len]
theorem vs_set (l:List C) (i:Nat) (c:C):vs (l.set i c) = (vs l).set i c.v:=List.map_set
noncomputable def sepOk (l:List C) (i:Nat):Bool:=cAt l (i - 1) == cAt l (i + 1) && ((cAt l i == .CS && (cAt l (i - 1) == .EN || cAt l (i - 1) == .AN)) || (cAt l i == .ES && cAt l (i - 1) == .EN))
noncomputable def sepPut (l f:List C) (i:Nat):List C:=if sepOk l i = true then f.set i (cAt l (i - 1)) else f
inductive R287 (l res:List C):List Nat->SS->Prop
 | mk {is f o2 o3 o4}:nf o2->nf o3->nf o4->f.length = l.length->(∀ i ∈ is,1<=i/\i + 1 < l.length)->is.foldl (sepPut l) f = res->R287 l res is ⟨[some (cl l),some (.ref 0),o2,o3,o4,none,none,none,none],[(0,.list (vs f))],1⟩
noncomputable def natV (k:Nat):V:=.int (k:Int)
theorem rangeV_nat (m n:Nat):rangeV (m:Int) (n:Int) = (List.range' m (n - m)).map natV:=by
 unfold rangeV
 rw [List.range'_eq_map_range,List.map_map,show ((n:Int) - (m:Int)).toNat = n - m by omega]
 exact List.map_congr_left fun k _=>congrArg V.int (Int.natCast_add m k).symm
theorem small_le {i:Int} (h1:-3<=i) (h2:i<=1048577):small i = true:=by
 unfold small big
 rw [decide_eq_true (show -1152921504606846976 < i by omega),decide_eq_true (show i < 1152921504606846976 by omega)];rfl
theorem qr {i j:Int} (h1:small i = true) (h2:small j = true):some (small i && small j) = some true:=by rw [h1,h2];rfl
theorem list_cl {l:List C} (h:l.length<=lim) (sl:List (Option V)) (ob:OB) (nx:Nat):listM true (cl l) ⟨sl,ob,nx⟩ = some (.ref nx,⟨sl,(nx,.list (vs l)) :: ob,nx + 1⟩):=if_pos (by rw [vs_len];exact h)
noncomputable def pairV (p:Nat × Nat):V:=.tup [.int (p.1:Int),.int (p.2:Int)]
noncomputable def begV:Option Nat->V
 | none=>.none
 | some k=>.int (k:Int)
noncomputable def runB (p:C->Bool) (at':Nat) (b:Option Nat) (c:C):Option Nat:=if p c then (match b with | none=>some at' | some x=>some x) else none
noncomputable def runF (p:C->Bool) (at':Nat) (b:Option Nat) (c:C):List (Nat × Nat):=if p c then [] else (match b with | none=>[] | some x=>[(x,at')])
noncomputable def runsGo (p:C->Bool):Nat->Option Nat->List C->List (Nat × Nat) × Option Nat
 | _,b,[]=>([],b)
 | k,b,c :: l=>let r:=runsGo p (k + 1) (runB p k b c) l;(runF p k b c++r.1,r.2)
noncomputable def runs (p:C->Bool) (l:List C):List (Nat × Nat):=let r:=runsGo p 0 none l;r.1++(match r.2 with | none=>[] | some x=>[(x,l.length)])
noncomputable def enumV (p:Nat × C):V:=.tup [.int (p.1:Int),p.2.v]
noncomputable def ens:Nat->List C->List (Nat × C)
 | _,[]=>[]
 | k,c :: l=>(k,c) :: ens (k + 1) l
theorem enum_vs:∀ (l:List C) (k:Nat),enum k (vs l) = (ens k l).map enumV
 | [],_=>rfl
 | c :: l,k=>congrArg (V.tup [.int (k:Int),c.v] :: ·) (enum_vs l (k + 1))
inductive R294 (p:C->Bool) (cls:V) (kl:List V) (r:List (Nat × Nat) × Option Nat):List (Nat × C)->SS->Prop
 | mk {k l acc b o4 o5}:nf o4->nf o5->acc++(runsGo p k b l).1.map pairV = r.1.map pairV->(runsGo p k b l).2 = r.2->R294 p cls kl r (ens k l) ⟨[some cls,some (.tup kl),some (.ref 0),some (begV b),o4,o5,none,none],[(0,.list acc)],1⟩
theorem step294 (E:En) (cls:V) (kl:List V) (p:C->Bool) (acc:List V) (k:Nat) (b:Option Nat) (c:C) (hp:anyEq c.v kl = some (p c)) (o4 o5:Option V) (n4:nf o4) (n5:nf o5) (h:∀ x,runF p k b c = [x]->acc.length < lim) :
  (ontn (.many [4,5]) (enumV (k,c)) (f294_1 E)).f ⟨[some cls,some (.tup kl),some (.ref 0),some (begV b),o4,o5,none,none],[(0,.list acc)],1⟩ =
   some (.next,⟨[some cls,some (.tup kl),some (.ref 0),some (begV (runB p k b c)),some (.int (k:Int)),some c.v,none,none],[(0,.list (acc++(runF p k b c).map pairV))],1⟩):=by
 have hq:(anyEq c.v kl).map (!·) = some (!p c):=congrArg (Option.map (!·)) hp
 unfold runB runF at *
 cases e:p c with
 | true=>
  rw [e] at hp hq
  rw [if_pos rfl,if_pos rfl,List.map_nil,List.append_nil]
  cases b with
  | none=>exact B.by [.n n4,.n n5,.b hp] (by kernel_rfl)
  | some x=>exact B.by [.n n4,.n n5,.b hp,.b0,.b hq] (by kernel_rfl)
 | false=>
  rw [e] at hp hq h
  rw [if_neg Bool.false_ne_true,if_neg Bool.false_ne_true]
  cases b with
  | none=>
   rw [List.map_nil,List.append_nil]
   exact B.by [.n n4,.n n5,.b hp,.b hq] (by kernel_rfl)
  | some x=>exact B.by [.n n4,.n n5,.b hp,.b hq,.b0,.b (qt (h _ rfl))] (by kernel_rfl)
theorem runsGo_len (p:C->Bool):∀ (l:List C) (k:Nat) (b:Option Nat),(runsGo p k b l).1.length + (match (runsGo p k b l).2 with | some _=>1 | none=>0)<=l.length + (match b with | some _=>1 | none=>0)
 | [],k,b=>by simp [runsGo]
 | c :: l,k,b=>by
  have:=runsGo_len p l (k + 1) (runB p k b c)
  simp only [runsGo,List.length_append,List.length_cons]
  unfold runF runB at *
  cases b <;> cases hp:p c <;> simp [hp] at this ⊢ <;> omega
theorem still_pairs:∀ l:List (Nat × Nat),(l.map pairV).all still = true
 | []=>rfl
 | _ :: l=>still_pairs l
theorem sp294 (E:En) (l:List C) (kl:List V) (p:C->Bool) (hp:∀ c:C,anyEq c.v kl = some (p c)) (h:l.length < lim) :
  pfin ((b294 E).f ⟨[some (cl l),some (.tup kl),none,none,none,none,none,none],[],0⟩) = some (.lst ((runs p l).map pairV)):=by
 have hl:=runsGo_len p l 0 none
 have hL:(runsGo p 0 none l).1.length<=l.length:=Nat.le_trans (Nat.le_add_right _ _) hl
 obtain ⟨S',e,hR⟩:=loopI enumV (R294 p (cl l) kl (runsGo p 0 none l)) (b:=f294_1 E) (fun x its S h=>by
  generalize hi:x :: its = xs at h
  cases h with
  | @mk k l' acc b o4 o5 n4 n5 hr hb=>
   cases l' with
   | nil=>cases hi
   | cons c l'=>
    cases hi
    have hr':acc++(runF p k b c++(runsGo p (k + 1) (runB p k b c) l').1).map pairV = (runsGo p 0 none l).1.map pairV:=hr
    refine ⟨_,step294 E (cl l) kl p acc k b c (hp c) o4 o5 n4 n5 fun x hx=>?_,.mk rfl rfl (by rw [List.append_assoc,← List.map_append];exact hr') hb⟩
    rw [hx] at hr'
    have:=congrArg List.length hr'
    rw [List.length_append,List.length_map,List.length_map,List.length_append,List.length_singleton] at this
    omega) (ens 0 l) _ (.mk (k:=0) (l:=l) (acc:=[]) (b:=none) (o4:=none) (o5:=none) rfl rfl rfl rfl)
 generalize hi:([]:List (Nat × C)) = xs at hR
 cases hR with
 | @mk k l' acc b o4 o5 _ _ hr hb=>
 cases l' with
 | cons c l'=>cases hi
 | nil=>
  have hb:b = _:=hb
  have hr:acc++[] = _:=hr
  rw [List.append_nil] at hr
  rw [← enum_vs] at e
  show pfin _ = some (.lst (((runsGo p 0 none l).1++(match (runsGo p 0 none l).2 with | none=>[] | some x=>[(x,l.length)])).map pairV))
  rw [hb,hr] at e
  cases hs:(runsGo p 0 none l).2 with
  | none=>
   rw [hs] at e
   dsimp only
   rw [List.append_nil]
   exact pfin0 (still_pairs _) (B.fin [.f e,.b0] (by kernel_rfl))
  | some x=>
   rw [hs] at e hl
   dsimp only at hl ⊢
   have hx:((runsGo p 0 none l).1.map pairV).length < lim:=by rw [List.length_map];omega
   refine pfin0 (still_pairs _) ?_
   rw [List.map_append]
   exact B.fin [.f e,.b0,.m (len_cl l),.b (qt hx)] (by kernel_rfl)
noncomputable def besA (l:List C) (a:Nat) (x:V):V:=if 0 < a then (cAt l (a - 1)).v else x
noncomputable def besB (l:List C) (b:Nat) (y:V):V:=if b < l.length then (cAt l b).v else y
theorem sp301 (E:En) (l:List C) (a b:Nat) (x y:V) (ha:a<=l.length) (hx:scal x = true) (hy:scal y = true) :
  pfin ((b301 E).f ⟨[some (cl l),some (.int (a:Int)),some (.int (b:Int)),some x,some y,none,none],[],0⟩) = some (.tup [besA l a x,besB l b y]):=by
 have st:∀ x y,scal x = true->scal y = true->still (.tup [x,y]) = true:=fun x y h1 h2=>by show (scal x && (scal y && true)) = true;rw [h1,h2];rfl
 unfold besA besB
 by_cases h1:0 < a
 ·have s1:=sub_cl (l:=l) (place_pred h1 ha)
  have i1:=qt (show (0:Int) < (a:Int) by omega)
  rw [if_pos h1]
  by_cases h2:b < l.length
  ·rw [if_pos h2]
   exact B.pv (st _ _ rfl rfl) [.b i1,.m s1,.m (len_cl l),.b (qt (show (b:Int) < (l.length:Nat) by omega)),.m (sub_cl (l:=l) (place_nat h2))] (by kernel_rfl)
  ·rw [if_neg h2]
   exact B.pv (st _ _ rfl hy) [.b i1,.m s1,.m (len_cl l),.b (qf (show ¬ (b:Int) < (l.length:Nat) by omega))] (by kernel_rfl)
 ·have i1:=qf (show ¬ (0:Int) < (a:Int) by omega)
  rw [if_neg h1]
  by_cases h2:b < l.length
  ·rw [if_pos h2]
   exact B.pv (st _ _ hx rfl) [.b i1,.m (len_cl l),.b (qt (show (b:Int) < (l.length:Nat) by omega)),.m (sub_cl (l:=l) (place_nat h2))] (by kernel_rfl)
  ·rw [if_neg h2]
   exact B.pv (st _ _ hx hy) [.b i1,.m (len_cl l),.b (qf (show ¬ (b:Int) < (l.length:Nat) by omega))] (by kernel_rfl)
theorem nrs_ints {α:Type} (f:α->Int):∀ l:List α,nrs (l.map fun c=>V.int (f c)) = true
 | []=>rfl
 | _ :: l=>nrs_ints f l
theorem still_ints:∀ l:List Int,(l.map V.int).all still = true
 | []=>rfl
 | _ :: l=>still_ints l
theorem sp410 (E:En) (l:List C) (i:Int) (h:l.length<=lim) (h405:∀ (c:C),pureCall E.rc 405 [c.v,.int i] = some (.int (impl1 c i))) :
  pfin ((b410 E).f ⟨[some (cl l),some (.int i)],[],0⟩) = some (.lst (l.map fun c=>.int (impl1 c i))):=by
 have e:=comp_I (t:=.one 1) (p:=false) (cp:=[none,none,none,some 1]) (sl:=[some (cl l),some (.int i)]) (ob:=[]) (nx:=0) (b:=oeCallP E.rc 405 [(oeVar 1),(oeVar 3)]) C.v (fun c=>.int (impl1 c i)) (fun S=>∃ o,nf o/\S = ⟨[none,o,none,some (.int i)],[],0⟩)
  l rfl (nrs_vs l) (nrs_ints _ _) h (fun c _ S ⟨o,ho,hS⟩=>⟨⟨[none,some c.v,none,some (.int i)],[],0⟩,hS ▸ B.by [.n ho,.m (qc (l:=[c.v,.int i]) rfl (h405 c))] (by kernel_rfl),some c.v,rfl,rfl⟩) ⟨none,rfl,rfl⟩
 exact B.pv (v:=.lst _) (nrs_ints _ _) [.s e] (by kernel_rfl)
end Mine
end
noncomputable section
open PySem PySem.W PySem.Calls PyProof.Rows PySem.SeqAt
namespace Mine
noncomputable abbrev F (k:Nat):Raw:=Mine.call pg k
theorem pc268 (k:Nat) (l:List C) (d:C) (h:l.length<=lim):pureCall (F (k + 1)) 268 [cl l,d.v] = some (cl (marks d l)):=(pure_pfin (stp268 k _ _ _)).trans (sp268 _ l d h)
theorem pc275 (k:Nat) (l:List C) (d:C) (h:l.length<=lim):pureCall (F (k + 1)) 275 [cl l,d.v] = some (cl (nums d l)):=(pure_pfin (stp275 k _ _ _)).trans (sp275 _ l d h)
theorem pc280 (k:Nat) (l:List C) (h:l.length<=lim):pureCall (F (k + 1)) 280 [cl l] = some (cl (l.map let1)):=(pure_pfin (stp280 k _ _)).trans (sp280 _ l h)
theorem pc313 (k:Nat) (l:List C) (h:l.length<=lim):pureCall (F (k + 1)) 313 [cl l] = some (cl (l.map left1)):=(pure_pfin (stp313 k _ _)).trans (sp313 _ l h)
theorem pc320 (k:Nat) (l:List C) (d:C) (h:l.length<=lim):pureCall (F (k + 1)) 320 [cl l,d.v] = some (cl (lnums d l)):=(pure_pfin (stp320 k _ _ _)).trans (sp320 _ l d h)
theorem pc362 (k:Nat) (c:C):pureCall (F (k + 1)) 362 [c.v] = some (strongV c):=(pure_pfin (stp362 k _ _)).trans (sp362 _ c)
theorem pc369 (k:Nat) (i:Int):pureCall (F (k + 1)) 369 [.int i] = some (emb i).v:=(pure_pfin (stp369 k _ _)).trans (sp369 _ i)
theorem pc201 (k:Nat) (i j:Int):pureCall (F (k + 1)) 201 [.int i,.int j] = some (dir2 i j).v:=(pure_pfin (stp201 k _ _ _)).trans (sp201 _ i j)
theorem pc405 (k:Nat) (c:C) (i:Int):pureCall (F (k + 1)) 405 [c.v,.int i] = some (.int (impl1 c i)):=(pure_pfin (stp405 k _ _ _)).trans (sp405 _ c i)
theorem pc410 (k:Nat) (l:List C) (i:Int) (h:l.length<=lim):pureCall (F (k + 2)) 410 [cl l,.int i] = some (.lst (l.map fun c=>.int (impl1 c i))):=(pure_pfin (stp410 (k + 1) _ _ _)).trans (sp410 (en (k + 1)) l i h fun c=>pc405 k c i)
theorem pc294 (k:Nat) (l:List C) (kl:List V) (p:C->Bool) (hp:∀ c:C,anyEq c.v kl = some (p c)) (h:l.length < lim):pureCall (F (k + 1)) 294 [cl l,.tup kl] = some (.lst ((runs p l).map pairV)):=(pure_pfin (stp294 k _ _ _)).trans (sp294 _ l kl p hp h)
theorem pc301 (k:Nat) (l:List C) (a b:Nat) (x y:V) (ha:a<=l.length) (hx:scal x = true) (hy:scal y = true):pureCall (F (k + 1)) 301 [cl l,.int (a:Int),.int (b:Int),x,y] = some (.tup [besA l a x,besB l b y]):=(pure_pfin (stp301 k _ _ _ _ _ _)).trans (sp301 _ l a b x y ha hx hy)
noncomputable def fill (f:List C) (a b:Nat) (c:C):List C:=(List.range' a (b - a)).foldl (fun f i=>f.set i c) f
theorem fold_len {α:Type} {g:List C->α->List C} (hg:∀ f i,(g f i).length = f.length):∀ (is:List α) (f:List C),(is.foldl g f).length = f.length
 | [],_=>rfl
 | i :: is,f=>by rw [List.foldl_cons,fold_len hg is,hg]
theorem fill_len (f:List C) (a b:Nat) (c:C):(fill f a b c).length = f.length:=fold_len (fun _ _=>List.length_set) _ _
inductive R308a (cls x2 x3:V) (n:Nat) (res:List C):List Nat->SS->Prop
 | mk {is f o}:nf o->f.length = n->(∀ i ∈ is,i < n)->is.foldl (fun f i=>f.set i .EN) f = res->R308a cls x2 x3 n res is ⟨[some cls,some (.ref 0),some x2,some x3,o,none,none,none,none],[(0,.list (vs f))],1⟩
theorem setOk {f:List C} {i:Nat} (h:i < f.length):0<=(i:Int)/\(i:Int) < ((vs f).length:Nat):=by rw [vs_len];omega
noncomputable def hasEN (l:List C) (a b:Nat):Bool:=(decide (0 < a) && decide (cAt l (a - 1) = .EN)) || (decide (b < l.length) && decide (cAt l b = .EN))
noncomputable def term1 (l f:List C) (p:Nat × Nat):List C:=if hasEN l p.1 p.2 = true then fill f p.1 p.2 .EN else f
inductive R308 (l res:List C):List (Nat × Nat)->SS->Prop
 | mk {ps f o2 o3 o4}:nf o2->nf o3->nf o4->f.length = l.length->(∀ q ∈ ps,q.1 < q.2/\q.2<=l.length)->ps.foldl (term1 l) f = res->R308 l res ps ⟨[some (cl l),some (.ref 0),o2,o3,o4,none,none,none,none],[(0,.list (vs f))],1⟩
theorem runsGo_ok (p:C->Bool):∀ (l:List C) (k:Nat) (b:Option Nat),(∀ x,b = some x->x < k)->(∀ q ∈ (runsGo p k b l).1,q.1 < q.2/\q.2 < k + l.length)/\(∀ x,(runsGo p k b l).2 = some x->x < k + l.length)
 | [],k,b,h=>⟨fun _ hq=>(nomatch hq),fun x hx=>h x hx⟩
 | c :: l,k,b,h=>by
  have hb:∀ x,runB p k b c = some x->x < k + 1:=fun x hx=>by
   unfold runB at hx
   split at hx
   ·cases b with
    | none=>cases hx;omega
    | some y=>cases hx;exact Nat.lt_succ_of_lt (h x rfl)
   ·cases hx
  obtain ⟨h1,h2⟩:=runsGo_ok p l (k + 1) (runB p k b c) hb
  have e:k + 1 + l.length = k + (c :: l).length:=by rw [List.length_cons];omega
  rw [e] at h1 h2
  refine ⟨fun q hq=>?_,h2⟩
  rcases List.mem_append.mp hq with hq | hq
  ·unfold runF at hq
   split at hq
   ·cases hq
   ·cases b with
    | none=>cases hq
    | some y=>
     cases List.mem_singleton.mp hq
     exact ⟨h y rfl,by rw [List.length_cons];omega⟩
  ·exact h1 q hq
theorem runs_ok (p:C->Bool) (l:List C):∀ q ∈ runs p l,q.1 < q.2/\q.2<=l.length:=by
 obtain ⟨h1,h2⟩:=runsGo_ok p l 0 none (fun x hx=>by cases hx)
 rw [Nat.zero_add] at h1 h2
 intro q hq
 rcases List.mem_append.mp hq with hq | hq
 ·exact ⟨(h1 q hq).1,Nat.le_of_lt (h1 q hq).2⟩
 ·cases hr:(runsGo p 0 none l).2 with
  | none=>rw [hr] at hq;cases hq
  | some x=>
   rw [hr] at hq
   cases List.mem_singleton.mp hq
   exact ⟨h2 x hr,Nat.le_refl _⟩
theorem small_nat {i:Nat} (h:i<=lim):small (i:Int) = true:=small_le (by omega) (by unfold lim at h;omega)
noncomputable def weakA (d:C) (l:List C):List C:=(nums d (marks d l)).map let1
theorem weakA_len (d:C) (l:List C):(weakA d l).length = l.length:=by unfold weakA;rw [List.length_map,nums_len,marks_len]
noncomputable def nl (l:List Nat):V:=.lst (l.map natV)
noncomputable def il (l:List Int):V:=.lst (l.map .int)
theorem nrs_nl (l:List Nat):nrs (l.map natV) = true:=nrs_ints (fun k:Nat=>(k:Int)) l
theorem nrs_il (l:List Int):nrs (l.map V.int) = true:=nrs_ints id l
noncomputable def sqI (pl cs:List Nat) (l:List C) (lev:Int) (sos eos:C):V:=.ins 190 ["places","classes","level","sos","eos","codes"] [nl pl,cl l,.int lev,sos.v,eos.v,nl cs]
theorem still_sqI (pl cs:List Nat) (l:List C) (lev:Int) (sos eos:C):still (sqI pl cs l lev sos eos) = true:=by
 show (nrs (pl.map natV) && (nrs (vs l) && (nrs (cs.map natV) && true))) = true
 rw [nrs_nl,nrs_nl,nrs_vs];rfl
theorem sq {pl cs:List Nat} {l:List C} {lev:Int} {sos eos:C} {r:List V} (h:r.all still = true):(sqI pl cs l lev sos eos :: r).all still = true:=Bool.and_eq_true_iff.mpr ⟨still_sqI ..,h⟩
theorem list_nl {l:List Nat} (h:l.length<=lim) (S:SS):listM false (nl l) S = some (nl l,S):=if_pos (by rw [List.length_map];exact h)
theorem pc187 (k:Nat) (pl cs:List Nat) (l:List C) (lev:Int) (sos eos:C) (h:cs.length<=lim):newCall (F (k + 1)) 190 187 [nl pl,cl l,.int lev,sos.v,eos.v,nl cs] = some (sqI pl cs l lev sos eos):=
 newOk (B.fin (r:=(.none,([(0,.inst 190 ["places","classes","level","sos","eos","codes"] [nl pl,cl l,.int lev,sos.v,eos.v,nl cs])],1))) [.m (list_nl h)] (by kernel_rfl)) (stp187 k _ _ _ _ _ _ _ _) (by
  show (nrs (pl.map natV) && (nrs (vs l) && (nrs (cs.map natV) && true))) = true
  rw [nrs_nl,nrs_nl,nrs_vs];rfl)
noncomputable def strong:C->Option C
 | .L=>some .L
 | .R=>some .R
 | .EN=>some .R
 | .AN=>some .R
 | _=>none
noncomputable def oV:Option C->V
 | some c=>c.v
 | none=>.none
theorem strongV_eq (c:C):strongV c = oV (strong c):=by cases c <;> rfl
theorem nf_oV (o:Option C):nf (some (oV o)):=by cases o <;> rfl
theorem oV_ne {a b:Option C} (ob:OB):cmpv .NotEq (oV a) (oV b) ob = some (!decide (a = b)):=by
 cases a with
 | none=>cases b <;> rfl
 | some a=>cases b with
  | none=>rfl
  | some b=>
   show some (!(a.s == b.s)) = _
   rw [C.eq_s,show decide (a = b) = decide (some a = some b) from decide_eq_decide.mpr ⟨congrArg some,Option.some.inj⟩]
noncomputable def bA (l:List C) (a:Nat) (x:C):C:=if 0 < a then cAt l (a - 1) else x
noncomputable def bB (l:List C) (b:Nat) (y:C):C:=if b < l.length then cAt l b else y
theorem besA_eq (l:List C) (a:Nat) (x:C):besA l a x.v = (bA l a x).v:=by unfold besA bA;split <;> rfl
theorem besB_eq (l:List C) (a:Nat) (x:C):besB l a x.v = (bB l a x).v:=by unfold besB bB;split <;> rfl
noncomputable def ndir (lev:Int) (a b:C):C:=if strong a = strong b then (strong a).getD .ON else emb lev
noncomputable def neut1 (l:List C) (lev:Int) (sos eos:C) (f:List C) (p:Nat × Nat):List C:=fill f p.1 p.2 (ndir lev (bA l p.1 sos) (bB l p.2 eos))
noncomputable def isN (c:C):Bool:=match c with | .WS=>true | .ON=>true | .LRI=>true | .RLI=>true | .FSI=>true | .PDI=>true | _=>false
noncomputable def st390 (l:List C) (lev:Int) (sos eos:C) (x:List C) (o5 o6 o7 o8 o9 o10:Option V):SS:=
 ⟨[some (cl l),some (.int lev),some sos.v,some eos.v,some (.ref 0),o5,o6,o7,o8,o9,o10,none,none,none,none,none,none,none],[(0,.list (vs x))],1⟩
inductive R390a (l:List C) (lev:Int) (sos eos:C) (o5 o6 o7 o8:Option V) (d:C) (n:Nat) (res:List C):List Nat->SS->Prop
 | mk {is f o}:nf o->f.length = n->(∀ i ∈ is,i < n)->is.foldl (fun f i=>f.set i d) f = res->R390a l lev sos eos o5 o6 o7 o8 d n res is (st390 l lev sos eos f o5 o6 o7 o8 (some d.v) o)
theorem loop390a (E:En) (l:List C) (lev:Int) (sos eos:C) (o5 o6 o7 o8:Option V) (d:C) (f:List C) (o:Option V) (ho:nf o) (a b:Nat) (h:b<=f.length) :
  ∃ o',nf o'/\forL (.one 10) (f390_1 E).f (rangeV (a:Int) (b:Int)) (st390 l lev sos eos f o5 o6 o7 o8 (some d.v) o) = some (.next,st390 l lev sos eos (fill f a b d) o5 o6 o7 o8 (some d.v) o'):=by
 obtain ⟨S',e,hR⟩:=loopI natV (R390a l lev sos eos o5 o6 o7 o8 d f.length (fill f a b d)) (b:=f390_1 E) (fun i is S h=>by
  cases h with
  | @mk g o ho hn hi hr=>
   refine ⟨st390 l lev sos eos (g.set i d) o5 o6 o7 o8 (some d.v) (some (natV i)),?_,.mk rfl (by rw [List.length_set];exact hn) (fun j m=>hi j (List.mem_cons_of_mem _ m)) hr⟩
   unfold st390
   rw [vs_set]
   exact B.by [.n ho,.b (qt (setOk (f:=g) (i:=i) (by rw [hn];exact hi i List.mem_cons_self)))] (by kernel_rfl))
  (List.range' a (b - a)) _ (.mk ho rfl (fun i hi=>by
   obtain ⟨j,hj,rfl⟩:=List.mem_range'.mp hi
   omega) rfl)
 rw [rangeV_nat]
 cases hR with
 | mk ho _ _ hr=>exact ⟨_,ho,hr ▸ e⟩
inductive R390 (l:List C) (lev:Int) (sos eos:C) (res:List C):List (Nat × Nat)->SS->Prop
 | mk {ps x o5 o6 o7 o8 o9 o10}:nf o5->nf o6->nf o7->nf o8->nf o9->nf o10->x.length = l.length->(∀ p ∈ ps,p.1 < p.2/\p.2<=l.length/\strong (bA l p.1 sos) ≠ none)->ps.foldl (neut1 l lev sos eos) x = res->R390 l lev sos eos res ps (st390 l lev sos eos x o5 o6 o7 o8 o9 o10)
theorem step390 (k:Nat) (l:List C) (lev:Int) (sos eos:C) (hl:l.length < lim) (x:List C) (a b:Nat) (o5 o6 o7 o8 o9 o10:Option V) (n5:nf o5) (n6:nf o6) (n7:nf o7) (n8:nf o8) (n9:nf o9) (n10:nf o10)
  (hx:x.length = l.length) (hb:b<=l.length) (hab:a < b) (hs:strong (bA l a sos) ≠ none) :
  ∃ o10',nf o10'/\(ontn (.many [5,6]) (pairV (a,b)) (f390_2 (en (k + 1)))).f (st390 l lev sos eos x o5 o6 o7 o8 o9 o10) =
   some (.next,st390 l lev sos eos (neut1 l lev sos eos x (a,b)) (some (.int a)) (some (.int b)) (some (bA l a sos).v) (some (bB l b eos).v) (some (ndir lev (bA l a sos) (bB l b eos)).v) o10'):=by
 have h3:=pc301 k l a b sos.v eos.v (by omega) rfl rfl
 rw [besA_eq,besB_eq] at h3
 have h4:=pc362 k (bA l a sos)
 have h5:=pc362 k (bB l b eos)
 rw [strongV_eq] at h4 h5
 have hq:=qr (small_nat (i:=a) (by omega)) (small_nat (i:=b) (by omega))
 have hn:=oV_ne (a:=strong (bA l a sos)) (b:=strong (bB l b eos)) [(0,.list (vs x))]
 unfold neut1
 dsimp only
 generalize bA l a sos = p at *
 generalize bB l b eos = q at *
 by_cases z:strong p = strong q
 ·obtain ⟨d,hd⟩:=Option.ne_none_iff_exists'.mp hs
  have hw:ndir lev p q = d:=by unfold ndir;rw [if_pos z,hd];rfl
  rw [hw]
  rw [decide_eq_true z] at hn
  rw [hd] at h4 hn
  obtain ⟨o',ho,e⟩:=loop390a (en (k + 1)) l lev sos eos (some (.int a)) (some (.int b)) (some p.v) (some q.v) d x o10 n10 a b (hx ▸ hb)
  exact ⟨o',ho,B.by [.n n5,.n n6,.m (qc (l:=[cl l,.int a,.int b,sos.v,eos.v]) (sc rfl) h3),.n n7,.n n8,.m (qc (l:=[p.v]) rfl h4),.n n9,.m (qc (l:=[q.v]) rfl h5),.b hn,.b hq,.f e] (by kernel_rfl)⟩
 ·have hw:ndir lev p q = emb lev:=if_neg z
  rw [hw]
  rw [decide_eq_false z] at hn
  obtain ⟨o',ho,e⟩:=loop390a (en (k + 1)) l lev sos eos (some (.int a)) (some (.int b)) (some p.v) (some q.v) (emb lev) x o10 n10 a b (hx ▸ hb)
  exact ⟨o',ho,B.by [.n n5,.n n6,.m (qc (l:=[cl l,.int a,.int b,sos.v,eos.v]) (sc rfl) h3),.n n7,.n n8,.m (qc (l:=[p.v]) rfl h4),.n n9,.m (qc (l:=[q.v]) rfl h5),.b hn,.m (qc (l:=[.int lev]) rfl (pc369 k lev)),.n (nf_oV (strong p)),.b hq,.f e] (by kernel_rfl)⟩
noncomputable def neutC (l:List C) (lev:Int) (sos eos:C):List C:=(runs isN l).foldl (neut1 l lev sos eos) l
theorem pc390 (k:Nat) (l:List C) (lev:Int) (sos eos:C) (hl:l.length < lim) (hst:∀ p ∈ runs isN l,strong (bA l p.1 sos) ≠ none):pureCall (F (k + 2)) 390 [cl l,.int lev,sos.v,eos.v] = some (cl (neutC l lev sos eos)):=by
 obtain ⟨S',e,hR⟩:=loopI pairV (R390 l lev sos eos (neutC l lev sos eos)) (b:=f390_2 (en (k + 1))) (fun q ps S h=>by
  cases h with
  | @mk x o5 o6 o7 o8 o9 o10 n5 n6 n7 n8 n9 n10 hx hq hr=>
   obtain ⟨a,b⟩:=q
   obtain ⟨hab,hb,hs⟩:=hq _ List.mem_cons_self
   obtain ⟨o',ho,e⟩:=step390 k l lev sos eos hl x a b o5 o6 o7 o8 o9 o10 n5 n6 n7 n8 n9 n10 hx hb hab hs
   exact ⟨_,e,.mk rfl rfl rfl rfl rfl ho ((fill_len _ _ _ _).trans hx) (fun j m=>hq j (List.mem_cons_of_mem _ m)) hr⟩)
  (runs isN l) _ (.mk (x:=l) (o5:=none) (o6:=none) (o7:=none) (o8:=none) (o9:=none) (o10:=none) rfl rfl rfl rfl rfl rfl rfl (fun p hp=>⟨(runs_ok isN l p hp).1,(runs_ok isN l p hp).2,hst p hp⟩) rfl)
 cases hR with
 | mk _ _ _ _ _ _ _ _ hr=>
 subst hr
 refine (pure_pfin (stp390 (k + 1) _ _ _ _ _)).trans (pfin0 (still_vs _) (B.fin [.s (list_cl (Nat.le_of_lt hl) [some (cl l),some (.int lev),some sos.v,some eos.v,none,none,none,none,none,none,none,none,none,none,none,none,none,none] [] 0),
  .m (qc (l:=[cl l,.tup [.str "B",.str "S",.str "WS",.str "ON",.str "LRI",.str "RLI",.str "FSI",.str "PDI"]]) (sc rfl) (pc294 k l [.str "B",.str "S",.str "WS",.str "ON",.str "LRI",.str "RLI",.str "FSI",.str "PDI"] isN (fun c=>by cases c <;> rfl) hl)),.f e] (by kernel_rfl)))
theorem pc355 (k:Nat) (pl cs:List Nat) (l:List C) (lev:Int) (sos eos:C) (D r:V) (hD:still D = true) (hr:still r = true) (h:pureCall (F k) 348 [nl cs,cl l,D] = some r):pureCall (F (k + 1)) 355 [sqI pl cs l lev sos eos,D] = some r:=
 (pure_pfin (stp355 k _ _ _)).trans (B.pv hr [.m0,.m0,.m (qc (l:=[nl cs,cl l,D]) (Bool.and_eq_true_iff.mpr ⟨nrs_nl _,sc (Bool.and_eq_true_iff.mpr ⟨hD,rfl⟩)⟩) h)] (by kernel_rfl))
theorem pc398 (k:Nat) (pl cs:List Nat) (l b:List C) (lev:Int) (sos eos:C) (D prs:V) (f g:List C) (hD:still D = true) (hp:still prs = true)
  (h348:pureCall (F k) 348 [nl cs,cl l,D] = some prs) (h383:pureCall (F (k + 1)) 383 [cl l,prs,.int lev,sos.v,cl b] = some (cl f)) (h390:pureCall (F (k + 1)) 390 [cl f,.int lev,sos.v,eos.v] = some (cl g)) :
  pureCall (F (k + 2)) 398 [sqI pl cs l lev sos eos,D,cl b] = some (cl g):=
 (pure_pfin (stp398 (k + 1) _ _ _ _)).trans (B.pv (still_cl _) [.m0,.m (qc (l:=[sqI pl cs l lev sos eos,D]) (sq (Bool.and_eq_true_iff.mpr ⟨hD,rfl⟩)) (pc355 k pl cs l lev sos eos D prs hD hp h348)),.m0,.m0,
  .m (qc (l:=[cl l,prs,.int lev,sos.v,cl b]) (sc (Bool.and_eq_true_iff.mpr ⟨hp,Bool.and_eq_true_iff.mpr ⟨rfl,Bool.and_eq_true_iff.mpr ⟨rfl,sc rfl⟩⟩⟩)) h383),.m0,.m0,.m0,.m (qc (l:=[cl f,.int lev,sos.v,eos.v]) (sc rfl) h390)] (by kernel_rfl))
theorem qm {k:Nat} {mk:MK} {c f:Addr} {ns:List Str} {vs as:List V} {r:V} (hm:pg.meth c mk.name = some f) (hc:ns.contains mk.name = false) (hn:nrs vs = true) (ha:as.all still = true) (q:pureCall (F k) f (.ins c ns vs :: as) = some r) (S:SS) :
  methGo (en k).rc (en k).mt mk (.ins c ns vs) (.inst c) as S = some (r,S):=by
 refine (if_pos (if_neg (by rw [hc];exact Bool.false_ne_true))).trans ?_
 show (pg.meth c mk.name).bind _ = _
 rw [hm]
 refine (if_neg (by rw [hc];exact Bool.false_ne_true)).trans ((if_pos hn).trans ((bnd_eq (freeze_still ha)).trans ?_))
 show lift (pureCall (F k) f (.ins c ns vs :: as)) S = _
 rw [q];rfl
noncomputable def dI (a b c d:V):V:=.ins 540 ["defaults","maps","properties","words"] [a,b,c,d]
theorem get_dI {k:Nat} {a b c d x y r:V} (h:nrs [a,b,c,d] = true) (hs:[x,y].all still = true) (q:pureCall (F k) 530 [dI a b c d,x,y] = some r) (S:SS):methGo (en k).rc (en k).mt .get (dI a b c d) (.inst 540) [x,y] S = some (r,S):=
 qm (by kernel_rfl) (by kernel_rfl) h hs q S
theorem pc30 (k:Nat) (cs:List Nat) (a b c d:V) (h:nrs [a,b,c,d] = true) (g:Nat->C) (hl:cs.length<=lim) (h530:∀ x ∈ cs,pureCall (F k) 530 [dI a b c d,.str "bc",natV x] = some (g x).v):pureCall (F (k + 1)) 30 [nl cs,dI a b c d] = some (cl (cs.map g)):=by
 have hi:inner [none,none,some 1] [some (nl cs),some (dI a b c d)] = [none,none,some (dI a b c d)]:=by
  show [none,none,if nr (dI a b c d) = true then some (dI a b c d) else none] = _
  rw [if_pos (show nr (dI a b c d) = true from h)]
 have e:=comp_I (t:=.one 1) (p:=false) (cp:=[none,none,some 1]) (sl:=[some (nl cs),some (dI a b c d)]) (ob:=[]) (nx:=0) (b:=oeMeth (en k).rc (en k).mt .get (oeVar 2) [(okS "bc"),(oeVar 1)]) natV (fun x=>(g x).v) (fun S=>∃ o,nf o/\S = ⟨[none,o,some (dI a b c d)],[],0⟩)
  cs rfl (nrs_nl cs) (by have:=nrs_vs (cs.map g);unfold vs at this;rwa [List.map_map] at this) hl (fun x hx S ⟨o,ho,hS⟩=>⟨⟨[none,some (natV x),some (dI a b c d)],[],0⟩,hS ▸ B.by [.n ho,.m (get_dI (k:=k) (x:=.str "bc") (y:=natV x) h rfl (h530 x hx))] (by kernel_rfl),_,rfl,rfl⟩) ⟨none,rfl,by rw [hi]⟩
 have hm:cl (cs.map g) = .lst (cs.map fun x=>(g x).v):=by unfold cl vs;rw [List.map_map];rfl
 rw [hm]
 exact (pure_pfin (stp30 k _ _ _)).trans (B.pv (by rw [← hm];exact still_cl _) [.s e] (by kernel_rfl))
noncomputable def enumN (p:Nat × Nat):V:=.tup [natV p.1,natV p.2]
noncomputable def ensN:Nat->List Nat->List (Nat × Nat)
 | _,[]=>[]
 | k,c :: l=>(k,c) :: ensN (k + 1) l
theorem enum_nl:∀ (l:List Nat) (k:Nat),enum k (l.map natV) = (ensN k l).map enumN
 | [],_=>rfl
 | c :: l,k=>congrArg (V.tup [natV k,natV c] :: ·) (enum_nl l (k + 1))
inductive R348 (cs:List Nat) (l:List C) (D:V):List (Nat × Nat)->SS->Prop
 | mk {k m o5 o6 o7}:nf o5->nf o6->nf o7->(∀ x ∈ m,x ∈ cs)->k + m.length<=l.length->R348 cs l D (ensN k m) ⟨[some (nl cs),some (cl l),some D,some (.ref 0),some (.ref 1),o5,o6,o7,none,none,none,none,none,none,none],[(1,.list []),(0,.list [])],2⟩
inductive Wd where
 | ltr | rtl | auto | artl
 deriving DecidableEq
noncomputable def Wd.s:Wd->Str
 | .ltr=>"ltr" | .rtl=>"rtl" | .auto=>"auto" | .artl=>"auto-rtl"
noncomputable def baseOf (w:Wd) (o:Option C):Int:=match w with
 | .ltr=>0
 | .rtl=>1
 | .auto=>(match o with | none=>0 | some c=>if c = .L then 0 else 1)
 | .artl=>(match o with | none=>1 | some c=>if c = .L then 0 else 1)
theorem pc58 (k:Nat) (l:List C) (w:Wd) (P:V) (o:Option C) (hP:still P = true) (h44:pureCall (F k) 44 [cl l] = some P) (h51:pureCall (F k) 51 [cl l,.int 0,.int (l.length:Int),P] = some (oV o)) :
  pureCall (F (k + 1)) 58 [cl l,.str w.s] = some (.int (baseOf w o)):=by
 refine (pure_pfin (stp58 k _ _ _)).trans ?_
 have q1:=qc (l:=[cl l]) (sc rfl) h44
 have q2:=qc (l:=[cl l,.int 0,.int (l.length:Int),P]) (sc (Bool.and_eq_true_iff.mpr ⟨rfl,Bool.and_eq_true_iff.mpr ⟨rfl,Bool.and_eq_true_iff.mpr ⟨hP,rfl⟩⟩⟩)) h51
 have go:∀ w,w = .auto ∨ w = .artl->pfin ((b58 (en k)).f ⟨[some (cl l),some (.str w.s),none,none,none,none],[],0⟩) = some (.int (baseOf w o)):=fun w hw=>by
  rcases hw with rfl | rfl
  all_goals
   cases o with
   | none=>exact B.pv rfl [.m (len_cl l),.m q1,.m q2] (by kernel_rfl)
   | some c=>
    by_cases hc:c = .L
    ·subst hc;exact B.pv rfl [.m (len_cl l),.m q1,.m q2] (by kernel_rfl)
    ·unfold baseOf
     dsimp only
     rw [if_neg hc]
     exact B.pv rfl [.m (len_cl l),.m q1,.m q2,.b0,.b (qn hc)] (by kernel_rfl)
 cases w with
 | ltr=>exact B.pv rfl [] (by kernel_rfl)
 | rtl=>exact B.pv rfl [] (by kernel_rfl)
 | auto=>exact go _ (.inl rfl)
 | artl=>exact go _ (.inr rfl)
noncomputable def parI (cs:List Nat) (base:Int) (ks:List C) (lv:List Int) (cls:List C):V:=
 .ins 245 ["begin","end","codes","base","kinds","levels","classes"] [.int 0,.int (0 + (cs.length:Int)),nl cs,.int base,cl ks,il lv,cl cls]
theorem still_parI (cs:List Nat) (base:Int) (ks:List C) (lv:List Int) (cls:List C):[.int 0,.int (0 + (cs.length:Int)),nl cs,.int base,cl ks,il lv,cl cls].all still = true:=by
 show (nrs (cs.map natV) && (nrs (vs ks) && (nrs (lv.map .int) && (nrs (vs cls) && true)))) = true
 rw [nrs_nl,nrs_vs,nrs_il,nrs_vs];rfl
theorem nr_parI (cs:List Nat) (base:Int) (ks:List C) (lv:List Int) (cls:List C):nrs [.int 0,.int (0 + (cs.length:Int)),nl cs,.int base,cl ks,il lv,cl cls] = true:=still_parI cs base ks lv cls
theorem len_nl (l:List Nat) (S:SS):lenM (nl l) S = some (.int l.length,S):=by
 show some (V.int ((l.map natV).length:Nat),S) = _
 rw [List.length_map]
theorem pc235 (k:Nat) (cs:List Nat) (base:Int) (ks:List C) (lv:List Int) (cls:List C):newCall (F (k + 1)) 245 235 [.int 0,nl cs,.int base,cl ks,il lv,cl cls] = some (parI cs base ks lv cls):=
 newOk (B.fin (r:=(.none,([(0,.inst 245 ["begin","end","codes","base","kinds","levels","classes"] [.int 0,.int (0 + (cs.length:Int)),nl cs,.int base,cl ks,il lv,cl cls])],1))) [.m (len_nl cs)] (by kernel_rfl)) (stp235 k _ _ _ _ _ _ _ _) (still_parI cs base ks lv cls)
theorem pc242 (k:Nat) (cs:List Nat) (base:Int) (ks:List C) (lv:List Int) (cls:List C) (r:V) (hr:still r = true) (h221:pureCall (F k) 221 [cl ks,il lv,cl cls,.int base,nl cs] = some r):pureCall (F (k + 1)) 242 [parI cs base ks lv cls] = some r:=
 (pure_pfin (stp242 k _ _)).trans (B.pv hr [.m0,.m0,.m0,.m0,.m0,.m (qc (l:=[cl ks,il lv,cl cls,.int base,nl cs]) (sc (Bool.and_eq_true_iff.mpr ⟨nrs_il lv,sc (Bool.and_eq_true_iff.mpr ⟨rfl,Bool.and_eq_true_iff.mpr ⟨nrs_nl cs,rfl⟩⟩)⟩)) h221)] (by kernel_rfl))
theorem pc417 (k:Nat) (pl cs:List Nat) (l w f:List C) (lev:Int) (sos eos:C) (D:V) (r:List Int) (hD:still D = true) (hc:cs.length<=lim)
  (h334:pureCall (F (k + 1)) 334 [sqI pl cs l lev sos eos] = some (cl w)) (h398:pureCall (F (k + 1)) 398 [sqI pl cs w lev sos eos,D,cl l] = some (cl f)) (h410:pureCall (F (k + 1)) 410 [cl f,.int lev] = some (il r)) :
  pureCall (F (k + 2)) 417 [sqI pl cs l lev sos eos,D] = some (il r):=by
 have hs:[nl pl,cl w,.int lev,sos.v,eos.v,nl cs].all still = true:=by
  show (nrs (pl.map natV) && (nrs (vs w) && (nrs (cs.map natV) && true))) = true
  rw [nrs_nl,nrs_nl,nrs_vs];rfl
 exact (pure_pfin (stp417 (k + 1) _ _ _)).trans (B.pv (v:=il r) (nrs_il r) [.m (qc (l:=[sqI pl cs l lev sos eos]) (sq rfl) h334),.m0,.m0,.m0,.m0,.m0,.m (qw hs (pc187 k pl cs w lev sos eos hc)),.m0,
  .m (qc (l:=[sqI pl cs w lev sos eos,D,cl l]) (sq (Bool.and_eq_true_iff.mpr ⟨hD,sc rfl⟩)) h398),.m0,.m (qc (l:=[cl f,.int lev]) (sc rfl) h410)] (by kernel_rfl))
noncomputable def pars (n:Nat):List (Nat × Nat):=if n = 0 then [] else [(0,n)]
inductive R37 (cs:List Nat) (D:V):List (Nat × Nat)->SS->Prop
 | mk {k m o4 o5}:nf o4->nf o5->(∀ x ∈ m,x ∈ cs)->R37 cs D (ensN k m) ⟨[some (nl cs),some D,some (.ref 0),some (.int 0),o4,o5,none,none,none,none,none,none],[(0,.list [])],1⟩
theorem pc37 (k:Nat) (cs:List Nat) (a b c d:V) (h:nrs [a,b,c,d] = true) (g:Nat->C) (h530:∀ x ∈ cs,pureCall (F k) 530 [dI a b c d,.str "bc",natV x] = some (g x).v) :
  pureCall (F (k + 1)) 37 [nl cs,dI a b c d] = some (.lst ((pars cs.length).map pairV)):=by
 have cB:∀ c:C,some (c.s == Str.ofString "B") = some false:=fun c=>by cases c <;> rfl
 obtain ⟨S',e,hR⟩:=loopI (t:=.many [4,5]) enumN (R37 cs (dI a b c d)) (b:=f37_1 (en k)) (fun p ps S h'=>by
  generalize hi:p :: ps = xs at h'
  cases h' with
  | @mk j m o4 o5 n4 n5 hm=>
   cases m with
   | nil=>cases hi
   | cons y m=>
    cases hi
    exact ⟨_,B.by [.n n4,.n n5,.m (get_dI (x:=.str "bc") (y:=natV y) h rfl (h530 y (hm y List.mem_cons_self))),.b (cB (g y))] (by kernel_rfl),R37.mk (cs:=cs) (D:=dI a b c d) (k:=j + 1) (m:=m) (o4:=some (natV j)) (o5:=some (natV y)) rfl rfl (fun x q=>hm x (List.mem_cons_of_mem _ q))⟩)
  (ensN 0 cs) _ (.mk (k:=0) (m:=cs) (o4:=none) (o5:=none) rfl rfl (fun _ h=>h))
 rw [← enum_nl] at e
 generalize ([]:List (Nat × Nat)) = xs at hR
 cases hR with
 | mk _ _ _=>
 refine (pure_pfin (stp37 k _ _ _)).trans (pfin0 (still_pairs _) ?_)
 unfold pars
 by_cases hn:cs.length = 0
 ·rw [if_pos hn]
  exact B.fin [.f e,.m (len_nl cs),.b (qf (show ¬ (0:Int) < (cs.length:Nat) by omega))] (by kernel_rfl)
 ·rw [if_neg hn]
  exact B.fin [.f e,.m (len_nl cs),.b (qt (show (0:Int) < (cs.length:Nat) by omega)),.m (len_nl cs)] (by kernel_rfl)
noncomputable def parL (cs:List Nat) (base:Int) (ks:List C) (lv:List Int):List V:=if cs.length = 0 then [] else [parI cs base ks lv ks]
theorem int1_of {α:Type} {i:Int} {f:Int->Option α}:int1 (.int i) f = f i:=rfl
theorem bound_nat {n:Nat} (h:n<=lim):bound (some (.int (n:Int))) = some (some n):=by
 have q:0<=(n:Int)/\(n:Int) < big:=by unfold lim at h;unfold big;omega
 unfold bound
 dsimp only
 rw [int1_of,if_pos q,Int.toNat_natCast]
theorem slice_lst (m:Bool) (l:List V) (lo hi:Option V) (S:SS) {x y:Option Nat} (h1:bound lo = some x) (h2:bound hi = some y):slice m (.lst l) lo hi S = mkL m (cut l x y) S:=by
 unfold slice
 rw [h1,h2];rfl
theorem slice_all (cs:List Nat) (hl:cs.length<=lim) (S:SS):slice false (nl cs) (some (.int 0)) (some (.int (cs.length:Int))) S = some (nl cs,S):=by
 unfold nl
 have h0:bound (some (.int 0)) = some (some 0):=bound_nat (Nat.zero_le _)
 rw [slice_lst false _ _ _ S h0 (bound_nat hl),show cut (cs.map natV) (some 0) (some cs.length) = cs.map natV from List.take_of_length_le (by rw [List.length_map];exact Nat.le_refl _)]
 exact if_pos (by rw [List.length_map];exact hl)
theorem pc257 (k:Nat) (cs:List Nat) (a b c d:V) (h:nrs [a,b,c,d] = true) (hl:cs.length<=lim) (w:Wd) (ks:List C) (base:Int) (lv:List Int)
  (h37:pureCall (F (k + 1)) 37 [nl cs,dI a b c d] = some (.lst ((pars cs.length).map pairV))) (h30:pureCall (F (k + 1)) 30 [nl cs,dI a b c d] = some (cl ks))
  (h58:pureCall (F (k + 1)) 58 [cl ks,.str w.s] = some (.int base)) (h157:pureCall (F (k + 1)) 157 [cl ks,.int base,.int 125] = some (.tup [il lv,cl ks])) :
  pureCall (F (k + 2)) 257 [nl cs,dI a b c d,.str w.s,.int 125] = some (.lst (parL cs base ks lv)):=by
 have q37:=qc (l:=[nl cs,dI a b c d]) (Bool.and_eq_true_iff.mpr ⟨nrs_nl cs,Bool.and_eq_true_iff.mpr ⟨h,rfl⟩⟩) h37
 refine (pure_pfin (stp257 (k + 1) _ _ _ _ _)).trans ?_
 unfold parL
 unfold pars at q37
 by_cases hn:cs.length = 0
 ·rw [if_pos hn] at q37 ⊢
  exact pfin0 rfl (B.fin [.m q37] (by kernel_rfl))
 ·rw [if_neg hn] at q37 ⊢
  have hp:=still_parI cs base ks lv ks
  have e:(ontn (.many [5,6]) (pairV (0,cs.length)) (f257_1 (en (k + 1)))).f ⟨[some (nl cs),some (dI a b c d),some (.str w.s),some (.int 125),some (.ref 0),none,none,none,none,none,none,none,none,none,none,none,none],[(0,.list [])],1⟩ =
    some (.next,⟨[some (nl cs),some (dI a b c d),some (.str w.s),some (.int 125),some (.ref 0),some (.int 0),some (.int (cs.length:Int)),some (nl cs),some (cl ks),some (.int base),some (il lv),some (cl ks),none,none,none,none,none],[(0,.list [parI cs base ks lv ks])],1⟩):=
   B.by [.m (slice_all cs hl),.m (qc (l:=[nl cs,dI a b c d]) (Bool.and_eq_true_iff.mpr ⟨nrs_nl cs,Bool.and_eq_true_iff.mpr ⟨h,rfl⟩⟩) h30),.m (qc (l:=[cl ks,.str w.s]) (sc rfl) h58),.m (qc (l:=[cl ks,.int base,.int 125]) (sc rfl) h157),
    .m (qw (l:=[.int 0,nl cs,.int base,cl ks,il lv,cl ks]) (by
     show (nrs (cs.map natV) && (nrs (vs ks) && (nrs (lv.map .int) && (nrs (vs ks) && true)))) = true
     rw [nrs_nl,nrs_vs,nrs_il];rfl) (pc235 k cs base ks lv ks))] (by kernel_rfl)
  exact pfin0 (Bool.and_eq_true_iff.mpr ⟨nr_parI cs base ks lv ks,rfl⟩) (B.fin [.m q37,.f (forL_cons (r:=[]) e)] (by kernel_rfl))
structure SQ where
 pl:List Nat
 cs:List Nat
 l:List C
 lev:Int
 sos:C
 eos:C
noncomputable def SQ.v (q:SQ):V:=sqI q.pl q.cs q.l q.lev q.sos q.eos
noncomputable def setZ (f:List Int) (p:Nat × Int):List Int:=f.set p.1 p.2
noncomputable def putAll (f:List Int) (ps:List (Nat × Int)):List Int:=ps.foldl setZ f
theorem putAll_len:∀ (ps:List (Nat × Int)) (f:List Int),(putAll f ps).length = f.length
 | [],_=>rfl
 | p :: ps,f=>(putAll_len ps (setZ f p)).trans List.length_set
theorem zips_map {α β:Type} (f:α->V) (g:β->V):∀ (l:List α) (m:List β),zips (l.map f) (m.map g) = (l.zip m).map fun p=>.tup [f p.1,g p.2]
 | [],_=>rfl
 | _ :: _,[]=>rfl
 | a :: l,b :: m=>congrArg (V.tup [f a,g b] :: ·) (zips_map f g l m)
noncomputable def putV (p:Nat × Int):V:=.tup [natV p.1,.int p.2]
noncomputable def st424 (par D:V) (q o4 o5:Option V) (x:List Int):SS:=⟨[some par,some D,some (.ref 0),q,o4,o5,none,none,none],[(0,.list (x.map .int))],1⟩
inductive R424a (par D:V) (q:Option V) (n:Nat) (res:List Int):List (Nat × Int)->SS->Prop
 | mk {ps x o4 o5}:nf o4->nf o5->x.length = n->(∀ p ∈ ps,p.1 < n)->putAll x ps = res->R424a par D q n res ps (st424 par D q o4 o5 x)
theorem loop424a (E:En) (par D:V) (q:Option V) (ps:List (Nat × Int)) (x:List Int) (o4 o5:Option V) (n4:nf o4) (n5:nf o5) (hp:∀ p ∈ ps,p.1 < x.length) :
  ∃ o4' o5',nf o4'/\nf o5'/\forL (.many [4,5]) (f424_1 E).f (ps.map putV) (st424 par D q o4 o5 x) = some (.next,st424 par D q o4' o5' (putAll x ps)):=by
 obtain ⟨S',e,hR⟩:=loopI (t:=.many [4,5]) putV (R424a par D q x.length (putAll x ps)) (b:=f424_1 E) (fun p ps S h=>by
  cases h with
  | @mk y o4 o5 n4 n5 hy hp hr=>
   have hl:0<=(p.1:Int)/\(p.1:Int) < ((y.map V.int).length:Nat):=by have:=hp p List.mem_cons_self;rw [List.length_map];omega
   refine ⟨st424 par D q (some (natV p.1)) (some (.int p.2)) (setZ y p),?_,.mk rfl rfl (List.length_set.trans hy) (fun j m=>hp j (List.mem_cons_of_mem _ m)) hr⟩
   unfold st424 setZ
   rw [List.map_set]
   exact B.by [.n n4,.n n5,.b (qt hl)] (by kernel_rfl)) ps _ (.mk n4 n5 rfl hp rfl)
 cases hR with
 | mk n4 n5 _ _ hr=>exact ⟨_,_,n4,n5,hr ▸ e⟩
inductive R424 (par D:V) (g:SQ->List Int) (n:Nat) (sqs:List SQ) (res:List Int):List SQ->SS->Prop
 | mk {qs x o3 o4 o5}:nf o3->nf o4->nf o5->x.length = n->(∀ q ∈ qs,q ∈ sqs)->qs.foldl (fun f q=>putAll f (q.pl.zip (g q))) x = res->R424 par D g n sqs res qs (st424 par D o3 o4 o5 x)
theorem pc424 (k:Nat) (cs:List Nat) (base:Int) (ks:List C) (lv:List Int) (D:V) (hD:still D = true) (hl:lv.length<=lim) (sqs:List SQ) (g:SQ->List Int)
  (h242:pureCall (F k) 242 [parI cs base ks lv ks] = some (.lst (sqs.map SQ.v))) (h417:∀ q ∈ sqs,pureCall (F k) 417 [q.v,D] = some (il (g q))) (hq:∀ q ∈ sqs,∀ p ∈ q.pl,p < lv.length) :
  pureCall (F (k + 1)) 424 [parI cs base ks lv ks,D] = some (il (sqs.foldl (fun f q=>putAll f (q.pl.zip (g q))) lv)):=by
 obtain ⟨S',e,hR⟩:=loopI (t:=.one 3) SQ.v (R424 (parI cs base ks lv ks) D g lv.length sqs (sqs.foldl (fun f q=>putAll f (q.pl.zip (g q))) lv)) (b:=f424_2 (en k)) (fun q qs S h=>by
  cases h with
  | @mk x o3 o4 o5 n3 n4 n5 hx hm hr=>
   have hq':=hm q List.mem_cons_self
   obtain ⟨o4',o5',n4',n5',e⟩:=loop424a (en k) (parI cs base ks lv ks) D (some q.v) (q.pl.zip (g q)) x o4 o5 n4 n5 fun p hp=>hx ▸ hq q hq' p.1 (List.of_mem_zip hp).1
   rw [show (q.pl.zip (g q)).map putV = zips (q.pl.map natV) ((g q).map .int) from (zips_map natV V.int _ _).symm] at e
   exact ⟨st424 (parI cs base ks lv ks) D (some q.v) o4' o5' (putAll x (q.pl.zip (g q))),B.by [.n n3,.m0,.m (qc (l:=[q.v,D]) (sq (Bool.and_eq_true_iff.mpr ⟨hD,rfl⟩)) (h417 q hq')),.f e] (by kernel_rfl),.mk rfl n4' n5' ((putAll_len _ _).trans hx) (fun j m=>hm j (List.mem_cons_of_mem _ m)) hr⟩)
  sqs _ (.mk (x:=lv) (o3:=none) (o4:=none) (o5:=none) rfl rfl rfl rfl (fun _ h=>h) rfl)
 cases hR with
 | mk _ _ _ _ _ hr=>
 subst hr
 have hlist:∀ S:SS,listM true (il lv) S = some (.ref S.nx,{ S with ob:=(S.nx,.list (lv.map .int)) :: S.ob,nx:=S.nx + 1 }):=fun S=>if_pos (by rw [List.length_map];exact hl)
 exact (pure_pfin (stp424 k _ _ _)).trans (pfin0 (still_ints _) (B.fin [.m0,.s (hlist ⟨[some (parI cs base ks lv ks),some D,none,none,none,none,none,none,none],[],0⟩),.m (qm (k:=k) (mk:=.other "sequences") (as:=[]) (by kernel_rfl) (by kernel_rfl) (nr_parI cs base ks lv ks) rfl h242),.f e] (by kernel_rfl)))
theorem pc432 (k:Nat) (cs:List Nat) (a b c d:V) (h:nrs [a,b,c,d] = true) (w:Wd) (base:Int) (ks:List C) (lv r:List Int) (hr:r.length<=lim) (hcr:cs.length = 0->r = [])
  (h257:pureCall (F k) 257 [nl cs,dI a b c d,.str w.s,.int 125] = some (.lst (parL cs base ks lv))) (h424:¬ cs.length = 0->pureCall (F k) 424 [parI cs base ks lv ks,dI a b c d] = some (il r)) :
  pureCall (F (k + 1)) 432 [nl cs,dI a b c d,.str w.s] = some (il r):=by
 have q:=qc (l:=[nl cs,dI a b c d,.str w.s,.int 125]) (Bool.and_eq_true_iff.mpr ⟨nrs_nl cs,Bool.and_eq_true_iff.mpr ⟨h,rfl⟩⟩) h257
 refine (pure_pfin (stp432d k _ _ _ _)).trans (pfin0 (still_ints r) ?_)
 unfold parL at q
 by_cases hn:cs.length = 0
 ·rw [if_pos hn] at q
  rw [hcr hn]
  exact B.fin [.m q] (by kernel_rfl)
 ·rw [if_neg hn] at q
  have e:(ontn (.one 5) (parI cs base ks lv ks) (f432_1 (en k))).f ⟨[some (nl cs),some (dI a b c d),some (.str w.s),some (.int 125),some (.ref 0),none,none,none],[(0,.list [])],1⟩ =
    some (.next,⟨[some (nl cs),some (dI a b c d),some (.str w.s),some (.int 125),some (.ref 0),some (parI cs base ks lv ks),none,none],[(0,.list (r.map .int))],1⟩):=
   B.by [.m (qc (l:=[parI cs base ks lv ks,dI a b c d]) (Bool.and_eq_true_iff.mpr ⟨nr_parI cs base ks lv ks,Bool.and_eq_true_iff.mpr ⟨h,rfl⟩⟩) (h424 hn)),.b (qt (show ([]:List V).length + (r.map V.int).length<=lim by rw [List.length_map];simpa using hr))] (by kernel_rfl)
  exact B.fin [.m q,.f (forL_cons (r:=[]) e)] (by kernel_rfl)
end Mine
end
noncomputable section
open PySem PySem.W
namespace Mine
inductive WhI {σ:Type} (t:M Bool) (b:T) (R:σ->SS->Prop) (E:σ->Prop) (n:Nat) (S:SS):Prop
 | mk (x:σ) (S':SS) (e:wh t b n S = some (.next,S')) (r:R x S') (h:E x)
inductive WhT {σ:Type} (t:M Bool) (b:T) (R:σ->SS->Prop) (E:σ->Prop) (m:σ->Nat) (x:σ) (S:SS):Prop
 | done (e:t S = some (false,S)) (h:E x)
 | more (e:t S = some (true,S)) (x':σ) (S':SS) (f:b S = some (.next,S')) (r:R x' S') (l:m x' < m x)
theorem wh_I {σ:Type} {t:M Bool} {b:T} {R:σ->SS->Prop} {E:σ->Prop} (m:σ->Nat) (h:∀ x S,R x S->WhT t b R E m x S) (n:Nat):∀ (x:σ) (S:SS),m x < n->R x S->WhI t b R E n S:=by
 induction n with
 | zero=>intro x S l _;exact absurd l (Nat.not_lt_zero _)
 | succ n ih=>
  intro x S l r
  cases h x S r with
  | done e q=>exact ⟨x,S,(bnd_eq e).trans rfl,r,q⟩
  | more e x' S' f r' l'=>
   obtain ⟨y,S2,e2,r2,q⟩:=ih x' S' (Nat.lt_of_lt_of_le l' (Nat.le_of_lt_succ l)) r'
   exact ⟨y,S2,(bnd_eq e).trans ((bnd_eq f).trans e2),r2,q⟩
inductive R439 (s:List Int) (x:Int) (k:Nat) (p:Nat × Nat):SS->Prop
 | mk (h1:p.1<=k) (h2:k<=p.2) (h3:p.2<=s.length) (o:Option V) (no:nf o):R439 s x k p ⟨[some (il s),some (.int x),some (.int (p.1:Int)),some (.int (p.2:Int)),o,none],[],0⟩
theorem get_il {s:List Int} {i:Nat} (h:i < s.length) (S:SS):sub (il s) (.int (i:Int)) S = some (.int s[i],S):=by
 show ((place (i:Int) (s.map V.int).length).bind fun j=>(s.map V.int)[j]?).map (·,S) = _
 rw [List.length_map,place_nat h]
 show ((s.map V.int)[i]?).map (·,S) = _
 rw [List.getElem?_map,List.getElem?_eq_getElem h];rfl
theorem half_eq (a b:Nat):((a:Int) + (b:Int)) / 2 = (((a + b) / 2:Nat):Int):=by omega
theorem half_lt {a b:Nat} (h:a < b):a<=(a + b) / 2/\(a + b) / 2 < b:=by omega
theorem step439 (E:En) {s:List Int} {x:Int} {k:Nat} (hk:∀ i (h:i < s.length),s[i]<=x ↔ i < k) (p:Nat × Nat) (S:SS) (r:R439 s x k p S):WhT (t439_1 E).f (w439_1 E).f (R439 s x k) (fun p=>p.1 = k) (fun p=>p.2 - p.1) p S:=by
 obtain ⟨h1,h2,h3,o,no⟩:=r
 by_cases hc:p.1 < p.2
 ·obtain ⟨g1,g2⟩:=half_lt hc
  have hq:bin false .FloorDiv (.int ((p.1:Int) + (p.2:Int))) (.int 2) = fun S=>some (.int (((p.1 + p.2) / 2:Nat):Int),S):=by
   funext S
   exact (show _ = some (V.int (((p.1:Int) + (p.2:Int)) / 2),S) from rfl).trans (by rw [half_eq])
  generalize (p.1 + p.2) / 2 = q at g1 g2 hq
  have hl:q < s.length:=Nat.lt_of_lt_of_le g2 h3
  have hk:=hk q hl
  have e:(t439_1 E).f ⟨[some (il s),some (.int x),some (.int (p.1:Int)),some (.int (p.2:Int)),o,none],[],0⟩ = some (true,⟨[some (il s),some (.int x),some (.int (p.1:Int)),some (.int (p.2:Int)),o,none],[],0⟩):=B.by [.b (qt (Int.ofNat_lt.mpr hc))] (by kernel_rfl)
  by_cases hx:s[q]<=x
  ·refine .more e (q + 1,p.2) _ (B.by (b:=w439_1 E) (r:=(.next,⟨[some (il s),some (.int x),some (.int ((q + 1:Nat):Int)),some (.int (p.2:Int)),some (.int (q:Int)),none],[],0⟩)) [.m (congrFun hq),.n no,.m (get_il hl),.b (qt hx)] (by kernel_rfl)) (R439.mk (p:=(q + 1,p.2)) (hk.mp hx) h2 h3 _ rfl) ?_
   exact Nat.sub_lt_sub_left hc (Nat.lt_succ_of_le g1)
  ·refine .more e (p.1,q) _ (B.by (b:=w439_1 E) (r:=(.next,⟨[some (il s),some (.int x),some (.int (p.1:Int)),some (.int (q:Int)),some (.int (q:Int)),none],[],0⟩)) [.m (congrFun hq),.n no,.m (get_il hl),.b (qf hx)] (by kernel_rfl)) (R439.mk (p:=(p.1,q)) h1 (Nat.le_of_not_lt fun z=>hx (hk.mpr z)) (Nat.le_of_lt hl) _ rfl) ?_
   exact Nat.sub_lt_sub_right g1 g2
 ·exact .done (B.by [.b (qf fun z=>hc (Int.ofNat_lt.mp z))] (by kernel_rfl)) (Nat.le_antisymm h1 (Nat.le_trans h2 (Nat.le_of_not_lt hc)))
theorem len_il (l:List Int) (S:SS):lenM (il l) S = some (.int l.length,S):=by
 show some (V.int ((l.map V.int).length:Nat),S) = _
 rw [List.length_map]
theorem pc439 (k:Nat) {s:List Int} {x:Int} {j:Nat} (hk:∀ i (h:i < s.length),s[i]<=x ↔ i < j + 1) (hl:j < s.length) (hs:s.length < turns):pureCall (F (k + 1)) 439 [il s,.int x] = some (.int (j:Int)):=by
 refine (pure_pfin (stp439 k _ _ _)).trans ?_
 obtain ⟨p,S',e,r,h⟩:=wh_I (t:=(t439_1 (en k)).f) (b:=(w439_1 (en k)).f) _ (step439 (en k) hk) turns (0,s.length) _ hs ⟨Nat.zero_le _,hl,Nat.le_refl _,none,rfl⟩
 obtain ⟨h1,h2,h3,o,no⟩:=r
 rw [h] at e
 exact pfinV (B.fin (r:=(.int (((j + 1:Nat):Int) - 1),([],0))) [.m (len_il s),.f (f:=sWhile (t439_1 (en k)).f (w439_1 (en k)).f) e] (by kernel_rfl)) rfl |>.trans (congrArg (fun i=>some (V.int i)) (show ((j + 1:Nat):Int) - 1 = j by rw [Int.natCast_add];exact Int.add_sub_cancel _ _))
theorem pc446 (k:Nat) (a b:C):pureCall (F (k + 1)) 446 [a.v,b.v] = some (.bool (decide (a = b))):=by
 refine (pure_pfin (stp446 k _ _ _)).trans ?_
 by_cases h:a = b
 ·rw [decide_eq_true h];exact B.pv rfl [.b (qe h)] (by kernel_rfl)
 ·rw [decide_eq_false h];exact B.pv rfl [.b (qn h)] (by kernel_rfl)
structure Ty (τ:Type) [DecidableEq τ] where
 val:τ->V
 nr:∀ a,nr (val a) = true
 fz:∀ a ob,Mine.fz 8 (val a) ob = some (val a,ob)
 like:∀ k a b S,callM (F (k + 1)) 446 [val a,val b] S = some (.bool (decide (a = b)),S)
noncomputable abbrev Tb (τ:Type):=List (Int × τ)
section
variable {τ:Type}
noncomputable def iA (t:Tb τ):List V:=t.map fun p=>.int p.1
theorem il_iA (t:Tb τ):il (t.map (·.1)) = .lst (iA t):=congrArg V.lst (List.map_map)
theorem nrs_iA (t:Tb τ):nrs (iA t) = true:=nrs_ints (fun p:Int × τ=>p.1) t
noncomputable def look (d:τ):Tb τ->Int->τ
 | [],_=>d
 | p :: t,q=>if p.1<=q then look p.2 t q else d
noncomputable def lastV (d:τ):Tb τ->τ
 | []=>d
 | p :: t=>lastV p.2 t
theorem look_le {q:Int} {Y:Tb τ} (X:Tb τ):∀ {d:τ},(∀ a ∈ X,a.1<=q)->look d (X++Y) q = look (lastV d X) Y q:=by
 induction X with
 | nil=>intro d _;rfl
 | cons p X ih=>intro d h;exact (if_pos (h p List.mem_cons_self)).trans (ih fun a m=>h a (List.mem_cons_of_mem _ m))
theorem look_gt {q:Int} {d:τ} {Y:Tb τ} (h:∀ a ∈ Y,q < a.1):look d Y q = d:=by
 cases Y with
 | nil=>rfl
 | cons p Y=>exact if_neg (Int.not_le.mpr (h p List.mem_cons_self))
theorem look_gt' {q:Int} {Y:Tb τ} (h:∀ a ∈ Y,q < a.1) (X:Tb τ):∀ {d:τ},look d (X++Y) q = look d X q:=by
 induction X with
 | nil=>intro d;exact look_gt h
 | cons p X ih=>
  intro d
  by_cases z:p.1<=q
  ·exact (if_pos z).trans (ih.trans (if_pos z).symm)
  ·exact (if_neg z).trans (if_neg z).symm
theorem lastV_at {Y:Tb τ} (X:Tb τ):∀ {x:Int × τ},((x :: X)++Y)[X.length]?.map (·.2) = some (lastV x.2 X):=by
 induction X with
 | nil=>intro x;rfl
 | cons y X ih=>intro x;exact ih (x:=y)
noncomputable def Srt (t:Tb τ):Prop:=t.Pairwise fun a b=>a.1 < b.1
inductive Cut (t:Tb τ) (q:Int):Prop
 | mk (A B:Tb τ) (e:t = A++B) (h1:∀ a ∈ A,a.1<=q) (h2:∀ b ∈ B,q < b.1)
theorem cut_at {t:Tb τ} (h:Srt t) (q:Int):Cut t q:=by
 induction t with
 | nil=>exact ⟨[],[],rfl,(fun _ m=>nomatch m),(fun _ m=>nomatch m)⟩
 | cons p t ih=>
  have h:=List.pairwise_cons.mp h
  by_cases z:p.1<=q
  ·obtain ⟨A,B,e,h1,h2⟩:=ih h.2
   exact ⟨p :: A,B,congrArg (p :: ·) e,fun a m=>(List.mem_cons.mp m).elim (fun e=>e ▸ z) (h1 a),h2⟩
  ·have z:=Int.not_le.mp z
   exact ⟨[],p :: t,rfl,(fun _ m=>nomatch m),fun b m=>(List.mem_cons.mp m).elim (fun e=>e ▸ z) fun m=>Int.lt_trans z (h.1 b m)⟩
noncomputable def mid [DecidableEq τ] (c:Int) (v p b:τ):Tb τ:=(if p = v then [] else [(c,v)])++(if b = v then [] else [(c + 1,b)])
theorem mid_in [DecidableEq τ] {c:Int} {v p b:τ} {x:Int × τ} (m:x ∈ mid c v p b):c<=x.1/\x.1<=c + 1:=by
 rcases List.mem_append.mp m with m | m
 ·by_cases z:p = v
  ·rw [if_pos z] at m;exact nomatch m
  ·rw [if_neg z] at m;rw [List.mem_singleton.mp m];exact ⟨Int.le_refl _,Int.le_of_lt (Int.lt_succ c)⟩
 ·by_cases z:b = v
  ·rw [if_pos z] at m;exact nomatch m
  ·rw [if_neg z] at m;rw [List.mem_singleton.mp m];exact ⟨Int.le_of_lt (Int.lt_succ c),Int.le_refl _⟩
theorem mid_so [DecidableEq τ] {c:Int} {v p b:τ}:Srt (mid c v p b):=by
 unfold mid Srt
 by_cases z:p = v
 ·rw [if_pos z]
  by_cases y:b = v
  ·rw [if_pos y];exact .nil
  ·rw [if_neg y];exact List.pairwise_singleton _ _
 ·rw [if_neg z]
  by_cases y:b = v
  ·rw [if_pos y];exact List.pairwise_singleton _ _
  ·rw [if_neg y];exact List.pairwise_cons.mpr ⟨fun a m=>by rw [List.mem_singleton.mp m];exact Int.lt_succ c,List.pairwise_singleton _ _⟩
theorem look_mid [DecidableEq τ] {c q:Int} {v p b:τ} {Y:Tb τ} (h:c<=q):look p (mid c v p b++Y) q = look v ((if b = v then [] else [(c + 1,b)])++Y) q:=by
 unfold mid
 by_cases z:p = v
 ·rw [if_pos z,z];rfl
 ·rw [if_neg z];exact if_pos h
structure TOk (t:Tb τ) (n:Nat):Prop where
 hd:∃ x X,t = (0,x) :: X
 so:Srt t
 ln:t.length<=n
inductive Put [DecidableEq τ] (t:Tb τ) (c:Int) (v:τ) (n:Nat):Prop
 | mk (x:Int × τ) (X M Y:Tb τ) (e:t = (x :: X++M)++Y) (h1:∀ a ∈ x :: X,a.1<=c - 1) (h2:∀ a ∈ M++Y,c - 1 < a.1) (h3:∀ a ∈ x :: X++M,a.1<=c + 1) (h4:∀ a ∈ Y,c + 1 < a.1)
  (ok:TOk ((x :: X)++(mid c v (lastV x.2 X) (lastV x.2 (X++M))++Y)) (n + 2)) (lk:∀ d q,look d ((x :: X)++(mid c v (lastV x.2 X) (lastV x.2 (X++M))++Y)) q = if q = c then v else look d t q)
theorem put_of [DecidableEq τ] {t:Tb τ} {n:Nat} (h:TOk t n) {c:Int} (hc:1<=c) (v:τ):Put t c v n:=by
 obtain ⟨⟨x0,X0,e0⟩,so,ln⟩:=h
 obtain ⟨P,R,e,h1,h2⟩:=cut_at so (c - 1)
 have so':Srt (P++R):=e ▸ so
 obtain ⟨s1,s2,s3⟩:=List.pairwise_append.mp so'
 obtain ⟨M,Y,e2,h3,h4⟩:=cut_at s2 (c + 1)
 cases P with
 | nil=>
  rw [e0] at e
  rw [List.nil_append] at e
  have:=h2 (0,x0) (e ▸ List.mem_cons_self)
  exact absurd hc (by show ¬ 1<=c;have:c - 1 < 0:=this;omega)
 | cons x X=>
  subst e2
  have eT:t = (x :: X++M)++Y:=e.trans (List.append_assoc _ _ _).symm
  have h3':∀ a ∈ x :: X++M,a.1<=c + 1:=fun a m=>(List.mem_append.mp m).elim (fun m=>Int.le_trans (h1 a m) (by omega)) (h3 a)
  have hx:x = (0,x0):=List.head_eq_of_cons_eq (e.symm.trans e0)
  have sY:=(List.pairwise_append.mp s2).2.1
  refine ⟨x,X,M,Y,eT,h1,h2,h3',h4,⟨⟨x0,_,by rw [hx];rfl⟩,?_,?_⟩,fun d q=>?_⟩
  ·refine List.pairwise_append.mpr ⟨s1,List.pairwise_append.mpr ⟨mid_so,sY,fun a ha b hb=>Int.lt_of_le_of_lt (mid_in ha).2 (h4 b hb)⟩,fun a ha b hb=>?_⟩
   have:=h1 a ha
   rcases List.mem_append.mp hb with m | m
   ·have:=(mid_in m).1;omega
   ·have:=h4 b m;omega
  ·have lm:∀ p b:τ,(mid c v p b).length<=2:=fun p b=>by
    unfold mid
    rw [List.length_append]
    by_cases z:p = v
    ·rw [if_pos z];by_cases y:b = v
     ·rw [if_pos y];exact Nat.zero_le _
     ·rw [if_neg y];exact Nat.le_succ _
    ·rw [if_neg z];by_cases y:b = v
     ·rw [if_pos y];exact Nat.le_succ _
     ·rw [if_neg y];exact Nat.le_refl _
   have:=lm (lastV x.2 X) (lastV x.2 (X++M))
   rw [eT] at ln
   simp only [List.length_append] at ln ⊢
   omega
  ·by_cases z:q<=c - 1
   ·have g1:∀ a ∈ mid c v (lastV x.2 X) (lastV x.2 (X++M))++Y,q < a.1:=fun a m=>by
     rcases List.mem_append.mp m with m | m
     ·have:=(mid_in m).1;omega
     ·have:=h4 a m;omega
    rw [if_neg (by omega),look_gt' g1,eT,List.append_assoc,look_gt' fun a m=>by have:=h2 a m;omega]
   ·have z':c<=q:=by omega
    rw [look_le (x :: X) fun a m=>Int.le_trans (h1 a m) (by omega)]
    show look (lastV x.2 X) _ q = _
    rw [look_mid z']
    by_cases y:q = c
    ·rw [if_pos y]
     by_cases w:lastV x.2 (X++M) = v
     ·rw [if_pos w];exact look_gt fun a m=>by have:=h4 a m;omega
     ·rw [if_neg w];exact look_gt fun a m=>by
       rcases List.mem_cons.mp m with m | m
       ·rw [m];show q < c + 1;omega
       ·have:=h4 a m;omega
    ·rw [if_neg y,eT,look_le (x :: X++M) fun a m=>Int.le_trans (h3' a m) (by omega)]
     show _ = look (lastV x.2 (X++M)) Y q
     by_cases w:lastV x.2 (X++M) = v
     ·rw [if_pos w,w];rfl
     ·rw [if_neg w];exact if_pos (by show c + 1<=q;omega)
end
noncomputable def gAdd (a b:V) (s:S):Fr (V × S):=match a with
 | .lst x=>(match listOf b s.ob with
  | some y=>.opB (some (decide ((x++y).length<=lim))) fun c=>(match c with
   | true=>.pure (.lst (x++y),s)
   | false=>.no)
  | none=>.no)
 | a=>oq (bin false .Add a b) s
theorem gAdd_ok (a b:V) (s:S):(gAdd a b s).run = bin false .Add a b s:=by
 cases a with
 | lst x=>
  show (match listOf b s.ob with
   | some y=>.opB (some (decide ((x++y).length<=lim))) fun c=>(match c with
    | true=>.pure (.lst (x++y),s)
    | false=>.no)
   | none=>.no:Fr (V × S)).run = (listOf b s.ob).bind fun y=>mkL false (x++y) s
  cases listOf b s.ob with
  | none=>rfl
  | some y=>exact dec_run _
 | _=>exact oq_ok _ _
noncomputable def oeAddQ (x y:B V):B V:=⟨eBin false .Add x.f y.f,fun s=>(x.g s).bind fun p=>(y.g p.2).bind fun q=>gAdd p.1 q.1 q.2,B.bnd fun _ s=>B.bnd (fun _ _=>gAdd_ok _ _ _) s⟩
noncomputable def b474q (E:En):B Fl:=
 (osSeq (osIf (otCmp .Gt (oeVar 1) (oeVar 2))
 (osSeq (osRet (oeK .none))
 osNext)
 osNext)
 (osSeq (osAsg (.one 4) (oeBin false .Add (oeCallP E.rc 439 [(oeAttr "starts" (oeVar 0)),(oeBin false .Sub (oeVar 1) (okI 1))]) (okI 1)))
 (osSeq (osAsg (.one 5) (oeBin false .Add (oeCallP E.rc 439 [(oeAttr "starts" (oeVar 0)),(oeBin false .Add (oeVar 2) (okI 1))]) (okI 1)))
 (osSeq (osAsg (.one 6) (oeSub (oeAttr "values" (oeVar 0)) (oeBin false .Sub (oeVar 5) (okI 1))))
 (osSeq (osAsgR [7,8] (oeTup [(oeList true [(oeVar 1)]),(oeList true [(oeVar 3)])]))
 (osSeq (osIf (otAll .And [(otCmp .Lt (oeVar 2) (oeG (some (.int 1114111)))),(otNot (otVal (oeCallP E.rc 446 [(oeVar 6),(oeVar 3)])))])
 (osSeq (osExp (oeMeth E.rc E.mt .append (oeVar 7) [(oeBin false .Add (oeVar 2) (okI 1))]))
 (osSeq (osExp (oeMeth E.rc E.mt .append (oeVar 8) [(oeVar 6)]))
 osNext))
 osNext)
 (osSeq (osIf (otAll .And [(otCmp .Gt (oeVar 4) (okI 0)),(otVal (oeCallP E.rc 446 [(oeSub (oeAttr "values" (oeVar 0)) (oeBin false .Sub (oeVar 4) (okI 1))),(oeVar 3)]))])
 (osSeq (osAsgR [7,8] (oeTup [(oeSlice true (oeVar 7) (some (okI 1)) none),(oeSlice true (oeVar 8) (some (okI 1)) none)]))
 osNext)
 osNext)
 (osSeq (osAttr E.ak (oeVar 0) "starts" (oeAddQ (oeAddQ (oeSlice false (oeAttr "starts" (oeVar 0)) none (some (oeVar 4))) (oeVar 7)) (oeSlice false (oeAttr "starts" (oeVar 0)) (some (oeVar 5)) none)))
 (osSeq (osAttr E.ak (oeVar 0) "values" (oeAddQ (oeAddQ (oeSlice false (oeAttr "values" (oeVar 0)) none (some (oeVar 4))) (oeVar 8)) (oeSlice false (oeAttr "values" (oeVar 0)) (some (oeVar 5)) none)))
 osNext)))))))))
theorem seq_f (x:B Fl) {y z:B Fl} (h:y.f = z.f):(osSeq x y).f = (osSeq x z).f:=congrArg (sSeq x.f) h
theorem seq_g {x y u v:B Fl} (h:x.f = u.f) (g:y.f = v.f):(osSeq x y).f = (osSeq u v).f:=by
 show sSeq x.f y.f = sSeq u.f v.f
 rw [h,g]
theorem if_f (t:B Bool) {x y u v:B Fl} (h:x.f = u.f) (g:y.f = v.f):(osIf t x y).f = (osIf t u v).f:=by
 show sIf t.f x.f y.f = sIf t.f u.f v.f
 rw [h,g]
theorem ontn_f (t:Tg) (v:V) {x y:B Fl} (h:x.f = y.f):(ontn t v x).f = (ontn t v y).f:=by
 show bnd (putT t v) (fun _=>x.f) = bnd (putT t v) fun _=>y.f
 rw [h]
theorem attr_f (ak:Addr->Str->Bool) (x:B V) (n:Str) {y z:B V} {u v:B Fl} (h:y.f = z.f) (g:u.f = v.f):(osSeq (osAttr ak x n y) u).f = (osSeq (osAttr ak x n z) v).f:=by
 show sSeq (sAttr ak x.f n y.f) u.f = sSeq (sAttr ak x.f n z.f) v.f
 rw [h,g]
theorem addQ_f (x y z:B V):(oeAddQ (oeAddQ x y) z).f = (oeBin false .Add (oeBin false .Add x y) z).f:=rfl
theorem b474q_f (E:En):(b474q E).f = (b474 E).f:=seq_f _ (seq_f _ (seq_f _ (seq_f _ (seq_f _ (seq_f _ (seq_f _ (attr_f _ _ _ (addQ_f _ _ _) (attr_f _ _ _ (addQ_f _ _ _) rfl))))))))
section
variable {τ:Type} [DecidableEq τ] (ty:Ty τ)
noncomputable def vA (t:Tb τ):List V:=t.map fun p=>ty.val p.2
noncomputable def rmM (dv:V) (a b:List V):MO:=.inst 491 ["default","starts","values"] [dv,.lst a,.lst b]
noncomputable def rmV (dv:V) (t:Tb τ):MO:=rmM dv (iA t) (vA ty t)
theorem nrs_vA (t:Tb τ):nrs (vA ty t) = true:=by
 induction t with
 | nil=>rfl
 | cons p t ih=>exact Bool.and_eq_true_iff.mpr ⟨ty.nr p.2,ih⟩
end
theorem cnt_split {τ:Type} {X Y:Tb τ} {q:Int} (hx:∀ a ∈ X,a.1<=q) (hy:∀ a ∈ Y,q < a.1) (i:Nat) (h:i < ((X++Y).map (·.1)).length):((X++Y).map (·.1))[i]<=q ↔ i < X.length:=by
 rw [List.getElem_map]
 by_cases z:i < X.length
 ·rw [List.getElem_append_left z]
  exact ⟨fun _=>z,fun _=>hx _ (List.getElem_mem _)⟩
 ·rw [List.getElem_append_right (Nat.le_of_not_lt z)]
  exact ⟨fun e=>absurd (Int.lt_of_lt_of_le (hy _ (List.getElem_mem _)) e) (Int.lt_irrefl _),fun e=>absurd e z⟩
theorem pcT {τ:Type} (k:Nat) {x:Int × τ} {X Y:Tb τ} {q:Int} (hx:∀ a ∈ x :: X,a.1<=q) (hy:∀ a ∈ Y,q < a.1) (hl:(x :: X++Y).length < turns) (S:SS):callM (F (k + 1)) 439 [.lst (iA (x :: X++Y)),.int q] S = some (.int (X.length:Int),S):=
 qc (l:=[.lst (iA (x :: X++Y)),.int q]) (Bool.and_eq_true_iff.mpr ⟨nrs_iA _,rfl⟩) (by
  rw [← il_iA]
  exact pc439 k (cnt_split hx hy) (by rw [List.length_map,List.length_append];exact Nat.lt_of_lt_of_le (Nat.lt_succ_self _) (Nat.le_add_right _ _)) (by rw [List.length_map];exact hl)) S
theorem bound_succ {j:Nat} (h:j + 1<=lim):bound (some (.int ((j:Int) + 1))) = some (some (j + 1)):=bound_nat h
theorem sl_take {l r:List V} {j:Nat} (e:l.take (j + 1) = r) (hr:r.length<=lim) (hj:j + 1<=lim) (S:SS):slice false (.lst l) none (some (.int ((j:Int) + 1))) S = some (.lst r,S):=by
 rw [slice_lst false l none _ S rfl (bound_succ hj),show cut l none (some (j + 1)) = r from e]
 exact if_pos hr
theorem sl_drop {l r:List V} {j:Nat} (e:l.drop (j + 1) = r) (hr:r.length<=lim) (hj:j + 1<=lim) (S:SS):slice false (.lst l) (some (.int ((j:Int) + 1))) none S = some (.lst r,S):=by
 rw [slice_lst false l _ none S (bound_succ hj) rfl,show cut l (some (j + 1)) none = r from e]
 exact if_pos hr
theorem low_in {nx n:Nat} {o:MO} {r r':OB} (h:n < nx) (k:okMO nx o = true) (e:lowOb nx r = some r'):lowOb nx ((n,o) :: r) = some ((n,o) :: r'):=by
 refine (if_pos h).trans ((if_pos k).trans ?_)
 rw [e];rfl
theorem low_out {nx n:Nat} {o:MO} {r:OB} (h:¬ n < nx):lowOb nx ((n,o) :: r) = lowOb nx r:=if_neg h
theorem low_drop {nx m:Nat} (hm:¬ m < nx) (ob:OB):lowOb nx (odrop m ob) = lowOb nx ob:=by
 induction ob with
 | nil=>rfl
 | cons p ob ih=>
  show lowOb nx (if p.1 = m then odrop m ob else p :: odrop m ob) = _
  by_cases h:p.1 = m
  ·rw [if_pos h,ih]
   exact (low_out (n:=p.1) (o:=p.2) (by rw [h];exact hm)).symm
  ·rw [if_neg h]
   show (if p.1 < nx then (if okMO nx p.2 = true then (lowOb nx (odrop m ob)).map (p :: ·) else none) else lowOb nx (odrop m ob)) = _
   rw [ih];rfl
theorem tidyI {nx nx':Nat} {v:V} {ob ob':OB} (h:still v = true) (e:lowOb nx ob = some ob'):tidy nx (v,(ob,nx')) = some (v,(ob',nx)):=by
 show (fz 8 v ob).bind _ = _
 rw [fz_still (f:=6) h]
 show (lowOb nx ob).map _ = _
 rw [e];rfl
theorem sub_lst {l:List V} {i:Nat} {v:V} (h:l[i]? = some v) (S:SS):sub (.lst l) (.int (i:Int)) S = some (v,S):=by
 show ((place (i:Int) l.length).bind fun j=>l[j]?).map (·,S) = _
 rw [place_nat (List.getElem?_eq_some_iff.mp h).1]
 show (l[i]?).map (·,S) = _
 rw [h];rfl
inductive Sh4:(MO->OB)->Nat->Nat->Prop
 | a6 (X:OB):Sh4 (fun o=>(6,o) :: X) 6 7
 | a7 (X:OB):Sh4 (fun o=>(7,o) :: X) 7 8
 | a8 (X:OB):Sh4 (fun o=>(8,o) :: X) 8 9
 | u6 (Y:MO) (X:OB):Sh4 (fun o=>(7,Y) :: (6,o) :: X) 6 8
section
variable {τ:Type} [DecidableEq τ] (ty:Ty τ) {t:Tb τ} {c:Int} {v:τ} {n:Nat} {H:MO->OB} {r nx:Nat}
theorem pc474 (k:Nat) (dv:V) (sh:Sh4 H r nx) (hlow:∀ t:Tb τ,lowOb nx (H (rmV ty dv t)) = some (H (rmV ty dv t))) (h:TOk t n) (hn:n < 100) (c1:1<=c) (c2:c < 1114111) :
  ∃ t',TOk t' (n + 2)/\(∀ d q,look d t' q = if q = c then v else look d t q)/\F (k + 2) 474 [.ref r,.int c,.int c,ty.val v] (H (rmV ty dv t),nx) = some (.none,(H (rmV ty dv t'),nx)):=by
 have ln:=Nat.lt_of_le_of_lt h.ln hn
 obtain ⟨x,X,M,Y,e,h1,h2,h3,h4,ok,lk⟩:=put_of h c1 v
 refine ⟨_,ok,lk,(stp474 (k + 1) _ _ _ _ _).trans ?_⟩
 have ln2:=ok.ln
 clear ok lk h
 subst e
 have big:∀ {m:Nat},m<=104->m<=lim:=fun h=>Nat.le_trans h (by decide)
 have e1:=pcT k (Y:=M++Y) h1 h2 (by rw [← List.append_assoc];exact Nat.lt_trans ln (by decide))
 rw [← List.append_assoc] at e1
 have e2:=pcT k (x:=x) (X:=X++M) (Y:=Y) h3 h4 (Nat.lt_trans ln (by decide))
 rw [show x :: (X++M) = x :: X++M from rfl] at e2
 have gv:∀ {X' Y':Tb τ},x :: X'++Y' = x :: X++M++Y->∀ S,sub (.lst (vA ty (x :: X++M++Y))) (.int ((X'.length:Int) + 1 - 1)) S = some (ty.val (lastV x.2 X'),S):=fun {X' Y'} e S=>by
  rw [Int.add_sub_cancel]
  refine sub_lst ?_ S
  have g:=lastV_at (x:=x) (Y:=Y') X'
  rw [e] at g
  unfold vA
  rw [List.getElem?_map]
  obtain ⟨p,hp,g⟩:=mi g
  rw [hp];exact congrArg (fun z=>some (ty.val z)) g
 have e3:=gv (X':=X++M) (Y':=Y) rfl
 have e4:=gv (X':=X) (Y':=M++Y) (List.append_assoc (x :: X) M Y).symm
 have tk:∀ f:Int × τ->V,((x :: X++M++Y).map f).take (X.length + 1) = (x :: X).map f:=fun f=>by rw [List.append_assoc,List.map_append];exact List.take_left' (List.length_map _)
 have dr:∀ f:Int × τ->V,((x :: X++M++Y).map f).drop ((X++M).length + 1) = Y.map f:=fun f=>by rw [List.map_append];exact List.drop_left' (List.length_map _)
 simp only [List.length_append,List.length_cons] at ln
 have hX:X.length + 1<=lim:=big (by omega)
 have hM:(X++M).length + 1<=lim:=big (by rw [List.length_append];omega)
 have hY:Y.length<=lim:=big (by omega)
 have s1:=sl_take (tk fun p=>.int p.1) (by rw [List.length_map];exact hX) hX
 have s2:=sl_drop (dr fun p=>.int p.1) (by rw [List.length_map];exact hY) hM
 have s3:=sl_take (tk fun p=>ty.val p.2) (by rw [List.length_map];exact hX) hX
 have s4:=sl_drop (dr fun p=>ty.val p.2) (by rw [List.length_map];exact hY) hM
 have q1:∀ (f:Int × τ->V) (l:List V),Nat.ble l.length 2 = true->((x :: X).map f++l).length<=lim:=fun f l h=>big (by have h:=Nat.le_of_ble_eq_true h;rw [List.length_append,List.length_map,List.length_cons];omega)
 have q2:∀ (f:Int × τ->V) (l:List V),Nat.ble l.length 2 = true->((x :: X).map f++l++Y.map f).length<=lim:=fun f l h=>big (by have h:=Nat.le_of_ble_eq_true h;rw [List.length_append,List.length_append,List.length_map,List.length_map,List.length_cons];omega)
 have l0:=ty.like k (lastV x.2 (X++M)) v
 have l1:=ty.like k (lastV x.2 X) v
 have hp:=qt (show (0:Int) < (X.length:Int) + 1 by omega)
 have fin_:∀ {l1 l2:List V} {m1 m2:Nat} {m3:Nat} {Z:OB},¬ m1 < nx->¬ m2 < nx->lowOb nx Z = lowOb nx (H (rmM dv ((iA (x :: X)++l1)++iA Y) ((vA ty (x :: X)++l2)++vA ty Y)))->l1 = iA (mid c v (lastV x.2 X) (lastV x.2 (X++M)))->l2 = vA ty (mid c v (lastV x.2 X) (lastV x.2 (X++M)))->(Mine.fin ((b474 (en (k + 1))).f ⟨[some (.ref r),some (.int c),some (.int c),some (ty.val v),none,none,none,none,none,none,none,none],H (rmV ty dv (x :: X++M++Y)),nx⟩) =
   some (.none,((m1,.list l2) :: (m2,.list l1) :: Z,m3))) ->
   (Mine.fin ((b474 (en (k + 1))).f ⟨[some (.ref r),some (.int c),some (.int c),some (ty.val v),none,none,none,none,none,none,none,none],H (rmV ty dv (x :: X++M++Y)),nx⟩)).bind (tidy nx) =
   some (.none,(H (rmV ty dv (x :: X++(mid c v (lastV x.2 X) (lastV x.2 (X++M))++Y))),nx)):=fun {l1 l2 m1 m2 m3 Z} g1 g2 g3 d1 d2 f=>by
  rw [f]
  refine tidyI (v:=.none) rfl ((low_out g1).trans ((low_out g2).trans (g3.trans ?_)))
  have e:rmM dv ((iA (x :: X)++l1)++iA Y) ((vA ty (x :: X)++l2)++vA ty Y) = rmV ty dv (x :: X++(mid c v (lastV x.2 X) (lastV x.2 (X++M))++Y)):=by
   rw [d1,d2]
   unfold rmV iA vA
   simp only [List.map_append,List.append_assoc]
  rw [e]
  exact hlow _
 by_cases zp:lastV x.2 X = v
 ·rw [zp] at l1
  rw [decide_eq_true rfl] at l1
  rw [zp] at e4
  by_cases zb:lastV x.2 (X++M) = v
  ·rw [zb] at l0
   rw [decide_eq_true rfl] at l0
   rw [zb] at e3
   have hm:mid c v (lastV x.2 X) (lastV x.2 (X++M)) = _:=(congrArg (·++_) (if_pos zp)).trans (congrArg (_++·) (if_pos zb))
   refine fin_ (l1:=[]) (l2:=[]) (m1:=nx + 3) (m2:=nx + 2) (m3:=nx + 4) (Z:=odrop nx (odrop (nx + 1) (H (rmM dv ((iA (x :: X)++[])++iA Y) ((vA ty (x :: X)++[])++vA ty Y))))) (by omega) (by omega) ((low_drop (Nat.lt_irrefl nx) _).trans (low_drop (by omega) _)) (by rw [hm];rfl) (by rw [hm];rfl) ?_
   rw [← b474q_f]
   let L:List Ft:=[.b (qf (Int.lt_irrefl c)),.m0,.m e1,.m0,.m e2,.m0,.m e3,.b (qt c2),.m l0,.b hp,.m0,.m e4,.m l1,.m0,.m0,.m0,.m s1,.b (qt (q1 (fun p=>.int p.1) [] rfl)),.m0,.m s2,.b (qt (q2 (fun p=>.int p.1) [] rfl)),.m0,.m s3,.b (qt (q1 (fun p=>ty.val p.2) [] rfl)),.m0,.m s4,.b (qt (q2 (fun p=>ty.val p.2) [] rfl))]
   cases sh <;> exact B.fin L (by kernel_rfl)
  ·rw [decide_eq_false zb] at l0
   have hm:mid c v (lastV x.2 X) (lastV x.2 (X++M)) = _:=(congrArg (·++_) (if_pos zp)).trans (congrArg (_++·) (if_neg zb))
   refine fin_ (l1:=[.int (c + 1)]) (l2:=[ty.val (lastV x.2 (X++M))]) (m1:=nx + 3) (m2:=nx + 2) (m3:=nx + 4) (Z:=odrop nx (odrop (nx + 1) (H (rmM dv ((iA (x :: X)++[.int (c + 1)])++iA Y) ((vA ty (x :: X)++[ty.val (lastV x.2 (X++M))])++vA ty Y))))) (by omega) (by omega) ((low_drop (Nat.lt_irrefl nx) _).trans (low_drop (by omega) _)) (by rw [hm];rfl) (by rw [hm];rfl) ?_
   rw [← b474q_f]
   let L:List Ft:=[.b (qf (Int.lt_irrefl c)),.m0,.m e1,.m0,.m e2,.m0,.m e3,.b (qt c2),.m l0,.b0,.b0,.b hp,.m0,.m e4,.m l1,.m0,.m0,.m0,.m s1,.b (qt (q1 (fun p=>.int p.1) [.int (c + 1)] rfl)),.m0,.m s2,.b (qt (q2 (fun p=>.int p.1) [.int (c + 1)] rfl)),.m0,.m s3,.b (qt (q1 (fun p=>ty.val p.2) [ty.val (lastV x.2 (X++M))] rfl)),.m0,.m s4,.b (qt (q2 (fun p=>ty.val p.2) [ty.val (lastV x.2 (X++M))] rfl))]
   cases sh <;> exact B.fin L (by kernel_rfl)
 ·rw [decide_eq_false zp] at l1
  by_cases zb:lastV x.2 (X++M) = v
  ·rw [zb] at l0
   rw [decide_eq_true rfl] at l0
   rw [zb] at e3
   have hm:mid c v (lastV x.2 X) (lastV x.2 (X++M)) = _:=(congrArg (·++_) (if_neg zp)).trans (congrArg (_++·) (if_pos zb))
   refine fin_ (l1:=[.int c]) (l2:=[ty.val v]) (m1:=nx + 1) (m2:=nx) (m3:=nx + 2) (by omega) (by omega) rfl (by rw [hm];rfl) (by rw [hm];rfl) ?_
   rw [← b474q_f]
   let L:List Ft:=[.b (qf (Int.lt_irrefl c)),.m0,.m e1,.m0,.m e2,.m0,.m e3,.b (qt c2),.m l0,.b hp,.m0,.m e4,.m l1,.m0,.m s1,.b (qt (q1 (fun p=>.int p.1) [.int c] rfl)),.m0,.m s2,.b (qt (q2 (fun p=>.int p.1) [.int c] rfl)),.m0,.m s3,.b (qt (q1 (fun p=>ty.val p.2) [ty.val v] rfl)),.m0,.m s4,.b (qt (q2 (fun p=>ty.val p.2) [ty.val v] rfl))]
   cases sh <;> exact B.fin L (by kernel_rfl)
  ·rw [decide_eq_false zb] at l0
   have hm:mid c v (lastV x.2 X) (lastV x.2 (X++M)) = _:=(congrArg (·++_) (if_neg zp)).trans (congrArg (_++·) (if_neg zb))
   refine fin_ (l1:=[.int c,.int (c + 1)]) (l2:=[ty.val v,ty.val (lastV x.2 (X++M))]) (m1:=nx + 1) (m2:=nx) (m3:=nx + 2) (by omega) (by omega) rfl (by rw [hm];rfl) (by rw [hm];rfl) ?_
   rw [← b474q_f]
   let L:List Ft:=[.b (qf (Int.lt_irrefl c)),.m0,.m e1,.m0,.m e2,.m0,.m e3,.b (qt c2),.m l0,.b0,.b0,.b hp,.m0,.m e4,.m l1,.m0,.m s1,.b (qt (q1 (fun p=>.int p.1) [.int c,.int (c + 1)] rfl)),.m0,.m s2,.b (qt (q2 (fun p=>.int p.1) [.int c,.int (c + 1)] rfl)),.m0,.m s3,.b (qt (q1 (fun p=>ty.val p.2) [ty.val v,ty.val (lastV x.2 (X++M))] rfl)),.m0,.m s4,.b (qt (q2 (fun p=>ty.val p.2) [ty.val v,ty.val (lastV x.2 (X++M))] rfl))]
   cases sh <;> exact B.fin L (by kernel_rfl)
end
inductive Sg where
 | s0 | s1 | s2 | s3 | s4 | s5 | s6 | s7
 deriving DecidableEq
noncomputable def Sg.ix:Sg->Nat
 | .s0=>0 | .s1=>1 | .s2=>2 | .s3=>3 | .s4=>4 | .s5=>5 | .s6=>6 | .s7=>7
noncomputable def Sg.code:Sg->Nat
 | .s0=>40 | .s1=>91 | .s2=>9001 | .s3=>41 | .s4=>93 | .s5=>9002 | .s6=>12296 | .s7=>12297
noncomputable def Sg.mate:Sg->Nat
 | .s0=>41 | .s1=>93 | .s2=>9002 | .s3=>40 | .s4=>91 | .s5=>9001 | .s6=>12297 | .s7=>12296
noncomputable def Sg.op:Sg->Bool
 | .s0=>true | .s1=>true | .s2=>true | .s6=>true | _=>false
noncomputable def Sg.kd:Sg->Nat
 | .s0=>0 | .s1=>1 | .s3=>0 | .s4=>1 | _=>2
noncomputable def ocS:Bool->Str
 | true=>"o"
 | false=>"c"
noncomputable def allS:List Sg:=[.s0,.s1,.s2,.s3,.s4,.s5,.s6,.s7]
theorem mem_allS (g:Sg):g ∈ allS:=List.contains_iff_mem.mp (by cases g <;> rfl)
theorem finS {p:Sg->Bool} (h:allS.all p = true) (g:Sg):p g = true:=List.all_eq_true.mp h g (mem_allS g)
theorem finS2 {p:Sg->Sg->Bool} (h:allS.all (fun d=>allS.all (p d)) = true) (d c:Sg):p d c = true:=finS (finS (p:=fun d=>allS.all (p d)) h d) c
theorem thread_one {g:V->OB->Option (V × OB)} {v v':V} {l l':List V} {ob ob1 ob2:OB} (h:g v ob = some (v',ob1)) (k:thread g l ob1 = some (l',ob2)):thread g (v :: l) ob = some (v' :: l',ob2):=by
 show (g v ob).bind _ = _
 rw [h]
 show (thread g l ob1).map _ = _
 rw [k];rfl
noncomputable def tyC:Ty C:=⟨C.v,fun _=>rfl,fun c _=>fz_still (f:=6) (show still c.v = true from rfl),fun k a b=>qc rfl (pc446 k a b)⟩
noncomputable def ntV (x:Option (List V)):V:=match x with
 | none=>.none
 | some l=>.tup l
theorem pc446t (k:Nat) {x y:Option (List V)} {b:Bool} (h:cmpv .Eq (ntV x) (ntV y) [] = some b):pureCall (F (k + 1)) 446 [ntV x,ntV y] = some (.bool b):=by
 refine (pure_pfin (stp446 k _ _ _)).trans ?_
 cases x <;> cases y <;> cases b <;> exact B.pv rfl [.b h] (by kernel_rfl)
noncomputable def brT (o:Option Sg):Option (List V):=o.map fun g=>[.str (ocS g.op),.int g.mate]
noncomputable def brV (o:Option Sg):V:=ntV (brT o)
theorem br_eq (a b:Option Sg):cmpv .Eq (brV a) (brV b) [] = some (decide (a = b)):=by
 cases a with
 | none=>cases b <;> rfl
 | some a=>cases b with
  | none=>rfl
  | some b=>exact of_decide_eq_true (finS2 (p:=fun a b=>decide (cmpv .Eq (brV (some a)) (brV (some b)) [] = some (decide (some a = some b)))) (by kernel_rfl) a b)
theorem still_br (o:Option Sg):still (brV o) = true:=by cases o <;> rfl
noncomputable def tyB:Ty (Option Sg):=⟨brV,fun o=>by cases o <;> rfl,fun o _=>fz_still (f:=6) (still_br o),fun k a b=>qc (Bool.and_eq_true_iff.mpr ⟨still_br a,Bool.and_eq_true_iff.mpr ⟨still_br b,rfl⟩⟩) (pc446t k (br_eq a b))⟩
noncomputable def dmN (b:Bool):Nat:=if b then 12297 else 12296
noncomputable def dmT (o:Option Bool):Option (List V):=o.map fun b=>[.str "",.tup [.int (dmN b)]]
noncomputable def dmV (o:Option Bool):V:=ntV (dmT o)
theorem dm_eq (a b:Option Bool):cmpv .Eq (dmV a) (dmV b) [] = some (decide (a = b)):=by
 cases a with
 | none=>cases b <;> rfl
 | some a=>cases b with
  | none=>rfl
  | some b=>cases a <;> cases b <;> kernel_rfl
theorem fz_dm (o:Option Bool) (ob:OB):fz 8 (dmV o) ob = some (dmV o,ob):=by cases o <;> rfl
theorem frz_dm (a b:Option Bool) (S:SS):freeze [dmV a,dmV b] S = some ([dmV a,dmV b],S):=by cases a <;> cases b <;> rfl
noncomputable def tyM:Ty (Option Bool):=⟨dmV,fun o=>by cases o <;> rfl,fz_dm,fun k a b S=>(bnd_eq (frz_dm a b S)).trans (by rw [show pureCall (F (k + 1)) 446 [dmV a,dmV b] = _ from pc446t k (dm_eq a b)];rfl)⟩
theorem B.pvz {b:B Fl} {s:S} {v:V} (q:∀ ob,fz 8 v ob = some (v,ob)) (as:List Ft) (e:((b.g s).col as).bind (fun p=>(Mine.fin (some p.2)).map fun x=>(p.1,x.1)) = some (qs as,v)):pfin (b.f s) = some v:=by
 obtain ⟨p,e1,e2⟩:=bi e
 obtain ⟨x,e3,e4⟩:=mi e2
 obtain ⟨k1,k2⟩:=pd e4
 have e5:(b.g s).col as = some (qs as,p.2):=e1.trans (congrArg (fun l=>some (l,p.2)) k1)
 rw [← b.ok s,Fr.col_ok e5]
 unfold pfin
 rw [e3]
 show (fz 8 x.1 x.2.1).map _ = _
 rw [k2,q];rfl
section
variable {τ:Type} [DecidableEq τ] (ty:Ty τ)
noncomputable def rmF (dv:V) (t:Tb τ):V:=.ins 491 ["default","starts","values"] [dv,.lst (iA t),.lst (vA ty t)]
theorem nr_rmF {dv:V} (h:nr dv = true) (t:Tb τ):nr (rmF ty dv t) = true:=by
 show (nr dv && (nrs (iA t) && (nrs (vA ty t) && true))) = true
 rw [nrs_iA,nrs_vA,h];rfl
theorem pc467 (k:Nat) (dv:V) (d:τ) {t:Tb τ} {n:Nat} (h:TOk t n) (hn:n < 100) {q:Int} (hq:0<=q):pureCall (F (k + 2)) 467 [rmF ty dv t,.int q] = some (ty.val (look d t q)):=by
 obtain ⟨⟨x0,X0,e0⟩,so,ln⟩:=h
 obtain ⟨A,B,e,h1,h2⟩:=cut_at so q
 have lt:=Nat.lt_of_le_of_lt ln hn
 cases A with
 | nil=>
  have:=h2 (0,x0) (by rw [List.nil_append] at e;rw [← e,e0];exact List.mem_cons_self)
  exact absurd this (Int.not_lt.mpr hq)
 | cons x X=>
  subst e
  have f:=pcT k (x:=x) (X:=X) (Y:=B) h1 h2 (Nat.lt_trans lt (by decide))
  have g:∀ S,sub (.lst (vA ty (x :: X++B))) (.int (X.length:Int)) S = some (ty.val (look d (x :: X++B) q),S):=sub_lst (by
   rw [look_le (x :: X) h1,look_gt h2]
   unfold vA
   rw [List.getElem?_map]
   obtain ⟨p,hp,g⟩:=mi (lastV_at (x:=x) (Y:=B) X)
   rw [hp];exact congrArg (fun z=>some (ty.val z)) g)
  exact (pure_pfin (stp467 (k + 1) _ _ _)).trans (Mine.B.pvz (ty.fz _) [.m0,.m0,.m f,.m g] (by kernel_rfl))
end
noncomputable def dflD:V:=(pfin ((b502 (en 0)).f ⟨[none,none],[],0⟩)).getD .none
theorem pc502 (k:Nat):pureCall (F (k + 1)) 502 [] = some dflD:=(pure_pfin (stp502 k _)).trans (by kernel_rfl)
theorem still_dfl:still dflD = true:=by kernel_rfl
noncomputable def DF (ks:List Ky) (vs:List V):V:=dI dflD (.dic ks vs) (.dic [] []) (.dic [] [])
theorem nrs_DF {ks:List Ky} {vs:List V} (h:nrs vs = true):nrs [dflD,.dic ks vs,.dic [] [],.dic [] []] = true:=by
 show (nr dflD && (nrs vs && true)) = true
 rw [h,show nr dflD = true from by kernel_rfl];rfl
theorem sh_dfl (ob:OB):shapeOf (MK.name .get) dflD ob = some .dict:=by kernel_rfl
theorem dfl_bpb (rc:Raw) (mt:Addr->Str->Option Addr) (S:SS):methGo rc mt .get dflD .dict [.str "bpb"] S = some (.none,S):=by kernel_rfl
section
variable {τ σ ρ:Type} [DecidableEq τ] [DecidableEq σ] [DecidableEq ρ] (ty:Ty τ) (k:Nat) (dv:V) (hv:nr dv = true) (d:τ) {t:Tb τ} {n:Nat} (h:TOk t n) (hn:n < 100) {q:Int} (hq:0<=q) (ks:List Ky) (x y:V) (vs:List V)
include hv h hn hq
theorem get1:pureCall (F (k + 3)) 530 [DF (.s "bc" :: ks) (rmF ty dv t :: vs),.str "bc",.int q] = some (ty.val (look d t q)):=
 (pure_pfin (stp530 (k + 2) _ _ _ _)).trans (B.pvz (ty.fz _) [.m0,.m0,.m0,.m (qm (k:=k + 2) (mk:=.get) (c:=491) (as:=[.int q]) (by kernel_rfl) (by kernel_rfl) (nr_rmF ty hv t) rfl (pc467 ty k dv d h hn hq))] (by kernel_rfl))
theorem get2:pureCall (F (k + 3)) 530 [DF (.s "bc" :: .s "bpb" :: ks) (x :: rmF ty dv t :: vs),.str "bpb",.int q] = some (ty.val (look d t q)):=
 (pure_pfin (stp530 (k + 2) _ _ _ _)).trans (B.pvz (ty.fz _) [.m0,.m0,.m0,.m (qm (k:=k + 2) (mk:=.get) (c:=491) (as:=[.int q]) (by kernel_rfl) (by kernel_rfl) (nr_rmF ty hv t) rfl (pc467 ty k dv d h hn hq))] (by kernel_rfl))
theorem get3:pureCall (F (k + 3)) 530 [DF (.s "bc" :: .s "bpb" :: .s "dm" :: ks) (x :: y :: rmF ty dv t :: vs),.str "dm",.int q] = some (ty.val (look d t q)):=
 (pure_pfin (stp530 (k + 2) _ _ _ _)).trans (B.pvz (ty.fz _) [.m0,.m0,.m0,.m (qm (k:=k + 2) (mk:=.get) (c:=491) (as:=[.int q]) (by kernel_rfl) (by kernel_rfl) (nr_rmF ty hv t) rfl (pc467 ty k dv d h hn hq))] (by kernel_rfl))
end
theorem get2n (k:Nat) (q x y:V):pureCall (F (k + 1)) 530 [DF [.s "bc",.s "dm"] [x,y],.str "bpb",q] = some .none:=
 (pure_pfin (stp530 k _ _ _ _)).trans (B.pv (v:=.none) rfl [.m0,.m0,.h (sh_dfl []),.h (sh_dfl []),.m (dfl_bpb (en k).rc (en k).mt)] (by kernel_rfl))
noncomputable def dMO:MO:=.inst 540 ["defaults","maps","properties","words"] [dflD,.ref 5,.dic [] [],.dic [] []]
noncomputable def LX (X:OB):Prop:=∀ nx,6<=nx->lowOb nx X = some X
noncomputable def hN (X:OB):OB:=(5,.dict [] []) :: (4,dMO) :: X
noncomputable def hB (X:OB) (o:MO):OB:=(6,o) :: (5,.dict [.s "bc"] [.ref 6]) :: (4,dMO) :: X
noncomputable def hP (X:OB) (o p:MO):OB:=(7,p) :: (6,o) :: (5,.dict [.s "bc",.s "bpb"] [.ref 6,.ref 7]) :: (4,dMO) :: X
noncomputable def hDN (X:OB) (w:MO):OB:=(6,w) :: (5,.dict [.s "dm"] [.ref 6]) :: (4,dMO) :: X
noncomputable def hDB (X:OB) (o w:MO):OB:=(7,w) :: (6,o) :: (5,.dict [.s "bc",.s "dm"] [.ref 6,.ref 7]) :: (4,dMO) :: X
noncomputable def hDP (X:OB) (o p w:MO):OB:=(8,w) :: (7,p) :: (6,o) :: (5,.dict [.s "bc",.s "bpb",.s "dm"] [.ref 6,.ref 7,.ref 8]) :: (4,dMO) :: X
theorem go_ref {k:Nat} {mk:MK} {n nx':Nat} {c f:Addr} {ns:List Str} {vs as:List V} {S:SS} {r:V} {ob':OB} (ho:olook n S.ob = some (.inst c ns vs)) (hm:pg.meth c mk.name = some f) (hc:ns.contains mk.name = false) (q:F k f (.ref n :: as) (S.ob,S.nx) = some (r,(ob',nx'))) :
  methGo (en k).rc (en k).mt mk (.ref n) (.inst c) as S = some (r,⟨S.sl,ob',nx'⟩):=by
 have hn:¬ ns.contains mk.name = true:=by rw [hc];exact Bool.false_ne_true
 have hs:shapeOf mk.name (.ref n) S.ob = some (.inst c):=by
  show (olook n S.ob).bind _ = _
  rw [ho];exact if_neg hn
 refine (if_pos hs).trans ?_
 show (olook n S.ob).bind _ = _
 rw [ho]
 show (pg.meth c mk.name).bind _ = _
 rw [hm]
 refine (if_neg hn).trans ?_
 show (F k f (.ref n :: as) (S.ob,S.nx)).map _ = _
 rw [q];rfl
theorem new516 (k:Nat) (X:OB) (sl:List (Option V)):newIM (F (k + 2)) 540 516 [] ⟨sl,X,4⟩ = some (.ref 4,⟨sl,hN X,6⟩):=by
 have h:F (k + 2) 516 [.ref 4] ((4,.inst 540 [] []) :: X,5) = some (.none,(hN X,6)):=(stp516 (k + 1) _ _).trans (B.fin [.m (qc (l:=[]) rfl (pc502 k))] (by kernel_rfl))
 refine (bnd_eq (f:=alloc' (.inst 540 [] [])) (S1:=⟨sl,(4,.inst 540 [] []) :: X,5⟩) (a:=.ref 4) rfl).trans ((bnd_eq (f:=impCall (F (k + 2)) 516 [.ref 4]) (a:=.none) (S1:=⟨sl,hN X,6⟩) ?_).trans rfl)
 show (F (k + 2) 516 [.ref 4] ((4,.inst 540 [] []) :: X,5)).map _ = _
 rw [h];rfl
inductive Df:Str->V->Prop
 | bc:Df "bc" (.str "L")
 | bpb:Df "bpb" .none
 | dm:Df "dm" .none
theorem dfl_at {nm:Str} {dv:V} (h:Df nm dv) (rc:Raw) (mt:Addr->Str->Option Addr) (S:SS):methGo rc mt .get dflD .dict [.str nm] S = some (dv,S):=by cases h <;> kernel_rfl
theorem new460 {nm:Str} {dv:V} (h:Df nm dv) (k:Nat) {nx:Nat} (hn:nx = 6 ∨ nx = 7 ∨ nx = 8) (ob:OB) (sl:List (Option V)):newIM (F (k + 1)) 491 460 [dv] ⟨sl,ob,nx⟩ = some (.ref nx,⟨sl,(nx,rmM dv [.int 0] [dv]) :: ob,nx + 1⟩):=by
 have h:F (k + 1) 460 [.ref nx,dv] ((nx,.inst 491 [] []) :: ob,nx + 1) = some (.none,((nx,rmM dv [.int 0] [dv]) :: ob,nx + 1)):=by
  refine (stp460 k _ _ _).trans ?_
  rcases hn with e | e | e <;> (subst e;exact B.fin [] (by kernel_rfl))
 refine (bnd_eq (f:=alloc' (.inst 491 [] [])) (S1:=⟨sl,(nx,.inst 491 [] []) :: ob,nx + 1⟩) (a:=.ref nx) rfl).trans ((bnd_eq (f:=impCall (F (k + 1)) 460 [.ref nx,dv]) (a:=.none) (S1:=⟨sl,(nx,rmM dv [.int 0] [dv]) :: ob,nx + 1⟩) ?_).trans rfl)
 show (F (k + 1) 460 [.ref nx,dv] ((nx,.inst 491 [] []) :: ob,nx + 1)).map _ = _
 rw [h];rfl
section
variable (k:Nat) (X:OB) (o p w:MO)
theorem mo_Bb:F (k + 1) 537 [.ref 4,.str "bc"] (hB X o,7) = some (.ref 6,(hB X o,7)):=(stp537 k _ _ _).trans (B.fin [] (by kernel_rfl))
theorem mo_Pb:F (k + 1) 537 [.ref 4,.str "bc"] (hP X o p,8) = some (.ref 6,(hP X o p,8)):=(stp537 k _ _ _).trans (B.fin [] (by kernel_rfl))
theorem mo_Pp:F (k + 1) 537 [.ref 4,.str "bpb"] (hP X o p,8) = some (.ref 7,(hP X o p,8)):=(stp537 k _ _ _).trans (B.fin [] (by kernel_rfl))
theorem mo_DN:F (k + 1) 537 [.ref 4,.str "dm"] (hDN X w,7) = some (.ref 6,(hDN X w,7)):=(stp537 k _ _ _).trans (B.fin [] (by kernel_rfl))
theorem mo_DB:F (k + 1) 537 [.ref 4,.str "dm"] (hDB X o w,8) = some (.ref 7,(hDB X o w,8)):=(stp537 k _ _ _).trans (B.fin [] (by kernel_rfl))
theorem mo_DP:F (k + 1) 537 [.ref 4,.str "dm"] (hDP X o p w,9) = some (.ref 8,(hDP X o p w,9)):=(stp537 k _ _ _).trans (B.fin [] (by kernel_rfl))
theorem mn_b:F (k + 2) 537 [.ref 4,.str "bc"] (hN X,6) = some (.ref 6,(hB X (rmM (.str "L") [.int 0] [.str "L"]),7)):=
 (stp537 (k + 1) _ _ _).trans (B.fin [.m0,.m0,.h (sh_dfl (hN X)),.h (sh_dfl (hN X)),.m (dfl_at .bc (en (k + 1)).rc (en (k + 1)).mt),.s (new460 .bc k (.inl rfl) (hN X) [some (.ref 4),some (.str "bc"),none])] (by kernel_rfl))
theorem mn_p:F (k + 2) 537 [.ref 4,.str "bpb"] (hB X o,7) = some (.ref 7,(hP X o (rmM .none [.int 0] [.none]),8)):=
 (stp537 (k + 1) _ _ _).trans (B.fin [.m0,.m0,.h (sh_dfl (hB X o)),.h (sh_dfl (hB X o)),.m (dfl_at .bpb (en (k + 1)).rc (en (k + 1)).mt),.s (new460 .bpb k (.inr (.inl rfl)) (hB X o) [some (.ref 4),some (.str "bpb"),none])] (by kernel_rfl))
theorem mn_DN:F (k + 2) 537 [.ref 4,.str "dm"] (hN X,6) = some (.ref 6,(hDN X (rmM .none [.int 0] [.none]),7)):=
 (stp537 (k + 1) _ _ _).trans (B.fin [.m0,.m0,.h (sh_dfl (hN X)),.h (sh_dfl (hN X)),.m (dfl_at .dm (en (k + 1)).rc (en (k + 1)).mt),.s (new460 .dm k (.inl rfl) (hN X) [some (.ref 4),some (.str "dm"),none])] (by kernel_rfl))
theorem mn_DB:F (k + 2) 537 [.ref 4,.str "dm"] (hB X o,7) = some (.ref 7,(hDB X o (rmM .none [.int 0] [.none]),8)):=
 (stp537 (k + 1) _ _ _).trans (B.fin [.m0,.m0,.h (sh_dfl (hB X o)),.h (sh_dfl (hB X o)),.m (dfl_at .dm (en (k + 1)).rc (en (k + 1)).mt),.s (new460 .dm k (.inr (.inl rfl)) (hB X o) [some (.ref 4),some (.str "dm"),none])] (by kernel_rfl))
theorem mn_DP:F (k + 2) 537 [.ref 4,.str "dm"] (hP X o p,8) = some (.ref 8,(hDP X o p (rmM .none [.int 0] [.none]),9)):=
 (stp537 (k + 1) _ _ _).trans (B.fin [.m0,.m0,.h (sh_dfl (hP X o p)),.h (sh_dfl (hP X o p)),.m (dfl_at .dm (en (k + 1)).rc (en (k + 1)).mt),.s (new460 .dm k (.inr (.inr rfl)) (hP X o p) [some (.ref 4),some (.str "dm"),none])] (by kernel_rfl))
end
section
variable {τ:Type} [DecidableEq τ] (ty:Ty τ) {t:Tb τ} {c:Int} {n:Nat} {H:MO->OB} {r nx nx':Nat} {ob:OB} {nm:Str}
theorem pc523 (k:Nat) {dv:V} (ho:olook 4 ob = some dMO) (sh:Sh4 H r nx') (h1:F (k + 2) 537 [.ref 4,.str nm] (ob,nx) = some (.ref r,(H (rmV ty dv t),nx'))) (hlow:∀ t:Tb τ,lowOb nx' (H (rmV ty dv t)) = some (H (rmV ty dv t))) (h:TOk t n) (hn:n < 100) (c1:1<=c) (c2:c < 1114111) (v:τ) (hs:shapeOf (MK.name (.other "put")) (.ref r) (H (rmV ty dv t)) = some (.inst 491)) (hr:olook r (H (rmV ty dv t)) = some (rmV ty dv t)) :
  ∃ t',TOk t' (n + 2)/\(∀ d q,look d t' q = if q = c then v else look d t q)/\F (k + 3) 523 [.ref 4,.str nm,.int c,.int c,ty.val v] (ob,nx) = some (.none,(H (rmV ty dv t'),nx')):=by
 obtain ⟨t',a,b,h2⟩:=pc474 ty (v:=v) k dv sh hlow h hn c1 c2
 refine ⟨t',a,b,?_⟩
 have hs4:shapeOf (MK.name (.other "map_of")) (.ref 4) ob = some (.inst 540):=by
  show (olook 4 ob).bind _ = _
  rw [ho];rfl
 exact (stp523 (k + 2) _ _ _ _ _ _).trans (B.fin (s:=⟨[some (.ref 4),some (.str nm),some (.int c),some (.int c),some (ty.val v)],ob,nx⟩) [.h hs4,.h hs4,.s (go_ref (k:=k + 2) (mk:=.other "map_of") (S:=⟨[some (.ref 4),some (.str nm),some (.int c),some (.int c),some (ty.val v)],ob,nx⟩) ho (by kernel_rfl) (by kernel_rfl) h1),.h hs,.h hs,
  .s (go_ref (k:=k + 2) (mk:=.other "put") (n:=r) (c:=491) (S:=⟨[some (.ref 4),some (.str nm),some (.int c),some (.int c),some (ty.val v)],H (rmV ty dv t),nx'⟩) hr (by kernel_rfl) (by kernel_rfl) h2)] (by kernel_rfl))
end
inductive DS where
 | n
 | b (t:Tb C)
 | p (t:Tb C) (u:Tb (Option Sg))
noncomputable def DS.t:DS->Tb C
 | .n=>[(0,.L)]
 | .b t=>t
 | .p t _=>t
noncomputable def DS.u:DS->Tb (Option Sg)
 | .p _ u=>u
 | _=>[(0,none)]
noncomputable def DS.isP:DS->Bool
 | .p _ _=>true
 | _=>false
noncomputable def DS.has:DS->Bool
 | .n=>false
 | _=>true
noncomputable def sL:V:=.str "L"
noncomputable def rC (t:Tb C):MO:=rmV tyC sL t
noncomputable def rB (u:Tb (Option Sg)):MO:=rmV tyB .none u
noncomputable def rM (w:Tb (Option Bool)):MO:=rmV tyM .none w
noncomputable def dob (X:OB):DS->OB
 | .n=>hN X
 | .b t=>hB X (rC t)
 | .p t u=>hP X (rC t) (rB u)
noncomputable def dnx:DS->Nat
 | .n=>6
 | .b _=>7
 | .p _ _=>8
noncomputable def dobD (X:OB) (w:MO):DS->OB
 | .n=>hDN X w
 | .b t=>hDB X (rC t) w
 | .p t u=>hDP X (rC t) (rB u) w
theorem dob4 (X:OB) (s:DS):olook 4 (dob X s) = some dMO:=by cases s <;> rfl
theorem dobD4 (X:OB) (w:MO) (s:DS):olook 4 (dobD X w s) = some dMO:=by cases s <;> rfl
section
variable {nx:Nat} (h:5 < nx)
include h
theorem ok_dMO:okMO nx dMO = true:=by
 show (belV nx dflD && (decide (5 < nx) && true)) = true
 rw [decide_eq_true h,show belV nx dflD = true from by kernel_rfl];rfl
theorem low5 {X:OB} (hX:LX X) {ks:List Ky} {vs:List V} (hv:vs.all (belV nx) = true):lowOb nx ((5,.dict ks vs) :: (4,dMO) :: X) = some ((5,.dict ks vs) :: (4,dMO) :: X):=
 low_in h hv (low_in (Nat.lt_of_succ_lt h) (ok_dMO h) (hX nx h))
end
theorem ok_rm {τ:Type} [DecidableEq τ] (ty:Ty τ) {nx:Nat} {dv:V} (hv:belV nx dv = true) (t:Tb τ):okMO nx (rmV ty dv t) = true:=by
 show (belV nx dv && (nrs (iA t) && (nrs (vA ty t) && true))) = true
 rw [nrs_iA,nrs_vA,hv];rfl
theorem ok_rC {nx:Nat} (t:Tb C):okMO nx (rC t) = true:=ok_rm tyC (dv:=sL) rfl t
theorem ok_rB {nx:Nat} (u:Tb (Option Sg)):okMO nx (rB u) = true:=ok_rm tyB (dv:=.none) rfl u
theorem ok_rM {nx:Nat} (w:Tb (Option Bool)):okMO nx (rM w) = true:=ok_rm tyM (dv:=.none) rfl w
section
variable {X:OB} (hX:LX X)
include hX
theorem low_hB (t:Tb C):lowOb 7 (hB X (rC t)) = some (hB X (rC t)):=low_in (by decide) (ok_rC t) (low5 (by decide) hX rfl)
theorem low_hP (t:Tb C) (u:Tb (Option Sg)):lowOb 8 (hP X (rC t) (rB u)) = some (hP X (rC t) (rB u)):=low_in (by decide) (ok_rB u) (low_in (by decide) (ok_rC t) (low5 (by decide) hX rfl))
theorem low_DN (w:Tb (Option Bool)):lowOb 7 (hDN X (rM w)) = some (hDN X (rM w)):=low_in (by decide) (ok_rM w) (low5 (by decide) hX rfl)
theorem low_DB (t:Tb C) (w:Tb (Option Bool)):lowOb 8 (hDB X (rC t) (rM w)) = some (hDB X (rC t) (rM w)):=low_in (by decide) (ok_rM w) (low_in (by decide) (ok_rC t) (low5 (by decide) hX rfl))
theorem low_DP (t:Tb C) (u:Tb (Option Sg)) (w:Tb (Option Bool)):lowOb 9 (hDP X (rC t) (rB u) (rM w)) = some (hDP X (rC t) (rB u) (rM w)):=low_in (by decide) (ok_rM w) (low_in (by decide) (ok_rB u) (low_in (by decide) (ok_rC t) (low5 (by decide) hX rfl)))
theorem put_bc (k:Nat) {s:DS} {n:Nat} (h:TOk s.t n) (hn:n < 100) {c:Int} (c1:1<=c) (c2:c < 1114111) (v:C):∃ s':DS,s'.u = s.u/\s'.has = true/\s'.isP = s.isP/\TOk s'.t (n + 2)/\(∀ d q,look d s'.t q = if q = c then v else look d s.t q) /\
  F (k + 3) 523 [.ref 4,.str "bc",.int c,.int c,v.v] (dob X s,dnx s) = some (.none,(dob X s',dnx s')):=by
 cases s with
 | n=>
  obtain ⟨t',a,b,e⟩:=pc523 tyC k (dv:=sL) (nx:=6) (dob4 X .n) (.a6 _) (mn_b k X) (low_hB hX) h hn c1 c2 v rfl rfl
  exact ⟨.b t',rfl,rfl,rfl,a,b,e⟩
 | b t=>
  obtain ⟨t',a,b,e⟩:=pc523 tyC k (dv:=sL) (nx:=7) (dob4 X (.b t)) (.a6 _) (mo_Bb (k + 1) X (rC t)) (low_hB hX) h hn c1 c2 v rfl rfl
  exact ⟨.b t',rfl,rfl,rfl,a,b,e⟩
 | p t u=>
  obtain ⟨t',a,b,e⟩:=pc523 tyC k (dv:=sL) (nx:=8) (dob4 X (.p t u)) (.u6 _ _) (mo_Pb (k + 1) X (rC t) (rB u)) (fun t=>low_hP hX t u) h hn c1 c2 v rfl rfl
  exact ⟨.p t' u,rfl,rfl,rfl,a,b,e⟩
theorem put_bpb (k:Nat) {s:DS} (hs:s.has = true) {n:Nat} (h:TOk s.u n) (hn:n < 100) {c:Int} (c1:1<=c) (c2:c < 1114111) (v:Option Sg):∃ s':DS,s'.t = s.t/\s'.isP = true/\TOk s'.u (n + 2)/\(∀ d q,look d s'.u q = if q = c then v else look d s.u q) /\
  F (k + 3) 523 [.ref 4,.str "bpb",.int c,.int c,brV v] (dob X s,dnx s) = some (.none,(dob X s',dnx s')):=by
 cases s with
 | n=>exact nob hs
 | b t=>
  obtain ⟨t',a,b,e⟩:=pc523 tyB k (dv:=.none) (nx:=7) (dob4 X (.b t)) (.a7 _) (mn_p k X (rC t)) (low_hP hX t) h hn c1 c2 v rfl rfl
  exact ⟨.p t t',rfl,rfl,a,b,e⟩
 | p t u=>
  obtain ⟨t',a,b,e⟩:=pc523 tyB k (dv:=.none) (nx:=8) (dob4 X (.p t u)) (.a7 _) (mo_Pp (k + 1) X (rC t) (rB u)) (low_hP hX t) h hn c1 c2 v rfl rfl
  exact ⟨.p t t',rfl,rfl,a,b,e⟩
theorem put_dm (k:Nat) (s:DS):∃ w1 w2,TOk w2 5/\(∀ q,0<=q->look none w2 q = if q = 9002 then some true else if q = 9001 then some false else none) /\
  F (k + 3) 523 [.ref 4,.str "dm",.int 9001,.int 9001,dmV (some false)] (dob X s,dnx s) = some (.none,(dobD X (rM w1) s,dnx s + 1))/\F (k + 3) 523 [.ref 4,.str "dm",.int 9002,.int 9002,dmV (some true)] (dobD X (rM w1) s,dnx s + 1) = some (.none,(dobD X (rM w2) s,dnx s + 1)):=by
 have t0:TOk [((0:Int),(none:Option Bool))] 1:=⟨⟨_,_,rfl⟩,List.pairwise_singleton _ _,Nat.le_refl _⟩
 have fin:∀ {w1 w2:Tb (Option Bool)},(∀ d q,look d w1 q = if q = 9001 then some false else look d [((0:Int),(none:Option Bool))] q)->(∀ d q,look d w2 q = if q = 9002 then some true else look d w1 q)->∀ q,0<=q->look none w2 q = if q = 9002 then some true else if q = 9001 then some false else none:=fun b1 b2 q hq=>by
  rw [b2,b1,show look none [((0:Int),(none:Option Bool))] q = none from if_pos hq]
 cases s with
 | n=>
  obtain ⟨w1,a1,b1,e1⟩:=pc523 tyM (c:=9001) k (dv:=.none) (nx:=6) (dob4 X .n) (.a6 _) (mn_DN k X) (low_DN hX) t0 (by decide) (by decide) (by decide) (some false) rfl rfl
  obtain ⟨w2,a2,b2,e2⟩:=pc523 tyM (c:=9002) k (dv:=.none) (nx:=7) (dobD4 X (rM w1) .n) (.a6 _) (mo_DN (k + 1) X (rM w1)) (low_DN hX) a1 (by decide) (by decide) (by decide) (some true) rfl rfl
  exact ⟨w1,w2,a2,fin b1 b2,e1,e2⟩
 | b t=>
  obtain ⟨w1,a1,b1,e1⟩:=pc523 tyM (c:=9001) k (dv:=.none) (nx:=7) (dob4 X (.b t)) (.a7 _) (mn_DB k X (rC t)) (low_DB hX t) t0 (by decide) (by decide) (by decide) (some false) rfl rfl
  obtain ⟨w2,a2,b2,e2⟩:=pc523 tyM (c:=9002) k (dv:=.none) (nx:=8) (dobD4 X (rM w1) (.b t)) (.a7 _) (mo_DB (k + 1) X (rC t) (rM w1)) (low_DB hX t) a1 (by decide) (by decide) (by decide) (some true) rfl rfl
  exact ⟨w1,w2,a2,fin b1 b2,e1,e2⟩
 | p t u=>
  obtain ⟨w1,a1,b1,e1⟩:=pc523 tyM (c:=9001) k (dv:=.none) (nx:=8) (dob4 X (.p t u)) (.a8 _) (mn_DP k X (rC t) (rB u)) (low_DP hX t u) t0 (by decide) (by decide) (by decide) (some false) rfl rfl
  obtain ⟨w2,a2,b2,e2⟩:=pc523 tyM (c:=9002) k (dv:=.none) (nx:=9) (dobD4 X (rM w1) (.p t u)) (.a8 _) (mo_DP (k + 1) X (rC t) (rB u) (rM w1)) (low_DP hX t u) a1 (by decide) (by decide) (by decide) (some true) rfl rfl
  exact ⟨w1,w2,a2,fin b1 b2,e1,e2⟩
end
section
variable {t:M Bool} {b:T} {n:Nat} {S S1 S2:SS} {v:V}
theorem wh_ret (ht:t S = some (true,S1)) (hb:b S1 = some (.ret v,S2)):wh t b (n + 1) S = some (.ret v,S2):=(bnd_eq ht).trans ((bnd_eq hb).trans rfl)
theorem wh_next (ht:t S = some (true,S1)) (hb:b S1 = some (.next,S2)):wh t b (n + 1) S = wh t b n S2:=(bnd_eq ht).trans (bnd_eq hb)
theorem wh_stop (ht:t S = some (false,S1)):wh t b (n + 1) S = some (.next,S1):=(bnd_eq ht).trans rfl
end
inductive Dr (ks:List C) (o:Nat) (c:C) (t:List C):Prop
 | mk (h:o < ks.length) (e:cAt ks o = c) (d:ks.drop (o + 1) = t)
theorem dr_cons {ks:List C} {o:Nat} {c:C} {t:List C} (h:ks.drop o = c :: t):Dr ks o c t:=by
 have lt:o < ks.length:=Nat.lt_of_not_le fun z=>by rw [List.drop_of_length_le z] at h;exact nomatch h
 rw [List.drop_eq_getElem_cons lt] at h
 refine ⟨lt,?_,List.tail_eq_of_cons_eq h⟩
 unfold cAt
 rw [List.getD_eq_getElem?_getD,List.getElem?_eq_getElem lt]
 exact List.head_eq_of_cons_eq h
theorem get_cl {l:List C} {i:Nat} (h:i < l.length) (S:SS):sub (cl l) (.int (i:Int)) S = some ((cAt l i).v,S):=sub_cl (place_nat h) S
theorem get_at {l:List C} {i:Nat} {c:C} (e:cAt l i = c) (h:i < l.length) (S:SS):sub (cl l) (.int (i:Int)) S = some (c.v,S):=e ▸ get_cl h S
noncomputable def K8 (c:C):Bool:=match c with | .ES=>false | .CS=>false | .ET=>false | .LRI=>false | .RLI=>false | .FSI=>false | .PDI=>false | _=>true
noncomputable def A8 (ks:List C):Prop:=∀ c ∈ ks,K8 c = true
theorem ini_no {c:C} (h:K8 c = true):anyEq c.v [.str "LRI",.str "RLI",.str "FSI"] = some false:=by cases c <;> first | rfl | exact nob h
theorem pdi_no {c:C} (h:K8 c = true):some (c.s == "PDI") = some false:=by cases c <;> first | rfl | exact nob h
theorem not_B (c:C):some (c.s == "B") = some false:=by cases c <;> rfl
theorem rem_in (c:C):anyEq c.v [.str "RLE",.str "LRE",.str "RLO",.str "LRO",.str "PDF",.str "BN"] = some false:=by cases c <;> rfl
noncomputable def str3 (c:C):Bool:=match c with | .L=>true | .R=>true | .AL=>true | _=>false
theorem str3_in (c:C):anyEq c.v [.str "L",.str "R",.str "AL"] = some (str3 c):=by cases c <;> rfl
noncomputable def eD:V:=.dic [] []
theorem fz_dict {f n:Nat} {ks:List Ky} {l l':List V} {ob ob':OB} (h:olook n ob = some (.dict ks l)) (k:thread (fz f) l (odrop n ob) = some (l',ob')):fz (f + 1) (.ref n) ob = some (.dic ks l',ob'):=by
 show (olook n ob).bind _ = _
 rw [h]
 show (thread (fz f) l (odrop n ob)).map _ = _
 rw [k];rfl
theorem fz_list {f n:Nat} {l:List V} {ob:OB} (h:olook n ob = some (.list l)) (k:l.all still = true):fz (f + 3) (.ref n) ob = some (.lst l,odrop n ob):=by
 show (olook n ob).bind _ = _
 rw [h]
 show (thread (fz (f + 2)) l (odrop n ob)).map _ = _
 rw [thread_still k];rfl
inductive R44 (ks:List C):List (Nat × C)->SS->Prop
 | mk (its:List (Nat × C)) (o3 o4:Option V) (n3:nf o3) (n4:nf o4) (h:∀ p ∈ its,K8 p.2 = true):R44 ks its ⟨[some (cl ks),some (.ref 0),some (.ref 1),o3,o4,none,none,none,none],[(1,.list []),(0,.dict [] [])],2⟩
theorem ens_K8 {ks:List C}:∀ {k:Nat},A8 ks->∀ p ∈ ens k ks,K8 p.2 = true:=by
 induction ks with
 | nil=>intro k _ p m;exact nomatch m
 | cons c ks ih=>
  intro k h p m
  rcases List.mem_cons.mp m with e | m
  ·rw [e];exact h c List.mem_cons_self
  ·exact ih (fun c m=>h c (List.mem_cons_of_mem _ m)) p m
theorem pc44 (k:Nat) (ks:List C) (h:A8 ks):pureCall (F (k + 1)) 44 [cl ks] = some eD:=by
 obtain ⟨S',e,r⟩:=loopI (t:=.many [3,4]) enumV (R44 ks) (b:=f44_1 (en k)) (fun p its S r=>by
  obtain ⟨o3,o4,n3,n4,h⟩:=r
  have hp:=h p List.mem_cons_self
  exact ⟨_,B.by [.n n3,.n n4,.b (ini_no hp),.b (pdi_no hp),.b (not_B p.2)] (by kernel_rfl),.mk its (some (.int (p.1:Int))) (some p.2.v) rfl rfl fun q m=>h q (List.mem_cons_of_mem _ m)⟩) (ens 0 ks) _ (.mk _ none none rfl rfl (ens_K8 h))
 obtain ⟨o3,o4,n3,n4,_⟩:=r
 rw [← enum_vs] at e
 have h:=B.fin (b:=b44 (en k)) (s:=⟨[some (cl ks),none,none,none,none,none,none,none,none],[],0⟩) (r:=(.ref 0,([(1,.list []),(0,.dict [] [])],2))) [.f e] (by kernel_rfl)
 refine (pure_pfin (stp44 k _ _)).trans ?_
 unfold pfin
 rw [h];rfl
noncomputable def fsl:List C->Option C
 | []=>none
 | c :: l=>if str3 c = true then some c else fsl l
noncomputable def st51 (ks:List C) (a:Nat) (o5:Option V):SS:=⟨[some (cl ks),some (.int 0),some (.int (ks.length:Int)),some eD,some (.int (a:Int)),o5,none,none,none],[],0⟩
noncomputable def r51:Option C->SS->Fl × SS
 | some c,S=>(.ret c.v,S)
 | none,S=>(.next,S)
theorem loop51 (E:En) (ks:List C) (h8:A8 ks) (l:List C):∀ (o n:Nat) (o5:Option V),ks.drop o = l->nf o5->l.length < n->∃ S',wh (t51_1 E).f (w51_1 E).f n (st51 ks o o5) = some (r51 (fsl l) S'):=by
 induction l with
 | nil=>
  intro o n o5 hd _ hn
  cases n with
  | zero=>exact absurd hn (Nat.not_lt_zero _)
  | succ n=>
   have ho:=List.drop_eq_nil_iff.mp hd
   exact ⟨_,wh_stop (S1:=st51 ks o o5) (B.by [.b (qf (show ¬ (o:Int) < (ks.length:Int) from fun z=>Nat.not_lt.mpr ho (Int.ofNat_lt.mp z)))] (by kernel_rfl))⟩
 | cons c r ih=>
  intro o n o5 hd n5 hn
  cases n with
  | zero=>exact absurd hn (Nat.not_lt_zero _)
  | succ n=>
   obtain ⟨s2,s1,s3⟩:=dr_cons hd
   have hc:K8 c = true:=h8 c (List.mem_of_mem_drop (i:=o) (hd ▸ List.mem_cons_self))
   have ht:(t51_1 E).f (st51 ks o o5) = some (true,st51 ks o o5):=B.by [.b (qt (Int.ofNat_lt.mpr s2))] (by kernel_rfl)
   cases h3:str3 c with
   | true=>
    rw [show fsl (c :: r) = some c from if_pos h3]
    exact ⟨st51 ks o (some c.v),wh_ret ht (B.by [.m (get_at s1 s2),.n n5,.b ((str3_in c).trans (congrArg some h3))] (by kernel_rfl))⟩
   | false=>
    rw [show fsl (c :: r) = fsl r from if_neg (by rw [h3];exact Bool.false_ne_true)]
    have hb:(w51_1 E).f (st51 ks o o5) = some (.next,st51 ks (o + 1) (some c.v)):=
     B.by [.m (get_at s1 s2),.n n5,.b ((str3_in c).trans (congrArg some h3)),.b (not_B c),.b (ini_no hc)] (by kernel_rfl)
    obtain ⟨S',e⟩:=ih (o + 1) n (some c.v) s3 rfl (Nat.lt_of_succ_lt_succ hn)
    exact ⟨S',(wh_next ht hb).trans e⟩
theorem pc51 (k:Nat) (ks:List C) (h8:A8 ks) (hl:ks.length < 900):pureCall (F (k + 1)) 51 [cl ks,.int 0,.int (ks.length:Int),eD] = some (oV (fsl ks)):=by
 refine (pure_pfin (stp51 k _ _ _ _ _)).trans ?_
 obtain ⟨S',e⟩:=loop51 (en k) ks h8 ks 0 turns none rfl rfl (Nat.lt_trans hl (by decide))
 cases h:fsl ks with
 | none=>rw [h] at e;exact B.pv rfl [.f (f:=sWhile (t51_1 (en k)).f (w51_1 (en k)).f) e] (by kernel_rfl)
 | some c=>rw [h] at e;exact B.pv rfl [.f (f:=sWhile (t51_1 (en k)).f (w51_1 (en k)).f) e] (by kernel_rfl)
noncomputable def entI (lev:Int):V:=.ins 75 ["level","override","is_isolate"] [.int lev,.none,.bool false]
noncomputable def skO:MO:=.inst 145 ["depth","entries","over_isolates","over_embeddings","valid_isolates"] [.int 125,.ref 1,.int 0,.int 0,.int 0]
noncomputable def hp157 (cs lv:List V) (l:Int):OB:=[(3,.list cs),(2,.list lv),(1,.list [entI l]),(0,skO)]
theorem pc100 (k:Nat) (cs lv:List V) (l:Int):F (k + 1) 100 [.ref 0] (hp157 cs lv l,4) = some (entI l,(hp157 cs lv l,4)):=(stp100 k _ _).trans (B.fin [] (by kernel_rfl))
theorem pc72 (k:Nat) (l:Int):newCall (F (k + 1)) 75 72 [.int l,.none,.bool false] = some (entI l):=newOk (nx:=1) (l':=[.int l,.none,.bool false]) (B.fin [] (by kernel_rfl)) (stp72 k _ _ _ _ _) rfl
theorem new93 (k:Nat) (b:Int) (sl:List (Option V)):newIM (F (k + 2)) 145 93 [.int b,.int 125] ⟨sl,[],0⟩ = some (.ref 0,⟨sl,[(1,.list [entI b]),(0,skO)],2⟩):=by
 have h:F (k + 2) 93 [.ref 0,.int b,.int 125] ([(0,.inst 145 [] [])],1) = some (.none,([(1,.list [entI b]),(0,skO)],2)):=(stp93 (k + 1) _ _ _ _).trans (B.fin [.m (qw rfl (pc72 k b))] (by kernel_rfl))
 refine (bnd_eq (f:=alloc' (.inst 145 [] [])) (S1:=⟨sl,[(0,.inst 145 [] [])],1⟩) (a:=.ref 0) rfl).trans ((bnd_eq (f:=impCall (F (k + 2)) 93 [.ref 0,.int b,.int 125]) (a:=.none) (S1:=⟨sl,[(1,.list [entI b]),(0,skO)],2⟩) ?_).trans rfl)
 show (F (k + 2) 93 [.ref 0,.int b,.int 125] ([(0,.inst 145 [] [])],1)).map _ = _
 rw [h];rfl
noncomputable def s157 (ks:List C) (b:Int) (o7 o8 o11:Option V) (cs lv:List V):SS:=⟨[some (cl ks),some (.int b),some (.int 125),some (.ref 0),some eD,some (.ref 2),some (.ref 3),o7,o8,none,none,o11,none,none,none,none,none,none,none,none],hp157 cs lv b,4⟩
inductive R157 (ks:List C) (b:Int) (res:List V) (n:Nat):List (Nat × C)->SS->Prop
 | mk (k:Nat) (l:List C) (cs lv:List V) (o7 o8 o11:Option V) (n7:nf o7) (n8:nf o8) (n11:nf o11) (h:A8 l) (e:cs++vs l = res) (el:lv = List.replicate cs.length (.int b)) (hn:cs.length + l.length < n):R157 ks b res n (ens k l) (s157 ks b o7 o8 o11 cs lv)
theorem pc157 (k:Nat) (ks:List C) (b:Int) (h8:A8 ks) (hl:ks.length < 900):pureCall (F (k + 3)) 157 [cl ks,.int b,.int 125] = some (.tup [il (List.replicate ks.length b),cl ks]):=by
 obtain ⟨S',e,r⟩:=loopI (t:=.many [7,8]) enumV (R157 ks b (vs ks) 900) (b:=f157_1 (en (k + 2))) (fun p its S r=>by
  generalize hi:p :: its = xs at r
  obtain ⟨j,l,cs,lv,o7,o8,o11,n7,n8,n11,h,e,el,hn⟩:=r
  cases l with
  | nil=>exact nomatch hi
  | cons c l=>
   cases hi
   have hn:cs.length + (l.length + 1) < 900:=hn
   have hc:=h c List.mem_cons_self
   have l1:cs.length < lim:=Nat.lt_trans (Nat.lt_of_le_of_lt (Nat.le_add_right _ _) hn) (by decide)
   have l2:lv.length < lim:=by rw [el,List.length_replicate];exact l1
   have hg:=go_ref (k:=k + 2) (mk:=.other "last") (n:=0) (c:=145) (as:=[]) (S:=s157 ks b (some (.int (j:Int))) (some c.v) o11 cs lv) rfl (by kernel_rfl) (by kernel_rfl) (pc100 (k + 1) cs lv b)
   refine ⟨s157 ks b (some (.int (j:Int))) (some c.v) (some (entI b)) (cs++[c.v]) (lv++[.int b]),B.by [.n n7,.n n8,.b (rem_in c),.b (not_B c),.b (pdi_no hc),.s hg,.n n11,.b (qt l2),.b0,.b (qt l1),.b (ini_no hc)] (by kernel_rfl),
    .mk (j + 1) l _ _ _ _ _ rfl rfl rfl (fun x m=>h x (List.mem_cons_of_mem _ m)) (by rw [← e,List.append_assoc];rfl) (by rw [el,List.length_append,List.length_singleton,List.replicate_succ']) (by rw [List.length_append,List.length_singleton];omega)⟩) (ens 0 ks) _
  (.mk 0 ks [] [] none none none rfl rfl rfl h8 rfl rfl (by show 0 + ks.length < 900;rw [Nat.zero_add];exact hl))
 generalize hi:([]:List (Nat × C)) = xs at r
 obtain ⟨j,l,cs,lv,o7,o8,o11,n7,n8,n11,_,e',el,_⟩:=r
 cases l with
 | cons _ _=>exact nomatch hi
 | nil=>
  rw [show vs [] = [] from rfl,List.append_nil] at e'
  subst e'
  rw [vs_len] at el
  subst el
  rw [← enum_vs] at e
  have h:=B.fin (b:=b157 (en (k + 2))) (s:=⟨[some (cl ks),some (.int b),some (.int 125),none,none,none,none,none,none,none,none,none,none,none,none,none,none,none,none,none],[],0⟩)
   (r:=(.tup [.ref 2,.ref 3],(hp157 (vs ks) (List.replicate ks.length (.int b)) b,4))) [.s (new93 k b [some (cl ks),some (.int b),some (.int 125),none,none,none,none,none,none,none,none,none,none,none,none,none,none,none,none,none]),.m (qc (l:=[cl ks]) (sc rfl) (pc44 (k + 1) ks h8)),.f e] (by kernel_rfl)
  refine (pure_pfin (stp157 (k + 2) _ _ _ _)).trans ?_
  unfold pfin
  rw [h]
  rw [show il (List.replicate ks.length b) = .lst (List.replicate ks.length (.int b)) from congrArg V.lst List.map_replicate]
  show ((thread (fz 7) [.ref 2,.ref 3] (hp157 (vs ks) (List.replicate ks.length (.int b)) b)).map _).map _ = _
  have hs:=still_ints (List.replicate ks.length b)
  rw [List.map_replicate] at hs
  rw [thread_one (fz_list (f:=4) (n:=2) rfl hs) (thread_one (fz_list (f:=4) (n:=3) rfl (still_vs _)) rfl)]
  rfl
theorem dir_emb (l m:Int) (h:m<=l):dir2 l m = emb l:=by
 unfold dir2 emb
 rw [if_neg (Int.not_lt.mpr h)]
 by_cases q:l % 2 = 1
 ·rw [if_pos q,if_neg (by rw [q];decide)]
 ·rw [if_neg q,if_pos (by omega)]
theorem pc208 (k:Nat) (s:List Int) (a d b:Int) (h:¬ (0<=a + d/\a + d < s.length)):pureCall (F (k + 1)) 208 [il s,.int a,.int d,.int b] = some (.int b):=by
 refine (pure_pfin (stp208 k _ _ _ _ _)).trans ?_
 have ht:(t208_1 (en k)).f ⟨[some (il s),some (.int (a + d)),some (.int d),some (.int b),none],[],0⟩ = some (false,⟨[some (il s),some (.int (a + d)),some (.int d),some (.int b),none],[],0⟩):=by
  by_cases h0:0<=a + d
  ·exact B.by [.b (qt h0),.m (len_il s),.b (qf fun z=>h ⟨h0,z⟩)] (by kernel_rfl)
  ·exact B.by [.b (qf h0)] (by kernel_rfl)
 exact B.pv rfl [.f (f:=sWhile (t208_1 (en k)).f (w208_1 (en k)).f) (wh_stop (n:=99999) ht)] (by kernel_rfl)
noncomputable def atV (v:V) (i:Nat):V:=.tup [natV i,v]
theorem enum_rep (v:V) (m:Nat):∀ k,enum k (List.replicate m v) = (List.range' k m).map (atV v):=by
 induction m with
 | zero=>intro k;rfl
 | succ m ih=>intro k;exact congrArg (atV v k :: ·) (ih (k + 1))
noncomputable def natVs (l:List Nat):List V:=l.map natV
theorem natVs_len (l:List Nat):(natVs l).length = l.length:=List.length_map _
theorem natVs_snoc (l:List Nat) (k:Nat):natVs l++[natV k] = natVs (l++[k]):=(List.map_append (f:=natV) (l₁:=l) (l₂:=[k])).symm
theorem still_natVs (l:List Nat):(natVs l).all still = true:=by
 induction l with
 | nil=>rfl
 | cons a l ih=>exact ih
theorem eq_int (l:Int) (ob:OB):cmpv .NotEq (.int l) (.int l) ob = some false:=congrArg (·.map (!·)) (show some (l == l) = some true from congrArg some (beq_self_eq_true l))
noncomputable def s171 (lv:V) (b:Int) (o3 o4:Option V) (acc:List Nat):SS:=⟨[some lv,some (.ref 0),some (.int b),o3,o4,none],[(1,.list (natVs acc)),(0,.list [.ref 1])],2⟩
inductive R171 (lv:V) (b:Int) (res:List Nat) (is:List Nat):SS->Prop
 | mk (acc:List Nat) (o3 o4:Option V) (n3:nf o3) (n4:nf o4) (hl:acc.length + is.length < 900) (e:acc++is = res):R171 lv b res is (s171 lv b o3 o4 acc)
theorem pc171 (k:Nat) (b:Int) (m:Nat) (hm:m < 899):pureCall (F (k + 1)) 171 [il (List.replicate (m + 1) b)] = some (.lst [nl (List.range' 0 (m + 1))]):=by
 have e0:(ontn (.many [3,4]) (atV (.int b) 0) (f171_1 (en k))).f ⟨[some (il (List.replicate (m + 1) b)),some (.ref 0),some .none,none,none,none],[(0,.list [])],1⟩ = some (.next,s171 (il (List.replicate (m + 1) b)) b (some (natV 0)) (some (.int b)) [0]):=B.by [] (by kernel_rfl)
 obtain ⟨S',e,r⟩:=loopI (t:=.many [3,4]) (atV (.int b)) (R171 (il (List.replicate (m + 1) b)) b (List.range' 0 (m + 1))) (b:=f171_1 (en k)) (fun i is S r=>by
  obtain ⟨acc,o3,o4,n3,n4,hl,e⟩:=r
  have hl:acc.length + (is.length + 1) < 900:=hl
  refine ⟨s171 (il (List.replicate (m + 1) b)) b (some (natV i)) (some (.int b)) (acc++[i]),?_,.mk (acc++[i]) _ _ rfl rfl (by rw [List.length_append,List.length_singleton];omega) (by rw [← e,List.append_assoc];rfl)⟩
  unfold s171
  rw [← natVs_snoc]
  exact B.by [.n n3,.n n4,.b0,.b (eq_int b []),.b (qt (show (natVs acc).length < lim by rw [natVs_len];exact Nat.lt_trans (Nat.lt_of_le_of_lt (Nat.le_add_right _ _) hl) (by decide)))] (by kernel_rfl)) (List.range' 1 m) _
  (.mk [0] (some (natV 0)) (some (.int b)) rfl rfl (by rw [List.length_range'];show 1 + m < 900;omega) rfl)
 obtain ⟨acc,o3,o4,n3,n4,_,e'⟩:=r
 rw [List.append_nil] at e'
 subst e'
 have el:enum 0 (List.replicate (m + 1) (.int b)) = (List.range' 0 (m + 1)).map (atV (.int b)):=enum_rep _ _ _
 have ef:=(forL_cons e0).trans e
 rw [show atV (.int b) 0 :: (List.range' 1 m).map (atV (.int b)) = enum 0 ((List.replicate (m + 1) b).map V.int) by rw [List.map_replicate,el];rfl] at ef
 have h:=B.fin (b:=b171 (en k)) (s:=⟨[some (il (List.replicate (m + 1) b)),none,none,none,none,none],[],0⟩) (r:=(.ref 0,([(1,.list (natVs (List.range' 0 (m + 1)))),(0,.list [.ref 1])],2))) [.f ef] (by kernel_rfl)
 refine (pure_pfin (stp171 k _ _)).trans ?_
 unfold pfin
 rw [h]
 show ((thread (fz 7) [.ref 1] [(1,.list (natVs (List.range' 0 (m + 1))))]).map _).map _ = _
 rw [thread_one (fz_list (f:=4) (n:=1) rfl (still_natVs _)) rfl];rfl
theorem list_new {l:List V} (h:l.length<=lim) (S:SS):listM true (.lst l) S = some (.ref S.nx,⟨S.sl,(S.nx,.list l) :: S.ob,S.nx + 1⟩):=if_pos h
theorem sub_end {n:Nat} {l:List V} {x:V} {S:SS} (h:olook n S.ob = some (.list (l++[x]))):sub (.ref n) (.int (-1)) S = some (x,S):=by
 have hp:place (-1) (l++[x]).length = some l.length:=by
  rw [List.length_append]
  refine (if_neg (by decide)).trans ((if_pos (by show -((l.length + 1:Nat):Int)<=-1;omega)).trans ?_)
  exact congrArg some (by show (-1 + ((l.length + 1:Nat):Int)).toNat = _;omega)
 show (olook n S.ob).bind _ = _
 rw [h]
 show ((place (-1) (l++[x]).length).bind fun j=>(l++[x])[j]?).map _ = _
 rw [hp]
 show ((l++[x])[l.length]?).map _ = _
 rw [List.getElem?_concat_length];rfl
theorem lst_end {l:List V} {x:V} (S:SS):sub (.lst (l++[x])) (.int (-1)) S = some (x,S):=by
 have hp:place (-1) (l++[x]).length = some l.length:=by
  rw [List.length_append]
  refine (if_neg (by decide)).trans ((if_pos (by show -((l.length + 1:Nat):Int)<=-1;omega)).trans ?_)
  exact congrArg some (by show (-1 + ((l.length + 1:Nat):Int)).toNat = _;omega)
 show ((place (-1) (l++[x]).length).bind fun j=>(l++[x])[j]?).map _ = _
 rw [hp]
 show ((l++[x])[l.length]?).map _ = _
 rw [List.getElem?_concat_length];rfl
theorem range_snoc (m:Nat):natVs (List.range' 0 (m + 1)) = natVs (List.range' 0 m)++[natV m]:=by
 rw [natVs_snoc,List.range'_concat,Nat.one_mul,Nat.zero_add]
theorem pc215 (k:Nat) (ks:List C) (b:Int) (m:Nat) (h8:A8 ks) (hm:ks.length = m + 1) (hl:m < 899):pureCall (F (k + 2)) 215 [cl ks,il (List.replicate (m + 1) b),eD] = some (.lst [nl (List.range' 0 (m + 1))]):=by
 have c8:∀ i,K8 (cAt ks i) = true:=fun i=>by
  unfold cAt
  rw [List.getD_eq_getElem?_getD]
  cases e:ks[i]? with
  | none=>rfl
  | some c=>exact h8 c (List.mem_of_getElem? e)
 have g0:∀ S,sub (nl (List.range' 0 (m + 1))) (.int 0) S = some (natV 0,S):=sub_lst (i:=0) rfl
 have e1:(ontn (.many [5,6]) (.tup [natV 0,nl (List.range' 0 (m + 1))]) (f215_4 (en (k + 1)))).f ⟨[some (cl ks),some (il (List.replicate (m + 1) b)),some eD,some (.lst [nl (List.range' 0 (m + 1))]),some (.ref 0),none,none,none,none,none,none,none,none],[(0,.dict [] [])],1⟩ =
   some (.next,⟨[some (cl ks),some (il (List.replicate (m + 1) b)),some eD,some (.lst [nl (List.range' 0 (m + 1))]),some (.ref 0),some (natV 0),some (nl (List.range' 0 (m + 1))),none,none,none,none,none,none],[(0,.dict [.i 0] [natV 0])],1⟩):=B.by [.m g0] (by kernel_rfl)
 have hL:=list_new (l:=natVs (List.range' 0 (m + 1))) (by rw [natVs_len,List.length_range'];exact Nat.le_of_lt (Nat.lt_trans (Nat.succ_lt_succ hl) (by decide))) ⟨[some (cl ks),some (il (List.replicate (m + 1) b)),some eD,some (.lst [nl (List.range' 0 (m + 1))]),some (.ref 0),some (natV 0),some (nl (List.range' 0 (m + 1))),some (.ref 1),none,none,none,none,none],[(1,.list []),(0,.dict [.i 0] [natV 0])],2⟩
 let T:SS:=⟨[some (cl ks),some (il (List.replicate (m + 1) b)),some eD,some (.lst [nl (List.range' 0 (m + 1))]),some (.ref 0),some (natV 0),some (nl (List.range' 0 (m + 1))),some (.ref 1),some (.ref 2),none,none,none,none],[(2,.list (natVs (List.range' 0 (m + 1)))),(1,.list []),(0,.dict [.i 0] [natV 0])],3⟩
 have he:=sub_end (n:=2) (l:=natVs (List.range' 0 m)) (x:=natV m) (S:=T) (by rw [← range_snoc];rfl)
 have hw:wh (t215_1 (en (k + 1))).f (w215_1 (en (k + 1))).f turns T = some (.next,T):=wh_stop (n:=99999) (B.by [.s he,.m (get_cl (l:=ks) (i:=m) (by rw [hm];exact Nat.lt_succ_self m)),.b (ini_no (c8 m))] (by kernel_rfl))
 have hz:frzM (.ref 2) T = some (nl (List.range' 0 (m + 1)),⟨[some (cl ks),some (il (List.replicate (m + 1) b)),some eD,some (.lst [nl (List.range' 0 (m + 1))]),some (.ref 0),some (natV 0),some (nl (List.range' 0 (m + 1))),some (.ref 1),some (nl (List.range' 0 (m + 1))),none,none,none,none],[(1,.list []),(0,.dict [.i 0] [natV 0])],3⟩):=by
  refine bnd_eq (a:=[nl (List.range' 0 (m + 1))]) ?_
  show (thread (fz 8) [.ref 2] T.ob).map _ = _
  rw [thread_one (fz_list (f:=5) (n:=2) rfl (still_natVs _)) rfl];rfl
 have e2:(ontn (.one 6) (nl (List.range' 0 (m + 1))) (f215_3 (en (k + 1)))).f ⟨[some (cl ks),some (il (List.replicate (m + 1) b)),some eD,some (.lst [nl (List.range' 0 (m + 1))]),some (.ref 0),some (natV 0),some (nl (List.range' 0 (m + 1))),some (.ref 1),none,none,none,none,none],[(1,.list []),(0,.dict [.i 0] [natV 0])],2⟩ =
   some (.next,⟨[some (cl ks),some (il (List.replicate (m + 1) b)),some eD,some (.lst [nl (List.range' 0 (m + 1))]),some (.ref 0),some (natV 0),some (nl (List.range' 0 (m + 1))),some (.ref 1),some (nl (List.range' 0 (m + 1))),none,none,none,none],[(1,.list [nl (List.range' 0 (m + 1))]),(0,.dict [.i 0] [natV 0])],3⟩):=
  B.by [.m g0,.m (get_cl (l:=ks) (i:=0) (by rw [hm];exact Nat.succ_pos m)),.b (pdi_no (c8 0)),.s hL,.f (f:=sWhile (t215_1 (en (k + 1))).f (w215_1 (en (k + 1))).f) hw,.s hz] (by kernel_rfl)
 have hr:[nl (List.range' 0 (m + 1))].all still = true:=Bool.and_eq_true_iff.mpr ⟨nrs_nl _,rfl⟩
 exact (pure_pfin (stp215 (k + 1) _ _ _ _)).trans (pfinL (n:=1) (nx:=3) (ob:=[(1,.list [nl (List.range' 0 (m + 1))]),(0,.dict [.i 0] [natV 0])]) (B.fin [.m (qc (l:=[il (List.replicate (m + 1) b)]) (Bool.and_eq_true_iff.mpr ⟨nrs_il _,rfl⟩) (pc171 k b m hl)),.f (forL_cons (r:=[]) e1),.f (forL_cons (r:=[]) e2)] (by kernel_rfl)) rfl hr)
theorem compSub {j:Nat} {sl:List (Option V)} {src r:List V} {p:List Nat} {g:Nat->V} (hi:inner [none,none,some j] sl = [none,none,some (.lst src)]) (hr:p.map g = r) (hg:nrs r = true) (hp:∀ i ∈ p,src[i]? = some (g i)) (hl:p.length<=lim) (ob:OB) (nx:Nat) :
  compM false [none,none,some j] (.one 1) (p.map natV,none,false) [] (oeSub (oeVar 2) (oeVar 1)).f ⟨sl,ob,nx⟩ = some (.lst r,⟨sl,ob,nx⟩):=by
 subst hr
 exact comp_I (t:=.one 1) (b:=oeSub (oeVar 2) (oeVar 1)) natV g (fun S=>∃ o,nf o/\S = ⟨[none,o,some (.lst src)],[],0⟩) p rfl (nrs_nl p) hg hl
  (fun i m S ⟨o,ho,hS⟩=>⟨⟨[none,some (natV i),some (.lst src)],[],0⟩,hS ▸ B.by [.n ho,.m (sub_lst (hp i m))] (by kernel_rfl),_,rfl,rfl⟩) ⟨none,rfl,by rw [hi]⟩
theorem range_get (r:List V):(List.range' 0 r.length).map (fun i=>r.getD i .none) = r:=by
 refine List.ext_getElem (by rw [List.length_map,List.length_range']) fun i h1 h2=>?_
 rw [List.getElem_map,List.getElem_range',List.getD_eq_getElem?_getD,Nat.one_mul,Nat.zero_add,List.getElem?_eq_getElem h2];rfl
theorem get_some {r:List V} {i:Nat} (h:i ∈ List.range' 0 r.length):r[i]? = some (r.getD i .none):=by
 have h:i < r.length:=by obtain ⟨j,hj,e⟩:=List.mem_range'.mp h;omega
 rw [List.getD_eq_getElem?_getD,List.getElem?_eq_getElem h];rfl
theorem still_il (l:List Int):still (il l) = true:=nrs_il l
section
variable (k:Nat) (ks:List C) (codes:List Nat) (b:Int) (m:Nat) (h8:A8 ks) (hm:ks.length = m + 1) (hc:codes.length = m + 1) (hl:m < 899)
include h8 hm hc hl
theorem pc221:pureCall (F (k + 3)) 221 [cl ks,il (List.replicate (m + 1) b),cl ks,.int b,nl codes] = some (.lst [sqI (List.range' 0 (m + 1)) codes ks b (emb b) (emb b)]):=by
 have c8:∀ i,K8 (cAt ks i) = true:=fun i=>by
  unfold cAt
  rw [List.getD_eq_getElem?_getD]
  cases e:ks[i]? with
  | none=>rfl
  | some c=>exact h8 c (List.mem_of_getElem? e)
 have g0:∀ S,sub (nl (List.range' 0 (m + 1))) (.int 0) S = some (natV 0,S):=sub_lst (i:=0) rfl
 have gl:∀ S,sub (nl (List.range' 0 (m + 1))) (.int (-1)) S = some (natV m,S):=fun S=>by
  rw [show nl (List.range' 0 (m + 1)) = .lst (natVs (List.range' 0 m)++[natV m]) from congrArg V.lst (range_snoc m)]
  exact lst_end S
 have gv:∀ S,sub (il (List.replicate (m + 1) b)) (.int 0) S = some (.int b,S):=sub_lst (i:=0) rfl
 have hll:(List.replicate (m + 1) b).length = m + 1:=List.length_replicate
 have h1:=qc (l:=[il (List.replicate (m + 1) b),natV 0,.int (-1),.int b]) (Bool.and_eq_true_iff.mpr ⟨still_il _,rfl⟩) (pc208 (k + 1) (List.replicate (m + 1) b) 0 (-1) b (by rintro ⟨z,_⟩;exact absurd z (by decide)))
 have h2:=qc (l:=[il (List.replicate (m + 1) b),natV m,.int 1,.int b]) (Bool.and_eq_true_iff.mpr ⟨still_il _,rfl⟩) (pc208 (k + 1) (List.replicate (m + 1) b) (m:Int) 1 b (by rw [hll];omega))
 have h3:=qc (l:=[.int b,.int b]) rfl ((pc201 (k + 1) b b).trans (by rw [dir_emb b b (Int.le_refl b)]))
 have lp:(List.range' 0 (m + 1)).length<=lim:=by rw [List.length_range'];exact Nat.le_of_lt (Nat.lt_trans (Nat.succ_lt_succ hl) (by decide))
 have ec:(natVs codes).length = m + 1:=by rw [natVs_len,hc]
 have ek:(vs ks).length = m + 1:=by rw [vs_len,hm]
 have c1:=compSub (j:=4) (sl:=[some (cl ks),some (il (List.replicate (m + 1) b)),some (cl ks),some (.int b),some (nl codes),some eD,some (.ref 0),some (nl (List.range' 0 (m + 1))),some (natV 0),some (natV m),some (.int b),some (emb b).v,some (emb b).v,none,none,none,none,none,none,none]) (src:=natVs codes) (r:=natVs codes) (p:=List.range' 0 (m + 1)) (g:=fun i=>(natVs codes).getD i .none)
  (by show [none,none,if nr (nl codes) = true then some (nl codes) else none] = _;rw [if_pos (show nr (nl codes) = true from nrs_nl codes)];rfl) (by rw [← ec];exact range_get _) (nrs_nl codes) (fun i h=>get_some (by rw [ec];exact h)) lp [(0,.list [])] 1
 have c2:=compSub (j:=2) (sl:=[some (cl ks),some (il (List.replicate (m + 1) b)),some (cl ks),some (.int b),some (nl codes),some eD,some (.ref 0),some (nl (List.range' 0 (m + 1))),some (natV 0),some (natV m),some (.int b),some (emb b).v,some (emb b).v,some (nl codes),none,none,none,none,none,none]) (src:=vs ks) (r:=vs ks) (p:=List.range' 0 (m + 1)) (g:=fun i=>(vs ks).getD i .none)
  (by show [none,none,if nr (cl ks) = true then some (cl ks) else none] = _;rw [if_pos (show nr (cl ks) = true from nrs_vs ks)];rfl) (by rw [← ek];exact range_get _) (nrs_vs ks) (fun i h=>get_some (by rw [ek];exact h)) lp [(0,.list [])] 1
 have hq:[nl (List.range' 0 (m + 1)),cl ks,.int b,(emb b).v,(emb b).v,nl codes].all still = true:=by
  show (nrs ((List.range' 0 (m + 1)).map natV) && (nrs (vs ks) && (nrs (codes.map natV) && true))) = true
  rw [nrs_nl,nrs_nl,nrs_vs];rfl
 have h4:=qw hq (pc187 (k + 1) (List.range' 0 (m + 1)) codes ks b (emb b) (emb b) (by rw [hc];exact Nat.le_of_lt (Nat.lt_trans (Nat.succ_lt_succ hl) (by decide))))
 have e:(ontn (.one 7) (nl (List.range' 0 (m + 1))) (f221_1 (en (k + 2)))).f ⟨[some (cl ks),some (il (List.replicate (m + 1) b)),some (cl ks),some (.int b),some (nl codes),some eD,some (.ref 0),none,none,none,none,none,none,none,none,none,none,none,none,none],[(0,.list [])],1⟩ =
   some (.next,⟨[some (cl ks),some (il (List.replicate (m + 1) b)),some (cl ks),some (.int b),some (nl codes),some eD,some (.ref 0),some (nl (List.range' 0 (m + 1))),some (natV 0),some (natV m),some (.int b),some (emb b).v,some (emb b).v,some (nl codes),none,none,none,none,none,none],[(0,.list [sqI (List.range' 0 (m + 1)) codes ks b (emb b) (emb b)])],1⟩):=
  B.by [.m g0,.m gl,.m gv,.m h1,.m h3,.m (get_cl (l:=ks) (i:=m) (by rw [hm];exact Nat.lt_succ_self m)),.b (ini_no (c8 m)),.m h2,.m h3,.s c1,.s c2,.m h4] (by kernel_rfl)
 refine (pure_pfin (stp221 (k + 2) _ _ _ _ _ _)).trans (pfin0 (Bool.and_eq_true_iff.mpr ⟨still_sqI ..,rfl⟩) (B.fin [.m (qc (l:=[cl ks]) (sc rfl) (pc44 (k + 1) ks h8)),.m (qc (l:=[cl ks,il (List.replicate (m + 1) b),eD]) (sc (Bool.and_eq_true_iff.mpr ⟨still_il _,rfl⟩)) (pc215 k ks b m h8 hm hl)),.f (forL_cons (r:=[]) e)] (by kernel_rfl)))
end
theorem set_at {α:Type} (P T:List α) (x y:α):(P++x :: T).set P.length y = P++y :: T:=by
 induction P with
 | nil=>rfl
 | cons a P ih=>exact congrArg (a :: ·) ih
theorem put_all (r:List Int):∀ (P Q:List Int),Q.length = r.length->putAll (P++Q) ((List.range' P.length r.length).zip r) = P++r:=by
 induction r with
 | nil=>intro P Q h;rw [List.length_eq_zero_iff.mp h];rfl
 | cons y r ih=>
  intro P Q h
  cases Q with
  | nil=>exact nomatch h
  | cons x Q=>
   have g:=ih (P++[y]) Q (Nat.succ.inj h)
   rw [List.length_append,List.append_assoc,List.append_assoc] at g
   show putAll (setZ (P++x :: Q) (P.length,y)) ((List.range' (P.length + 1) r.length).zip r) = _
   rw [show setZ (P++x :: Q) (P.length,y) = P++y :: Q from set_at P Q x y]
   exact g
section
variable (k:Nat) (ks:List C) (codes:List Nat) (h8:A8 ks) (hc:codes.length = ks.length) (hl:ks.length < 900) (w:Wd) {a b c d:V} (hD:nrs [a,b,c,d] = true) (kf:Nat->C) (hk:codes.map kf = ks) (r:List Int) (hr:r.length = ks.length)
include h8 hc hl hD hk hr
theorem bidi03 (h530:∀ k,∀ x ∈ codes,pureCall (F (k + 3)) 530 [dI a b c d,.str "bc",natV x] = some (kf x).v)
  (h417:pureCall (F (k + 7)) 417 [sqI (List.range' 0 ks.length) codes ks (baseOf w (fsl ks)) (emb (baseOf w (fsl ks))) (emb (baseOf w (fsl ks))),dI a b c d] = some (il r)) :
  pureCall (F (k + 9)) 432 [nl codes,dI a b c d,.str w.s] = some (il r):=by
 have lL:codes.length<=lim:=by rw [hc];exact Nat.le_of_lt (Nat.lt_trans hl (by decide))
 have h58:=pc58 (k + 6) ks w eD (fsl ks) rfl (pc44 (k + 5) ks h8) (pc51 (k + 5) ks h8 hl)
 have h30:=pc30 (k + 6) codes a b c d hD kf lL (h530 (k + 3))
 rw [hk] at h30
 generalize baseOf w (fsl ks) = base at h58 h417
 have h257:=pc257 (k + 6) codes a b c d hD lL w ks base (List.replicate ks.length base) (pc37 (k + 6) codes a b c d hD kf (h530 (k + 3))) h30 h58 (pc157 (k + 4) ks base h8 hl)
 refine pc432 (k + 8) codes a b c d hD w base ks (List.replicate ks.length base) r (hr.trans hc.symm ▸ lL) (fun z=>List.length_eq_zero_iff.mp (hr.trans (hc.symm.trans z))) h257 fun hn=>?_
 obtain ⟨m,hm⟩:∃ m,ks.length = m + 1:=⟨ks.length - 1,by omega⟩
 have hm9:m < 899:=by omega
 rw [hm] at h417 hr ⊢
 have h221:=pc221 (k + 3) ks codes base m h8 hm (hc.trans hm) hm9
 have h242:=pc242 (k + 6) codes base ks (List.replicate (m + 1) base) ks (.lst [sqI (List.range' 0 (m + 1)) codes ks base (emb base) (emb base)]) (Bool.and_eq_true_iff.mpr ⟨still_sqI (List.range' 0 (m + 1)) codes ks base (emb base) (emb base),rfl⟩) h221
 have h424:=pc424 (k + 7) codes base ks (List.replicate (m + 1) base) (dI a b c d) hD (by rw [List.length_replicate];exact Nat.le_of_lt (Nat.lt_trans (Nat.succ_lt_succ hm9) (by decide))) [⟨List.range' 0 (m + 1),codes,ks,base,emb base,emb base⟩] (fun _=>r) h242
  (fun q m=>by rw [List.mem_singleton.mp m];exact h417) (fun q hq i hi=>by
   rw [List.mem_singleton.mp hq] at hi
   obtain ⟨j,hj,e⟩:=List.mem_range'.mp hi
   rw [List.length_replicate];omega)
 rw [show [(⟨List.range' 0 (m + 1),codes,ks,base,emb base,emb base⟩:SQ)].foldl (fun f q=>putAll f (q.pl.zip r)) (List.replicate (m + 1) base) = r from by
  have g:=put_all r [] (List.replicate (m + 1) base) (by rw [List.length_replicate,hr])
  rw [hr] at g
  exact g] at h424
 exact h424
end
noncomputable def dmK (x:Nat):Option Bool->Nat
 | none=>x
 | some b=>dmN b
theorem pc341 (k:Nat) {a b c d:V} (hD:nrs [a,b,c,d] = true) (x:Nat) (o:Option Bool) (h:pureCall (F k) 530 [dI a b c d,.str "dm",natV x] = some (dmV o)):pureCall (F (k + 1)) 341 [natV x,dI a b c d] = some (natV (dmK x o)):=by
 have hg:=get_dI (k:=k) (x:=.str "dm") (y:=natV x) hD rfl h
 refine (pure_pfin (stp341 k _ _ _)).trans ?_
 cases o with
 | none=>exact B.pv rfl [.m hg] (by kernel_rfl)
 | some b=>exact B.pv rfl [.m hg] (by kernel_rfl)
noncomputable abbrev PL:=List (Nat × Nat)
noncomputable def lastB (q:Nat) (w:PL):Nat->Option Nat
 | 0=>none
 | j + 1=>if (w.getD j (0,0)).1 = q then some j else lastB q w j
noncomputable def pstC (q at':Nat) (F W:PL):Option Nat->PL × PL
 | none=>(F,W)
 | some j=>(F++[((W.getD j (0,0)).2,at')],W.take j)
noncomputable def pst (s:PL × PL) (at':Nat):Option Sg->PL × PL
 | none=>s
 | some g=>if g.op = true then (s.1,s.2++[(g.kd,at')]) else pstC g.kd at' s.1 s.2 (lastB g.kd s.2 s.2.length)
noncomputable def pgo:PL × PL->Nat->List (Option Sg)->PL × PL
 | s,_,[]=>s
 | s,k,o :: l=>pgo (pst s k o) (k + 1) l
structure PInv (k:Nat) (s:PL × PL):Prop where
 w:∀ p ∈ s.2,p.2 < k
 f:∀ p ∈ s.1,p.1 < p.2/\p.2 < k
 nd:s.1.Nodup
 lf:s.1.length<=k
 lw:s.2.length<=k
theorem lastB_lt {q:Nat} {w:PL}:∀ {n j:Nat},lastB q w n = some j->j < n:=by
 intro n
 induction n with
 | zero=>intro j h;exact no h
 | succ n ih=>
  intro j h
  unfold lastB at h
  by_cases z:(w.getD n (0,0)).1 = q
  ·rw [if_pos z] at h;rw [← Option.some.inj h];exact Nat.lt_succ_self n
  ·rw [if_neg z] at h;exact Nat.lt_succ_of_lt (ih h)
theorem PInv.up {k:Nat} {s:PL × PL} (h:PInv k s):PInv (k + 1) s:=⟨fun p m=>Nat.lt_succ_of_lt (h.w p m),fun p m=>⟨(h.f p m).1,Nat.lt_succ_of_lt (h.f p m).2⟩,h.nd,Nat.le_succ_of_le h.lf,Nat.le_succ_of_le h.lw⟩
theorem PInv.step {k:Nat} {s:PL × PL} (h:PInv k s) (o:Option Sg):PInv (k + 1) (pst s k o):=by
 cases o with
 | none=>exact h.up
 | some g=>
  show PInv (k + 1) (if g.op = true then (s.1,s.2++[(g.kd,k)]) else pstC g.kd k s.1 s.2 (lastB g.kd s.2 s.2.length))
  by_cases z:g.op = true
  ·rw [if_pos z]
   refine ⟨fun p m=>?_,h.up.f,h.nd,h.up.lf,by rw [List.length_append];exact Nat.succ_le_succ h.lw⟩
   rcases List.mem_append.mp m with m | m
   ·exact h.up.w p m
   ·rw [List.mem_singleton.mp m];exact Nat.lt_succ_self k
  ·rw [if_neg z]
   cases e:lastB g.kd s.2 s.2.length with
   | none=>exact h.up
   | some j=>
    have hj:=lastB_lt e
    have hm:s.2.getD j (0,0) ∈ s.2:=by
     rw [List.getD_eq_getElem?_getD,List.getElem?_eq_getElem hj];exact List.getElem_mem hj
    refine ⟨fun p m=>h.up.w p (List.mem_of_mem_take m),fun p m=>?_,?_,by show (s.1++[_]).length<=_;rw [List.length_append];exact Nat.succ_le_succ h.lf,Nat.le_trans (Nat.le_trans (Nat.le_of_eq List.length_take) (Nat.min_le_right _ _)) h.up.lw⟩
    ·rcases List.mem_append.mp m with m | m
     ·exact h.up.f p m
     ·rw [List.mem_singleton.mp m];exact ⟨h.w _ hm,Nat.lt_succ_self k⟩
    ·refine List.nodup_append.mpr ⟨h.nd,List.nodup_cons.mpr ⟨List.not_mem_nil,List.nodup_nil⟩,fun p hp q hq e=>?_⟩
     have:=(h.f p hp).2
     rw [e,List.mem_singleton.mp hq] at this
     exact Nat.lt_irrefl _ this
theorem PInv.go (l:List (Option Sg)):∀ {k:Nat} {s:PL × PL},PInv k s->PInv (k + l.length) (pgo s k l):=by
 induction l with
 | nil=>intro k s h;exact h
 | cons o l ih=>intro k s h;rw [List.length_cons,← Nat.add_assoc,Nat.add_right_comm];exact ih (h.step o)
theorem PInv.nil:PInv 0 ([],[]):=⟨(fun _ m=>nomatch m),(fun _ m=>nomatch m),List.nodup_nil,Nat.le_refl _,Nat.le_refl _⟩
noncomputable def zz (p:Nat × Nat):Int × Int:=((p.1:Int),(p.2:Int))
noncomputable def nsort (l:PL):PL:=(psort (l.map zz)).map fun p=>(p.1.toNat,p.2.toNat)
theorem zz_inj {a b:Nat × Nat} (h:zz a = zz b):a = b:=Prod.ext (Int.ofNat_inj.mp (congrArg Prod.fst h)) (Int.ofNat_inj.mp (congrArg Prod.snd h))
theorem psort_perm (l:List (Int × Int)):(psort l).Perm l:=List.mergeSort_perm l _
theorem mem_nsort {l:PL} {p:Nat × Nat} (h:p ∈ nsort l):p ∈ l:=by
 obtain ⟨q,hq,e⟩:=List.mem_map.mp h
 obtain ⟨r,hr,e2⟩:=List.mem_map.mp ((psort_perm _).mem_iff.mp hq)
 rw [← e,← e2];exact hr
theorem nsort_V (l:PL):(psort (l.map zz)).map prV = (nsort l).map pairV:=by
 unfold nsort
 rw [List.map_map]
 refine List.map_congr_left fun q hq=>?_
 obtain ⟨r,hr,e2⟩:=List.mem_map.mp ((psort_perm _).mem_iff.mp hq)
 rw [← e2];rfl
theorem prs_zz (l:PL):prsOf (l.map pairV) = some (l.map zz):=by
 induction l with
 | nil=>rfl
 | cons p l ih=>
  show (some (zz p)).bind (fun q=>(prsOf (l.map pairV)).map (q :: ·)) = _
  rw [ih];rfl
theorem sort_ok {n:Nat} {l:PL} {S:SS} (h:olook n S.ob = some (.list (l.map pairV))) (hn:l.Nodup) (hl:l.length < 64):sortM false (.ref n) S = some (.lst ((nsort l).map pairV),S):=by
 have e:listOf (.ref n) S.ob = some (l.map pairV):=by
  show (olook n S.ob).bind moL = _
  rw [h];rfl
 show (listOf (.ref n) S.ob).bind _ = _
 rw [e]
 show (prsOf (l.map pairV)).bind _ = _
 rw [prs_zz]
 refine (if_pos ⟨List.Pairwise.map zz (fun a b z y=>z (zz_inj y)) hn,by rw [List.length_map];exact hl⟩).trans ?_
 rw [nsort_V]
 refine if_pos ?_
 rw [List.length_map]
 unfold nsort
 rw [List.length_map,(psort_perm _).length_eq,List.length_map]
 exact Nat.le_of_lt (Nat.lt_trans hl (by decide))
structure H2 (ob:OB) (nx fi wi:Nat) (F W:List V):Prop where
 f:olook fi ob = some (.list F)
 w:olook wi ob = some (.list W)
 ne:fi ≠ wi
 lf:fi < nx
 lw:wi < nx
theorem olook_oset {n m:Nat} {o x:MO} {ob:OB} (h:olook n ob = some o):olook m (oset n x ob) = if m = n then some x else olook m ob:=by
 by_cases z:m = n
 ·rw [if_pos z,z];exact olook_oset_self h
 ·rw [if_neg z];exact olook_oset_ne z
theorem odrop_look {n m:Nat} {ob:OB} {x:MO} (z:m ≠ n) (h:olook m ob = some x):olook m (odrop n ob) = some x:=by
 induction ob with
 | nil=>exact no h
 | cons q ob ih=>
  rw [olook_cons] at h
  show olook m (if q.1 = n then odrop n ob else q :: odrop n ob) = _
  by_cases y:q.1 = n
  ·rw [if_pos y]
   rw [if_neg fun w=>z (w.symm.trans y)] at h
   exact ih h
  ·rw [if_neg y,olook_cons]
   by_cases w:q.1 = m
   ·rw [if_pos w] at h ⊢;exact h
   ·rw [if_neg w] at h ⊢;exact ih h
section
variable {ob:OB} {nx fi wi:Nat} {F W:List V} (h:H2 ob nx fi wi F W)
include h
theorem H2.appF (x:V):H2 (oset fi (.list (F++[x])) ob) nx fi wi (F++[x]) W:=⟨by rw [olook_oset h.f,if_pos rfl],by rw [olook_oset h.f,if_neg h.ne.symm];exact h.w,h.ne,h.lf,h.lw⟩
theorem H2.appW (x:V):H2 (oset wi (.list (W++[x])) ob) nx fi wi F (W++[x]):=⟨by rw [olook_oset h.w,if_neg h.ne];exact h.f,by rw [olook_oset h.w,if_pos rfl],h.ne,h.lf,h.lw⟩
theorem H2.cut (W':List V):H2 (odrop wi ((nx,.list W') :: ob)) (nx + 1) fi nx F W':=
 ⟨odrop_look h.ne (by rw [olook_cons,if_neg (Nat.ne_of_gt h.lf)];exact h.f),odrop_look (Nat.ne_of_gt h.lw) (by rw [olook_cons,if_pos rfl]),Nat.ne_of_lt h.lf,Nat.lt_succ_of_lt h.lf,Nat.lt_succ_self nx⟩
end
theorem drop_ref {i n m:Nat} {S:SS} (h:S.sl[i]? = some (some (.ref n))) (hn:m ≠ n):dropOld i (.ref m) S = odrop n S.ob:=by
 unfold dropOld
 rw [h]
 exact if_neg hn
noncomputable def oeMethQ (rc:Raw) (mt:Addr->Str->Option Addr) (k:MK) (x:B V) (l:List (B V)):B V:=⟨eMeth rc mt k x.f (l.map B.f),fun s=>(x.g s).bind fun p=>.opH (shapeOf k.name p.1 p.2.ob) fun sh=>(gSeq l p.2).bind fun q=>oq (methGo rc mt k p.1 sh q.1) q.2,B.bnd fun a s=>by
 show (shapeOf k.name a s.ob).bind (fun sh=>Fr.run _) = _
 cases shapeOf k.name a s.ob with
 | none=>rfl
 | some sh=>exact B.bnd (x:=oseq l) (fun as s=>oq_ok _ s) s⟩
theorem sh_list {n:Nat} {l:List V} {ob:OB} (nm:Str) (h:olook n ob = some (.list l)):shapeOf nm (.ref n) ob = some .list:=by
 show (olook n ob).bind _ = _
 rw [h];rfl
theorem go_app {rc:Raw} {mt:Addr->Str->Option Addr} {n:Nat} {l:List V} {x:V} {S:SS} (h:olook n S.ob = some (.list l)) (hl:l.length < lim):methGo rc mt .append (.ref n) .list [x] S = some (.none,⟨S.sl,oset n (.list (l++[x])) S.ob,S.nx⟩):=
 (go_list (sh_list _ h) h).trans (if_pos hl)
theorem len_ref {n:Nat} {l:List V} {S:SS} (h:olook n S.ob = some (.list l)):lenM (.ref n) S = some (.int (l.length:Int),S):=by
 show ((olook n S.ob).bind moL).map _ = _
 rw [h];rfl
theorem sub_ref {n j:Nat} {l:List V} {x:V} {S:SS} (h:olook n S.ob = some (.list l)) (hx:l[j]? = some x):sub (.ref n) (.int (j:Int)) S = some (x,S):=by
 show (olook n S.ob).bind _ = _
 rw [h]
 show ((place (j:Int) l.length).bind fun j=>l[j]?).map _ = _
 rw [place_nat (List.getElem?_eq_some_iff.mp hx).1]
 show (l[j]?).map _ = _
 rw [hx];rfl
theorem cut_ref {n j:Nat} {l:List V} {S:SS} (h:olook n S.ob = some (.list l)) (hj:j<=lim) (hl:l.length<=lim):slice true (.ref n) none (some (.int (j:Int))) S = some (.ref S.nx,⟨S.sl,(S.nx,.list (l.take j)) :: S.ob,S.nx + 1⟩):=by
 have e:listOf (.ref n) S.ob = some l:=by
  show (olook n S.ob).bind moL = _
  rw [h];rfl
 unfold slice
 rw [show bound none = some none from rfl,bound_nat hj]
 show (listOf (.ref n) S.ob).bind _ = _
 rw [e]
 exact if_pos (Nat.le_trans (Nat.le_of_eq List.length_take) (Nat.le_trans (Nat.min_le_right _ _) hl))
theorem getD_V {W:PL} {wV:Nat × Nat->V} {j:Nat} (h:j < W.length):(W.map wV)[j]? = some (wV (W.getD j (0,0))):=by
 rw [List.getElem?_map,List.getD_eq_getElem?_getD,List.getElem?_eq_getElem h];rfl
noncomputable def kyN:Nat->Nat
 | 0=>41
 | 1=>93
 | n + 2=>12297 + n
theorem kyN_inj {a b:Nat} (h:kyN a = kyN b):a = b:=by
 cases a with
 | zero=>cases b with
  | zero=>rfl
  | succ b=>cases b with
   | zero=>exact absurd h (by decide)
   | succ b=>have h:41 = 12297 + b:=h;omega
 | succ a=>cases a with
  | zero=>cases b with
   | zero=>exact absurd h (by decide)
   | succ b=>cases b with
    | zero=>rfl
    | succ b=>have h:93 = 12297 + b:=h;omega
  | succ a=>cases b with
   | zero=>have h:12297 + a = 41:=h;omega
   | succ b=>cases b with
    | zero=>have h:12297 + a = 93:=h;omega
    | succ b=>have h:12297 + a = 12297 + b:=h;omega
noncomputable def wV (p:Nat × Nat):V:=.tup [natV (kyN p.1),natV p.2]
noncomputable def nmV:Nat->V
 | 0=>.int (-1)
 | j + 1=>natV j
noncomputable def nmO:Option Nat->V
 | none=>.int (-1)
 | some j=>natV j
theorem nm_eq (j:Nat):V.int ((j:Int) - 1) = nmV j:=by
 cases j with
 | zero=>rfl
 | succ j=>exact congrArg V.int (by omega)
noncomputable def f348q (E:En):B Fl:=
 (osSeq (osAsg (.one 7) (oeIf (otCmp .Eq (oeSub (oeVar 1) (oeVar 5)) (okS "ON")) (oeMeth E.rc E.mt .get (oeVar 2) [(okS "bpb"),(oeVar 6)]) okN))
 (osSeq (osIf (otAll .And [(otCmp .IsNot (oeVar 7) okN),(otCmp .Eq (oeSub (oeVar 7) (okI 0)) (okS "o"))])
 (osSeq (osIf (otCmp .GtE (oeLen (oeVar 4)) (oeG (some (.int 63))))
 (osSeq osBrk
 osNext)
 osNext)
 (osSeq (osExp (oeMethQ E.rc E.mt .append (oeVar 4) [(oeTup [(oeCallP E.rc 341 [(oeSub (oeVar 7) (okI 1)),(oeVar 2)]),(oeVar 5)])]))
 osNext))
 (osSeq (osIf (otCmp .IsNot (oeVar 7) okN)
 (osSeq (osAsg (.one 8) (oeCallP E.rc 341 [(oeVar 6),(oeVar 2)]))
 (osSeq (osAsg (.one 9) (oeBin false .Sub (oeLen (oeVar 4)) (okI 1)))
 (osSeq (osWhile (t348_1 E) (w348_1 E))
 (osSeq (osIf (otCmp .GtE (oeVar 9) (okI 0))
 (osSeq (osExp (oeMethQ E.rc E.mt .append (oeVar 3) [(oeTup [(oeSub (oeSub (oeVar 4) (oeVar 9)) (okI 1)),(oeVar 5)])]))
 (osSeq (osAsg (.one 4) (oeSlice true (oeVar 4) none (some (oeVar 9))))
 osNext))
 osNext)
 osNext))))
 osNext)
 osNext))
 osNext))
theorem f348q_f (E:En):(f348_3 E).f = (f348q E).f:=seq_f _ (seq_g (if_f _ (seq_f _ (seq_g rfl rfl)) (seq_g (if_f _ (seq_f _ (seq_f _ (seq_f _ (seq_g (if_f _ (seq_g rfl rfl) rfl) rfl)))) rfl) rfl)) rfl)
section
variable (E:En) (cs:List Nat) (l:List C) (D:V)
noncomputable def st348 (fi wi:Nat) (o5 o6 o7 o8 o9:Option V) (ob:OB) (nx:Nat):SS:=⟨[some (nl cs),some (cl l),some D,some (.ref fi),some (.ref wi),o5,o6,o7,o8,o9,none,none,none,none,none],ob,nx⟩
theorem while348 {fi wi:Nat} {o5 o6 o7:Option V} {ob:OB} {nx:Nat} {F:List V} {W:PL} (h:H2 ob nx fi wi F (W.map wV)) (q:Nat) (j:Nat):∀ (n:Nat),j < n->j<=W.length->wh (t348_1 E).f (w348_1 E).f n (st348 cs l D fi wi o5 o6 o7 (some (natV (kyN q))) (some (nmV j)) ob nx) = some (.next,st348 cs l D fi wi o5 o6 o7 (some (natV (kyN q))) (some (nmO (lastB q W j))) ob nx):=by
 induction j with
 | zero=>
  intro n hn _
  cases n with
  | zero=>exact absurd hn (Nat.not_lt_zero _)
  | succ n=>exact wh_stop (B.by [.b0] (by kernel_rfl))
 | succ j ih=>
  intro n hn hj
  cases n with
  | zero=>exact absurd hn (Nat.not_lt_zero _)
  | succ n=>
   have hs:=sub_ref (S:=st348 cs l D fi wi o5 o6 o7 (some (natV (kyN q))) (some (natV j)) ob nx) h.w (getD_V (wV:=wV) hj)
   have hp:=qt (show (0:Int)<=(j:Int) from Int.natCast_nonneg j)
   show wh _ _ (n + 1) (st348 cs l D fi wi o5 o6 o7 (some (natV (kyN q))) (some (natV j)) ob nx) = _
   unfold lastB
   by_cases z:(W.getD j (0,0)).1 = q
   ·rw [if_pos z]
    exact wh_stop (B.by [.b hp,.s hs,.m0,.b (congrArg (Option.map (!·)) (qz (i:=(kyN (W.getD j (0,0)).1:Int)) (j:=(kyN q:Int)) (by rw [z])))] (by kernel_rfl))
   ·rw [if_neg z]
    have ht:(t348_1 E).f (st348 cs l D fi wi o5 o6 o7 (some (natV (kyN q))) (some (natV j)) ob nx) = some (true,st348 cs l D fi wi o5 o6 o7 (some (natV (kyN q))) (some (natV j)) ob nx):=
     B.by [.b hp,.s hs,.m0,.b (congrArg (Option.map (!·)) (qy (i:=(kyN (W.getD j (0,0)).1:Int)) (j:=(kyN q:Int)) fun y=>z (kyN_inj (Int.ofNat_inj.mp y))))] (by kernel_rfl)
    have hb:(w348_1 E).f (st348 cs l D fi wi o5 o6 o7 (some (natV (kyN q))) (some (natV j)) ob nx) = some (.next,st348 cs l D fi wi o5 o6 o7 (some (natV (kyN q))) (some (.int ((j:Int) - 1))) ob nx):=B.by [] (by kernel_rfl)
    rw [nm_eq] at hb
    exact (wh_next ht hb).trans (ih n (Nat.lt_of_succ_lt_succ hn) (Nat.le_of_succ_le hj))
end
inductive St348 (cs:List Nat) (l:List C) (D:V) (s:PL × PL):SS->Prop
 | mk (fi wi:Nat) (o5 o6 o7 o8 o9:Option V) (ob:OB) (nx:Nat) (n5:nf o5) (n6:nf o6) (n7:nf o7) (n8:nf o8) (n9:nf o9) (h:H2 ob nx fi wi (s.1.map pairV) (s.2.map wV)):St348 cs l D s (st348 cs l D fi wi o5 o6 o7 o8 o9 ob nx)
section
variable {k:Nat} {cs:List Nat} {l:List C} {a b c d:V} (hD:nrs [a,b,c,d] = true) {s:PL × PL} {S:SS} {at' x:Nat} {o:Option Sg} (P:PInv at' s) (h60:at' < 60) (hl:at' < l.length)
 (hbp:pureCall (F k) 530 [dI a b c d,.str "bpb",natV x] = some (brV o)) (hon:o ≠ none->cAt l at' = .ON)
 (hk1:∀ g,o = some g->g.op = true->pureCall (F k) 341 [natV g.mate,dI a b c d] = some (natV (kyN g.kd)))
 (hk2:∀ g,o = some g->g.op = false->pureCall (F k) 341 [natV x,dI a b c d] = some (natV (kyN g.kd))) (R:St348 cs l (dI a b c d) s S)
include hD P h60 hl hbp hon hk1 hk2 R
theorem step348:∃ S',(ontn (.many [5,6]) (enumN (at',x)) (f348_3 (en k))).f S = some (.next,S')/\St348 cs l (dI a b c d) (pst s at' o) S':=by
 rw [ontn_f (.many [5,6]) (enumN (at',x)) (f348q_f (en k))]
 obtain ⟨fi,wi,o5,o6,o7,o8,o9,ob,nx,n5,n6,n7,n8,n9,h⟩:=R
 have hs:=get_cl (l:=l) hl
 have hg:=get_dI (k:=k) (x:=.str "bpb") (y:=natV x) hD rfl hbp
 have big:∀ {n:Nat},n<=60->n < lim:=fun h=>Nat.lt_of_le_of_lt h (by decide)
 have lf:=Nat.le_trans P.lf (Nat.le_of_lt h60)
 have lw:=Nat.le_trans P.lw (Nat.le_of_lt h60)
 have lF:(s.1.map pairV).length < lim:=by rw [List.length_map];exact big lf
 have lW:(s.2.map wV).length < lim:=by rw [List.length_map];exact big lw
 cases o with
 | none=>
  have n:St348 cs l (dI a b c d) (pst s at' none) (st348 cs l (dI a b c d) fi wi (some (natV at')) (some (natV x)) (some .none) o8 o9 ob nx):=.mk _ _ _ _ _ _ _ _ _ rfl rfl rfl n8 n9 h
  by_cases z:cAt l at' = .ON
  ·exact ⟨_,B.by [.n n5,.n n6,.m hs,.b (qe z),.m hg,.n n7] (by kernel_rfl),n⟩
  ·exact ⟨_,B.by [.n n5,.n n6,.m hs,.b (qn z),.n n7] (by kernel_rfl),n⟩
 | some g=>
  have z:=hon (fun w=>nomatch w)
  cases hop:g.op with
  | true=>
   have hb:brV (some g) = .tup [.str "o",natV g.mate]:=by show V.tup [.str (ocS g.op),natV g.mate] = _;rw [hop];rfl
   rw [hb] at hg
   have hlen:=len_ref (S:=st348 cs l (dI a b c d) fi wi (some (natV at')) (some (natV x)) (some (.tup [.str "o",natV g.mate])) o8 o9 ob nx) h.w
   have ha:=go_app (rc:=(en k).rc) (mt:=(en k).mt) (x:=wV (g.kd,at')) (S:=st348 cs l (dI a b c d) fi wi (some (natV at')) (some (natV x)) (some (.tup [.str "o",natV g.mate])) o8 o9 ob nx) h.w lW
   have h2:=h.appW (wV (g.kd,at'))
   have e:pst s at' (some g) = (s.1,s.2++[(g.kd,at')]):=if_pos hop
   rw [e]
   refine ⟨_,B.by [.n n5,.n n6,.m hs,.b (qe z),.m hg,.n n7,.b0,.m0,.b0,.s hlen,.b (qf (show ¬ (63:Int)<=((s.2.map wV).length:Int) by rw [List.length_map];omega)),.h (sh_list (MK.name .append) h.w),.m0,.m (qc (l:=[natV g.mate,dI a b c d]) (Bool.and_eq_true_iff.mpr ⟨rfl,Bool.and_eq_true_iff.mpr ⟨hD,rfl⟩⟩) (hk1 g rfl hop)),.s ha] (by kernel_rfl),
    .mk fi wi (some (natV at')) (some (natV x)) (some (.tup [.str "o",natV g.mate])) o8 o9 (oset wi (.list (s.2.map wV++[wV (g.kd,at')])) ob) nx rfl rfl rfl n8 n9 ?_⟩
   show H2 _ _ _ _ _ ((s.2++[(g.kd,at')]).map wV)
   rw [List.map_append]
   exact h2
  | false=>
   have hb:brV (some g) = .tup [.str "c",natV g.mate]:=by show V.tup [.str (ocS g.op),natV g.mate] = _;rw [hop];rfl
   rw [hb] at hg
   have e:pst s at' (some g) = pstC g.kd at' s.1 s.2 (lastB g.kd s.2 s.2.length):=if_neg (by rw [hop];exact Bool.false_ne_true)
   rw [e]
   have hlen:=len_ref (S:=st348 cs l (dI a b c d) fi wi (some (natV at')) (some (natV x)) (some (.tup [.str "c",natV g.mate])) (some (natV (kyN g.kd))) o9 ob nx) h.w
   rw [List.length_map] at hlen
   have hw:=while348 (en k) cs l (dI a b c d) (o5:=some (natV at')) (o6:=some (natV x)) (o7:=some (.tup [.str "c",natV g.mate])) h g.kd s.2.length turns (Nat.lt_of_le_of_lt lw (by decide)) (Nat.le_refl _)
   rw [← nm_eq] at hw
   have hk:=qc (l:=[natV x,dI a b c d]) (Bool.and_eq_true_iff.mpr ⟨rfl,Bool.and_eq_true_iff.mpr ⟨hD,rfl⟩⟩) (hk2 g rfl hop)
   cases hj:lastB g.kd s.2 s.2.length with
   | none=>
    rw [hj] at hw
    exact ⟨_,B.by [.n n5,.n n6,.m hs,.b (qe z),.m hg,.n n7,.b0,.m0,.b0,.b0,.m hk,.n n8,.s hlen,.n n9,.f (f:=sWhile (t348_1 (en k)).f (w348_1 (en k)).f) hw,.b0] (by kernel_rfl),
     .mk fi wi (some (natV at')) (some (natV x)) (some (.tup [.str "c",natV g.mate])) (some (natV (kyN g.kd))) (some (.int (-1))) ob nx rfl rfl rfl rfl rfl h⟩
   | some j=>
    rw [hj] at hw
    have lj:=lastB_lt hj
    have hsub:=sub_ref (S:=st348 cs l (dI a b c d) fi wi (some (natV at')) (some (natV x)) (some (.tup [.str "c",natV g.mate])) (some (natV (kyN g.kd))) (some (natV j)) ob nx) h.w (getD_V (wV:=wV) lj)
    have ha:=go_app (rc:=(en k).rc) (mt:=(en k).mt) (x:=pairV ((s.2.getD j (0,0)).2,at')) (S:=st348 cs l (dI a b c d) fi wi (some (natV at')) (some (natV x)) (some (.tup [.str "c",natV g.mate])) (some (natV (kyN g.kd))) (some (natV j)) ob nx) h.f lF
    have h2:=h.appF (pairV ((s.2.getD j (0,0)).2,at'))
    have hc:=cut_ref (S:=st348 cs l (dI a b c d) fi wi (some (natV at')) (some (natV x)) (some (.tup [.str "c",natV g.mate])) (some (natV (kyN g.kd))) (some (natV j)) (oset fi (.list (s.1.map pairV++[pairV ((s.2.getD j (0,0)).2,at')])) ob) nx) (j:=j) h2.w (Nat.le_of_lt (Nat.lt_trans (Nat.lt_of_lt_of_le lj lw) (by decide))) (Nat.le_of_lt lW)
    have er:=B.by (b:=ontn (.many [5,6]) (enumN (at',x)) (f348q (en k))) (s:=st348 cs l (dI a b c d) fi wi o5 o6 o7 o8 o9 ob nx)
     (r:=(.next,⟨[some (nl cs),some (cl l),some (dI a b c d),some (.ref fi),some (.ref nx),some (natV at'),some (natV x),some (.tup [.str "c",natV g.mate]),some (natV (kyN g.kd)),some (natV j),none,none,none,none,none],
      dropOld 4 (.ref nx) (st348 cs l (dI a b c d) fi wi (some (natV at')) (some (natV x)) (some (.tup [.str "c",natV g.mate])) (some (natV (kyN g.kd))) (some (natV j)) ((nx,.list ((s.2.map wV).take j)) :: oset fi (.list (s.1.map pairV++[pairV ((s.2.getD j (0,0)).2,at')])) ob) (nx + 1)),nx + 1⟩))
     [.n n5,.n n6,.m hs,.b (qe z),.m hg,.n n7,.b0,.m0,.b0,.b0,.m hk,.n n8,.s hlen,.n n9,.f (f:=sWhile (t348_1 (en k)).f (w348_1 (en k)).f) hw,.b (qt (show (0:Int)<=(j:Int) from Int.natCast_nonneg j)),.h (sh_list (MK.name .append) h.f),.s hsub,.m0,.s ha,.s hc] (by kernel_rfl)
    rw [drop_ref (n:=wi) rfl (Nat.ne_of_gt h.lw)] at er
    refine ⟨_,er,.mk fi nx (some (natV at')) (some (natV x)) (some (.tup [.str "c",natV g.mate])) (some (natV (kyN g.kd))) (some (natV j)) _ (nx + 1) rfl rfl rfl rfl rfl ?_⟩
    show H2 _ _ _ _ ((s.1++[((s.2.getD j (0,0)).2,at')]).map pairV) ((s.2.take j).map wV)
    rw [List.map_append,List.map_take]
    exact h2.cut _
end
noncomputable def s00:PL × PL:=([],[])
noncomputable def prsL (os:List (Option Sg)):PL:=(pgo s00 0 os).1
inductive R348w (cs:List Nat) (l:List C) (D:V) (sg:Nat->Option Sg) (res:PL × PL):List (Nat × Nat)->SS->Prop
 | mk (j:Nat) (m:List Nat) (s:PL × PL) (S:SS) (P:PInv j s) (e:pgo s j (m.map sg) = res) (hn:j + m.length = cs.length) (hm:∀ x ∈ m,x ∈ cs) (ho:∀ p ∈ ensN j m,sg p.2 ≠ none->cAt l p.1 = .ON) (r:St348 cs l D s S):R348w cs l D sg res (ensN j m) S
theorem still_prs (l:PL):still (.lst (l.map pairV)) = true:=by
 induction l with
 | nil=>rfl
 | cons p l ih=>exact ih
theorem pc348 (k:Nat) (cs:List Nat) (l:List C) {a b c d:V} (hD:nrs [a,b,c,d] = true) (sg:Nat->Option Sg) (hl:cs.length = l.length) (h60:l.length < 60) (hb:∀ x ∈ cs,pureCall (F k) 530 [dI a b c d,.str "bpb",natV x] = some (brV (sg x))) (hsg:∀ x g,sg x = some g->x = g.code)
  (hk1:∀ x ∈ cs,∀ g:Sg,sg x = some g->g.op = true->pureCall (F k) 341 [natV g.mate,dI a b c d] = some (natV (kyN g.kd))) (hk2:∀ x ∈ cs,∀ g:Sg,sg x = some g->g.op = false->pureCall (F k) 341 [natV g.code,dI a b c d] = some (natV (kyN g.kd))) (ho:∀ p ∈ ensN 0 cs,sg p.2 ≠ none->cAt l p.1 = .ON) :
  pureCall (F (k + 1)) 348 [nl cs,cl l,dI a b c d] = some (.lst ((nsort (prsL (cs.map sg))).map pairV)):=by
 obtain ⟨S',e,r⟩:=loopI (t:=.many [5,6]) enumN (R348w cs l (dI a b c d) sg (pgo s00 0 (cs.map sg))) (b:=f348_3 (en k)) (fun p its S r=>by
  generalize hi:p :: its = xs at r
  obtain ⟨j,m,s,S,P,e,hn,hm,ho,r⟩:=r
  cases m with
  | nil=>exact nomatch hi
  | cons x m=>
   cases hi
   have hn:j + (m.length + 1) = cs.length:=hn
   have hj:j < l.length:=by omega
   obtain ⟨S',e',r'⟩:=step348 (o:=sg x) hD P (Nat.lt_trans hj h60) hj (hb x (hm x List.mem_cons_self)) (ho (j,x) List.mem_cons_self) (hk1 x (hm x List.mem_cons_self)) (fun g hg hop=>hsg x g hg ▸ hk2 x (hm x List.mem_cons_self) g hg hop) r
   exact ⟨S',e',.mk (j + 1) m _ S' (P.step (sg x)) e (by omega) (fun y q=>hm y (List.mem_cons_of_mem _ q)) (fun q w=>ho q (List.mem_cons_of_mem _ w)) r'⟩) (ensN 0 cs) _
  (.mk 0 cs s00 _ .nil rfl (Nat.zero_add _) (fun _ h=>h) ho (.mk 0 1 none none none none none [(1,.list []),(0,.list [])] 2 rfl rfl rfl rfl rfl ⟨rfl,rfl,by decide,by decide,by decide⟩))
 rw [← enum_nl] at e
 generalize hi:([]:List (Nat × Nat)) = xs at r
 obtain ⟨j,m,s,S,P,e',hn,_,_,r⟩:=r
 cases m with
 | cons _ _=>exact nomatch hi
 | nil=>
  have e':s = _:=e'
  obtain ⟨fi,wi,o5,o6,o7,o8,o9,ob,nx,_,_,_,_,_,h⟩:=r
  have hs:=sort_ok (S:=st348 cs l (dI a b c d) fi wi o5 o6 o7 o8 o9 ob nx) h.f P.nd (Nat.lt_of_le_of_lt P.lf (by have:j = cs.length:=hn;omega))
  unfold prsL
  rw [← e']
  exact (pure_pfin (stp348 k _ _ _ _)).trans (B.pv (v:=.lst ((nsort s.1).map pairV)) (still_prs _) [.f e,.s hs] (by kernel_rfl))
noncomputable def mV (p:Nat × Nat):V:=.tup [natV p.2,natV p.1]
noncomputable def sgV:Option Sg->V
 | none=>.none
 | some g=>.tup [natV g.code,.str (ocS g.op),natV g.kd]
noncomputable def enz {α:Type}:Nat->List α->List (Nat × α)
 | _,[]=>[]
 | k,c :: l=>(k,c) :: enz (k + 1) l
noncomputable def enV {α:Type} (f:α->V) (p:Nat × α):V:=.tup [natV p.1,f p.2]
theorem enum_map {α:Type} (f:α->V) (l:List α):∀ k,enum k (l.map f) = (enz k l).map (enV f):=by
 induction l with
 | nil=>intro k;rfl
 | cons c l ih=>intro k;exact congrArg (enV f (k,c) :: ·) (ih (k + 1))
inductive CStep {α:Type} (t:Tg) (tb:B Bool) (b:B V) (val:α->V) (p:α->Bool) (g:α->V) (R:SS->Prop) (a:α) (S:SS):Prop
 | mk (S1:SS) (h:(oput t (val a)).f S = some ((),S1)) (e:tb.f S1 = some (p a,S1)) (r:R S1) (q:p a = true->b.f S1 = some (g a,S1))
theorem compGo_F {α:Type} {t:Tg} {tb:B Bool} {b:B V} (val:α->V) (p:α->Bool) (g:α->V) (R:SS->Prop) (l:List α):(∀ a ∈ l,∀ S,R S->CStep t tb b val p g R a S)->∀ S,R S->∃ S',compGo t [tb.f] b.f (l.map val) S = some ((l.filter p).map g,S')/\R S':=by
 induction l with
 | nil=>intro _ S h;exact ⟨S,rfl,h⟩
 | cons a l ih=>
  intro st S h
  obtain ⟨S1,h1,e1,r1,q1⟩:=st a List.mem_cons_self S h
  obtain ⟨S2,e2,h2⟩:=ih (fun a m=>st a (List.mem_cons_of_mem _ m)) S1 r1
  refine ⟨S2,(bnd_eq (f:=putT t (val a)) h1).trans ?_,h2⟩
  cases z:p a with
  | true=>
   rw [z] at e1
   rw [List.filter_cons_of_pos z]
   exact (bnd_eq (f:=tests [tb.f]) ((bnd_eq e1).trans rfl)).trans ((bnd_eq (q1 z)).trans ((bnd_eq e2).trans rfl))
  | false=>
   rw [z] at e1
   rw [List.filter_cons_of_neg (by rw [z];exact Bool.false_ne_true)]
   exact (bnd_eq (f:=tests [tb.f]) ((bnd_eq e1).trans rfl)).trans e2
theorem comp_F {α:Type} {t:Tg} {tb:B Bool} {b:B V} {q:Option Nat} {pr:Bool} {cp:List (Option Nat)} {S:SS} (val:α->V) (p:α->Bool) (g:α->V) (R:SS->Prop) (l:List α) (ht:t.fits pr = true) (hv:nrs (l.map val) = true) (hg:compOk q ((l.filter p).map g) = true) (hl:l.length<=lim)
  (st:∀ a ∈ l,∀ S,R S->CStep t tb b val p g R a S) (h:R ⟨inner cp S.sl,[],0⟩):compM false cp t (l.map val,q,pr) [tb.f] b.f S = some (.lst ((l.filter p).map g),S):=by
 obtain ⟨S',e,_⟩:=compGo_F val p g R l st _ h
 have k:compRun cp t (l.map val,q,pr) [tb.f] b.f S.sl = some ((l.filter p).map g):=by
  refine (if_pos (Bool.and_eq_true_iff.mpr ⟨hv,ht⟩)).trans ?_
  rw [e]
  exact if_pos hg
 show (compRun cp t (l.map val,q,pr) [tb.f] b.f S.sl).bind _ = _
 rw [k]
 exact if_pos (by rw [List.length_map];exact Nat.le_trans (List.length_filter_le _ _) hl)
theorem scals_nats {α:Type} (f:α->Nat) (l:List α):scals (l.map fun a=>natV (f a)) = true:=by
 induction l with
 | nil=>rfl
 | cons a l ih=>exact ih
theorem nrs_map {α:Type} {f:α->V} (h:∀ a,nr (f a) = true) (l:List α):nrs (l.map f) = true:=by
 induction l with
 | nil=>rfl
 | cons a l ih=>exact Bool.and_eq_true_iff.mpr ⟨h a,ih⟩
theorem enz_len {α:Type} (l:List α):∀ k,(enz k l).length = l.length:=by
 induction l with
 | nil=>intro k;rfl
 | cons a l ih=>intro k;exact congrArg (· + 1) (ih _)
theorem enz_app {α:Type} (l r:List α):∀ k,enz k (l++r) = enz k l++enz (k + l.length) r:=by
 induction l with
 | nil=>intro k;rfl
 | cons c l ih=>
  intro k
  show (k,c) :: enz (k + 1) (l++r) = (k,c) :: (enz (k + 1) l++enz (k + (l.length + 1)) r)
  rw [ih (k + 1),Nat.add_assoc k 1,Nat.add_comm 1]
noncomputable def isK (q:Nat) (a:Nat × Nat × Nat):Bool:=decide (a.2.1 = q)
noncomputable def spots (q:Nat) (W:PL):List Nat:=((enz 0 W).filter (isK q)).map (·.1)
theorem spots_last (q:Nat) (W:PL):∀ n,n<=W.length->(spots q (W.take n)).getLast? = lastB q W n:=by
 intro n
 induction n with
 | zero=>intro _;rfl
 | succ n ih=>
  intro hn
  have e:W.take (n + 1) = W.take n++[W.getD n (0,0)]:=by
   rw [List.take_succ_eq_append_getElem hn,List.getD_eq_getElem?_getD,List.getElem?_eq_getElem hn];rfl
  have ln:(W.take n).length = n:=by rw [List.length_take];exact Nat.min_eq_left (Nat.le_of_succ_le hn)
  unfold spots lastB
  rw [e,enz_app,List.filter_append,List.map_append,Nat.zero_add,ln]
  show (((enz 0 (W.take n)).filter (isK q)).map (·.1)++([(n,W.getD n (0,0))].filter (isK q)).map (·.1)).getLast? = _
  by_cases z:(W.getD n (0,0)).1 = q
  ·rw [if_pos z,List.filter_cons_of_pos (show isK q (n,W.getD n (0,0)) = true from decide_eq_true z)]
   exact List.getLast?_concat
  ·rw [if_neg z,List.filter_cons_of_neg (show ¬ isK q (n,W.getD n (0,0)) = true from fun y=>z (of_decide_eq_true y))]
   rw [show ([]:List (Nat × Nat × Nat)).filter (isK q) = [] from rfl,List.map_nil,List.append_nil]
   exact ih (Nat.le_of_succ_le hn)
theorem comp596 (E:En) (W:PL) (g:Sg) (hl:W.length<=lim) (n:Nat) {S:SS} (hs:inner [none,none,none,some 4] S.sl = [none,none,none,some (sgV (some g))]):compM false [none,none,none,some 4] (.many [1,2]) (enum 0 (W.map mV),some n,true) [(otCmp .Eq (oeSub (oeVar 2) (okI 1)) (oeSub (oeVar 3) (okI 2))).f] (oeVar 1).f S = some (nl (spots g.kd W),S):=by
 rw [enum_map]
 have h:=comp_F (t:=.many [1,2]) (tb:=otCmp .Eq (oeSub (oeVar 2) (okI 1)) (oeSub (oeVar 3) (okI 2))) (b:=oeVar 1) (q:=some n) (pr:=true) (cp:=[none,none,none,some 4]) (S:=S) (enV mV) (isK g.kd) (fun a=>natV a.1) (fun S=>∃ o1 o2,nf o1/\nf o2/\S = ⟨[none,o1,o2,some (sgV (some g))],[],0⟩) (enz 0 W) rfl (nrs_map (fun _=>rfl) _) (scals_nats (fun a:Nat × Nat × Nat=>a.1) _) (by rw [enz_len];exact hl)
  (fun a _ S ⟨o1,o2,n1,n2,hS⟩=>by
   subst hS
   refine ⟨⟨[none,some (natV a.1),some (mV a.2),some (sgV (some g))],[],0⟩,B.by [.n n1,.n n2] (by kernel_rfl),?_,⟨_,_,rfl,rfl,rfl⟩,fun _=>rfl⟩
   unfold isK
   by_cases z:a.2.1 = g.kd
   ·rw [decide_eq_true z]
    exact B.by [.m0,.m0,.b (qz (i:=(a.2.1:Int)) (j:=(g.kd:Int)) (by rw [z]))] (by kernel_rfl)
   ·rw [decide_eq_false z]
    exact B.by [.m0,.m0,.b (qy (i:=(a.2.1:Int)) (j:=(g.kd:Int)) fun y=>z (Int.ofNat_inj.mp y))] (by kernel_rfl)) ⟨none,none,rfl,rfl,by rw [hs]⟩
 refine h.trans ?_
 unfold nl spots
 rw [List.map_map];rfl
noncomputable def oeQ (b:B V):B V:=⟨b.f,oq b.f,oq_ok b.f⟩
noncomputable def c596 (E:En):B V:=oeComp false [none,none,none,some 4] (.many [1,2]) (osrcEnu (oeVar 1)) [(otCmp .Eq (oeSub (oeVar 2) (okI 1)) (oeSub (oeVar 3) (okI 2)))] (oeVar 1)
noncomputable def g596 (E:En):B Fl:=
 (osSeq (osIf (otAll .And [(otCmp .IsNot (oeVar 4) okN),(otCmp .Eq (oeSub (oeVar 4) (okI 1)) (okS "o"))])
 (osSeq (osExp (oeMethQ E.rc E.mt .append (oeVar 1) [(oeTup [(oeVar 3),(oeSub (oeVar 4) (okI 2))])]))
 osNext)
 (osSeq (osIf (otCmp .IsNot (oeVar 4) okN)
 (osSeq (osAsg (.one 5) (oeQ (c596 E)))
 (osSeq (osIf (otCmp .NotEq (oeVar 5) (oeList false []))
 (osSeq (osExp (oeMethQ E.rc E.mt .append (oeVar 2) [(oeTup [(oeSub (oeSub (oeVar 1) (oeSub (oeVar 5) (oeNeg (okI 1)))) (okI 0)),(oeVar 3)])]))
 (osSeq (osAsg (.one 1) (oeSlice true (oeVar 1) none (some (oeSub (oeVar 5) (oeNeg (okI 1))))))
 osNext))
 osNext)
 osNext))
 osNext)
 osNext))
 osNext)
noncomputable def st596 (sgs:V) (fi wi:Nat) (o3 o4 o5:Option V) (ob:OB) (nx:Nat):SS:=⟨[some sgs,some (.ref wi),some (.ref fi),o3,o4,o5,none,none],ob,nx⟩
inductive St596 (sgs:V) (s:PL × PL):SS->Prop
 | mk (fi wi:Nat) (o3 o4 o5:Option V) (ob:OB) (nx:Nat) (n3:nf o3) (n4:nf o4) (n5:nf o5) (h:H2 ob nx fi wi (s.1.map pairV) (s.2.map mV)):St596 sgs s (st596 sgs fi wi o3 o4 o5 ob nx)
theorem step596 (E:En) {sgs:V} {s:PL × PL} {S:SS} {at':Nat} {o:Option Sg} (P:PInv at' s) (h60:at' < 60) (R:St596 sgs s S):∃ S',(ontn (.many [3,4]) (enV sgV (at',o)) (f596_1 E)).f S = some (.next,S')/\St596 sgs (pst s at' o) S':=by
 show ∃ S',(ontn (.many [3,4]) (enV sgV (at',o)) (g596 E)).f S = some (.next,S')/\St596 sgs (pst s at' o) S'
 obtain ⟨fi,wi,o3,o4,o5,ob,nx,n3,n4,n5,h⟩:=R
 have big:∀ {n:Nat},n<=60->n < lim:=fun h=>Nat.lt_of_le_of_lt h (by decide)
 have lf:=Nat.le_trans P.lf (Nat.le_of_lt h60)
 have lw:=Nat.le_trans P.lw (Nat.le_of_lt h60)
 have lF:(s.1.map pairV).length < lim:=by rw [List.length_map];exact big lf
 have lW:(s.2.map mV).length < lim:=by rw [List.length_map];exact big lw
 cases o with
 | none=>exact ⟨_,B.by [.n n3,.n n4] (by kernel_rfl),.mk fi wi (some (natV at')) (some .none) o5 ob nx rfl rfl n5 h⟩
 | some g=>
  cases hop:g.op with
  | true=>
   have hb:enV sgV (at',some g) = .tup [natV at',.tup [natV g.code,.str "o",natV g.kd]]:=by show V.tup [natV at',.tup [natV g.code,.str (ocS g.op),natV g.kd]] = _;rw [hop];rfl
   rw [hb,show pst s at' (some g) = (s.1,s.2++[(g.kd,at')]) from if_pos hop]
   have ha:=go_app (rc:=E.rc) (mt:=E.mt) (x:=mV (g.kd,at')) (S:=st596 sgs fi wi (some (natV at')) (some (.tup [natV g.code,.str "o",natV g.kd])) o5 ob nx) h.w lW
   have h2:=h.appW (mV (g.kd,at'))
   refine ⟨_,B.by [.n n3,.n n4,.b0,.m0,.b0,.h (sh_list (MK.name .append) h.w),.m0,.s ha] (by kernel_rfl),.mk fi wi (some (natV at')) (some (.tup [natV g.code,.str "o",natV g.kd])) o5 (oset wi (.list (s.2.map mV++[mV (g.kd,at')])) ob) nx rfl rfl n5 ?_⟩
   show H2 _ _ _ _ _ ((s.2++[(g.kd,at')]).map mV)
   rw [List.map_append]
   exact h2
  | false=>
   have hb0:sgV (some g) = .tup [natV g.code,.str "c",natV g.kd]:=by show V.tup [natV g.code,.str (ocS g.op),natV g.kd] = _;rw [hop];rfl
   have hb:enV sgV (at',some g) = .tup [natV at',.tup [natV g.code,.str "c",natV g.kd]]:=congrArg (fun v=>V.tup [natV at',v]) hb0
   rw [hb,show pst s at' (some g) = pstC g.kd at' s.1 s.2 (lastB g.kd s.2 s.2.length) from if_neg (by rw [hop];exact Bool.false_ne_true)]
   have hc:(c596 E).f (st596 sgs fi wi (some (natV at')) (some (.tup [natV g.code,.str "c",natV g.kd])) o5 ob nx) = some (nl (spots g.kd s.2),st596 sgs fi wi (some (natV at')) (some (.tup [natV g.code,.str "c",natV g.kd])) o5 ob nx):=by
    have e1:(osrcEnu (oeVar 1)).f (st596 sgs fi wi (some (natV at')) (some (.tup [natV g.code,.str "c",natV g.kd])) o5 ob nx) = some ((enum 0 (s.2.map mV),some wi,true),st596 sgs fi wi (some (natV at')) (some (.tup [natV g.code,.str "c",natV g.kd])) o5 ob nx):=by
     refine (bnd_eq (f:=eVar 1) (g:=enuM) (S:=(st596 sgs fi wi (some (natV at')) (some (.tup [natV g.code,.str "c",natV g.kd])) o5 ob nx)) (S1:=(st596 sgs fi wi (some (natV at')) (some (.tup [natV g.code,.str "c",natV g.kd])) o5 ob nx)) (a:=.ref wi) rfl).trans ?_
     show (((olook wi ob).bind moL).map (·,some wi)).map _ = _
     rw [h.w];rfl
    exact (bnd_eq e1).trans (comp596 E s.2 g (Nat.le_of_lt (big lw)) wi (S:=st596 sgs fi wi (some (natV at')) (some (.tup [natV g.code,.str "c",natV g.kd])) o5 ob nx) (by rw [hb0];rfl))
   have hsp:=spots_last g.kd s.2 s.2.length (Nat.le_refl _)
   rw [List.take_length] at hsp
   cases hj:lastB g.kd s.2 s.2.length with
   | none=>
    rw [hj] at hsp
    rw [List.getLast?_eq_none_iff.mp hsp] at hc
    exact ⟨_,B.by [.n n3,.n n4,.b0,.m0,.b0,.b0,.s hc,.n n5,.b0] (by kernel_rfl),.mk fi wi (some (natV at')) (some (.tup [natV g.code,.str "c",natV g.kd])) (some (.lst [])) ob nx rfl rfl rfl h⟩
   | some j=>
    rw [hj] at hsp
    have lj:=lastB_lt hj
    obtain ⟨sp,esp⟩:=List.getLast?_eq_some_iff.mp hsp
    rw [esp,show nl (sp++[j]) = .lst (sp.map natV++[natV j]) from congrArg V.lst List.map_append] at hc
    have hne:cmpv .NotEq (.lst (sp.map natV++[natV j])) (.lst []) ob = some true:=by
     show (veqL (sp.map natV++[natV j]) []).map (!·) = _
     cases sp <;> rfl
    have hsub:=sub_ref (S:=st596 sgs fi wi (some (natV at')) (some (.tup [natV g.code,.str "c",natV g.kd])) (some (.lst (sp.map natV++[natV j]))) ob nx) h.w (getD_V (wV:=mV) lj)
    have ha:=go_app (rc:=E.rc) (mt:=E.mt) (x:=pairV ((s.2.getD j (0,0)).2,at')) (S:=st596 sgs fi wi (some (natV at')) (some (.tup [natV g.code,.str "c",natV g.kd])) (some (.lst (sp.map natV++[natV j]))) ob nx) h.f lF
    have h2:=h.appF (pairV ((s.2.getD j (0,0)).2,at'))
    have hcut:=cut_ref (S:=st596 sgs fi wi (some (natV at')) (some (.tup [natV g.code,.str "c",natV g.kd])) (some (.lst (sp.map natV++[natV j]))) (oset fi (.list (s.1.map pairV++[pairV ((s.2.getD j (0,0)).2,at')])) ob) nx) (j:=j) h2.w (Nat.le_of_lt (Nat.lt_trans (Nat.lt_of_lt_of_le lj lw) (by decide))) (Nat.le_of_lt lW)
    have hend:=lst_end (l:=sp.map natV) (x:=natV j)
    have er:=B.by (b:=ontn (.many [3,4]) (.tup [natV at',.tup [natV g.code,.str "c",natV g.kd]]) (g596 E)) (s:=st596 sgs fi wi o3 o4 o5 ob nx)
     (r:=(.next,⟨[some sgs,some (.ref nx),some (.ref fi),some (natV at'),some (.tup [natV g.code,.str "c",natV g.kd]),some (.lst (sp.map natV++[natV j])),none,none],
      dropOld 1 (.ref nx) (st596 sgs fi wi (some (natV at')) (some (.tup [natV g.code,.str "c",natV g.kd])) (some (.lst (sp.map natV++[natV j]))) ((nx,.list ((s.2.map mV).take j)) :: oset fi (.list (s.1.map pairV++[pairV ((s.2.getD j (0,0)).2,at')])) ob) (nx + 1)),nx + 1⟩))
     [.n n3,.n n4,.b0,.m0,.b0,.b0,.s hc,.n n5,.b hne,.h (sh_list (MK.name .append) h.f),.m hend,.s hsub,.m0,.s ha,.m hend,.s hcut] (by kernel_rfl)
    rw [drop_ref (n:=wi) rfl (Nat.ne_of_gt h.lw)] at er
    refine ⟨_,er,.mk fi nx (some (natV at')) (some (.tup [natV g.code,.str "c",natV g.kd])) (some (.lst (sp.map natV++[natV j]))) _ (nx + 1) rfl rfl rfl ?_⟩
    show H2 _ _ _ _ ((s.1++[((s.2.getD j (0,0)).2,at')]).map pairV) ((s.2.take j).map mV)
    rw [List.map_append,List.map_take]
    exact h2.cut _
inductive R596 (sgs:V) (res:PL × PL) (n:Nat):List (Nat × Option Sg)->SS->Prop
 | mk (j:Nat) (m:List (Option Sg)) (s:PL × PL) (S:SS) (P:PInv j s) (e:pgo s j m = res) (hn:j + m.length = n) (r:St596 sgs s S):R596 sgs res n (enz j m) S
theorem pc596 (k:Nat) (os:List (Option Sg)) (h60:os.length < 60):pureCall (F (k + 1)) 596 [.lst (os.map sgV)] = some (.lst ((nsort (prsL os)).map pairV)):=by
 obtain ⟨S',e,r⟩:=loopI (t:=.many [3,4]) (enV sgV) (R596 (.lst (os.map sgV)) (pgo s00 0 os) os.length) (b:=f596_1 (en k)) (fun p its S r=>by
  generalize hi:p :: its = xs at r
  obtain ⟨j,m,s,S,P,e,hn,r⟩:=r
  cases m with
  | nil=>exact nomatch hi
  | cons x m=>
   cases hi
   have hn:j + (m.length + 1) = os.length:=hn
   obtain ⟨S',e',r'⟩:=step596 (en k) (o:=x) P (by omega) r
   exact ⟨S',e',.mk (j + 1) m _ S' (P.step x) e (by omega) r'⟩) (enz 0 os) _
  (.mk 0 os s00 _ .nil rfl (Nat.zero_add _) (.mk 1 0 none none none [(1,.list []),(0,.list [])] 2 rfl rfl rfl ⟨rfl,rfl,by decide,by decide,by decide⟩))
 rw [← enum_map] at e
 generalize hi:([]:List (Nat × Option Sg)) = xs at r
 obtain ⟨j,m,s,S,P,e',hn,r⟩:=r
 cases m with
 | cons _ _=>exact nomatch hi
 | nil=>
  have e':s = _:=e'
  obtain ⟨fi,wi,o3,o4,o5,ob,nx,_,_,_,h⟩:=r
  have hs:=sort_ok (S:=st596 (.lst (os.map sgV)) fi wi o3 o4 o5 ob nx) h.f P.nd (Nat.lt_of_le_of_lt P.lf (by have:j = os.length:=hn;omega))
  unfold prsL
  rw [← e']
  exact (pure_pfin (stp596 k _ _)).trans (B.pv (v:=.lst ((nsort s.1).map pairV)) (still_prs _) [.f e,.s hs] (by kernel_rfl))
noncomputable def nearW (A:List C) (m:C):C:=(A.filterMap strong).getLastD m
noncomputable def dirB (f:List C) (own sos:C) (p:Nat × Nat):Option C:=if own ∈ ((f.take p.2).drop (p.1 + 1)).filterMap strong then some own else if ((f.take p.2).drop (p.1 + 1)).filterMap strong = [] then none else some (nearW (f.take p.1) sos)
theorem forL_ret {t:Tg} {b:B Fl} {v x:V} {r:List V} {S S1:SS} (h:(ontn t v b).f S = some (.ret x,S1)):forL t b.f (v :: r) S = some (.ret x,S1):=by
 obtain ⟨u,S2,h1,h2⟩:=bnd_some (show bnd (putT t v) (fun _=>b.f) S = some (.ret x,S1) from h)
 exact (bnd_eq h1).trans ((bnd_eq h2).trans rfl)
noncomputable def st376 (cls pr lv:V) (sos own:C) (h:Bool) (o6 o7:Option V):SS:=⟨[some cls,some pr,some lv,some sos.v,some own.v,some (.bool h),o6,o7,none,none],[],0⟩
inductive Re376 (cls pr lv:V) (sos own:C) (X:List C) (h:Bool):Fl × SS->Prop
 | ret (m:own ∈ X.filterMap strong) (S:SS):Re376 cls pr lv sos own X h (.ret own.v,S)
 | next (m:own ∉ X.filterMap strong) (h':Bool) (o6 o7:Option V) (n6:nf o6) (n7:nf o7) (e:h' = (h || !(X.filterMap strong).isEmpty)):Re376 cls pr lv sos own X h (.next,st376 cls pr lv sos own h' o6 o7)
theorem loop376a (k:Nat) (cls pr lv:V) (sos own:C) (X:List C):∀ (h:Bool) (o6 o7:Option V),nf o6->nf o7->∃ r,forL (.one 6) (f376_2 (en (k + 1))).f (vs X) (st376 cls pr lv sos own h o6 o7) = some r/\Re376 cls pr lv sos own X h r:=by
 induction X with
 | nil=>intro h o6 o7 n6 n7;exact ⟨_,rfl,.next List.not_mem_nil h o6 o7 n6 n7 (Bool.or_false h).symm⟩
 | cons c X ih=>
  intro h o6 o7 n6 n7
  have q:=pc362 k c
  rw [strongV_eq] at q
  have q:=qc (l:=[c.v]) rfl q
  cases z:strong c with
  | none=>
   rw [z] at q
   have e:(ontn (.one 6) c.v (f376_2 (en (k + 1)))).f (st376 cls pr lv sos own h o6 o7) = some (.next,st376 cls pr lv sos own h (some c.v) (some .none)):=by
    cases h <;> exact B.by [.n n6,.m q,.n n7] (by kernel_rfl)
   obtain ⟨r,e2,R⟩:=ih h (some c.v) (some .none) rfl rfl
   refine ⟨r,(forL_cons e).trans e2,?_⟩
   cases R with
   | ret m S=>exact .ret (by rw [List.filterMap_cons_none z];exact m) S
   | next m h' o6 o7 n6 n7 e=>exact .next (by rw [List.filterMap_cons_none z];exact m) h' o6 o7 n6 n7 (by rw [List.filterMap_cons_none z];exact e)
  | some d=>
   rw [z] at q
   by_cases y:d = own
   ·refine ⟨_,forL_ret (S1:=st376 cls pr lv sos own h (some c.v) (some d.v)) (B.by [.n n6,.m q,.n n7,.b (qe y)] (by kernel_rfl)),.ret (by rw [List.filterMap_cons_some z,y];exact List.mem_cons_self) _⟩
   ·have e:(ontn (.one 6) c.v (f376_2 (en (k + 1)))).f (st376 cls pr lv sos own h o6 o7) = some (.next,st376 cls pr lv sos own true (some c.v) (some d.v)):=by
     cases h <;> exact B.by [.n n6,.m q,.n n7,.b (qn y)] (by kernel_rfl)
    obtain ⟨r,e2,R⟩:=ih true (some c.v) (some d.v) rfl rfl
    refine ⟨r,(forL_cons e).trans e2,?_⟩
    cases R with
    | ret m S=>exact .ret (by rw [List.filterMap_cons_some z];exact List.mem_cons_of_mem _ m) S
    | next m h' o6 o7 n6 n7 e=>exact .next (by rw [List.filterMap_cons_some z];exact fun w=>(List.mem_cons.mp w).elim (fun w=>y w.symm) m) h' o6 o7 n6 n7 (by rw [List.filterMap_cons_some z,e];exact (Bool.or_true h).symm)
theorem loop376b (k:Nat) (cls pr lv:V) (sos own:C) (X:List C):∀ (o6 o7:Option V),nf o6->nf o7->(∃ d S,(X.filterMap strong).head? = some d/\forL (.one 6) (f376_1 (en (k + 1))).f (vs X) (st376 cls pr lv sos own true o6 o7) = some (.ret d.v,S)) ∨ (∃ o6' o7',(X.filterMap strong).head? = none/\forL (.one 6) (f376_1 (en (k + 1))).f (vs X) (st376 cls pr lv sos own true o6 o7) = some (.next,st376 cls pr lv sos own true o6' o7')):=by
 induction X with
 | nil=>intro o6 o7 n6 n7;exact .inr ⟨o6,o7,rfl,rfl⟩
 | cons c X ih=>
  intro o6 o7 n6 n7
  have q:=pc362 k c
  rw [strongV_eq] at q
  have q:=qc (l:=[c.v]) rfl q
  cases z:strong c with
  | none=>
   rw [z] at q
   have e:(ontn (.one 6) c.v (f376_1 (en (k + 1)))).f (st376 cls pr lv sos own true o6 o7) = some (.next,st376 cls pr lv sos own true (some c.v) (some .none)):=B.by [.n n6,.m q,.n n7] (by kernel_rfl)
   rw [List.filterMap_cons_none z]
   rcases ih (some c.v) (some .none) rfl rfl with ⟨d,S,h1,h2⟩ | ⟨o6',o7',h1,h2⟩
   ·exact .inl ⟨d,S,h1,(forL_cons e).trans h2⟩
   ·exact .inr ⟨o6',o7',h1,(forL_cons e).trans h2⟩
  | some d=>
   rw [z] at q
   rw [List.filterMap_cons_some z]
   exact .inl ⟨d,_,rfl,forL_ret (S1:=st376 cls pr lv sos own true (some c.v) (some d.v)) (B.by [.n n6,.m q,.n n7] (by kernel_rfl))⟩
theorem cut_cl {f:List C} {lo hi:Option V} {x y:Option Nat} (h1:bound lo = some x) (h2:bound hi = some y) (hl:f.length<=lim) (S:SS):slice false (cl f) lo hi S = some (cl (cut f x y),S):=by
 have e:cut (vs f) x y = vs (cut f x y):=by
  unfold cut vs
  cases y with
  | none=>exact List.map_drop.symm
  | some y=>show ((f.map C.v).take y).drop _ = ((f.take y).drop _).map C.v;rw [List.map_drop,List.map_take]
 unfold cl
 rw [slice_lst false (vs f) lo hi S h1 h2,e]
 refine if_pos ?_
 rw [vs_len]
 refine Nat.le_trans ?_ hl
 unfold cut
 rw [List.length_drop]
 refine Nat.le_trans (Nat.sub_le _ _) ?_
 cases y with
 | none=>exact Nat.le_refl _
 | some y=>exact Nat.le_trans (Nat.le_of_eq List.length_take) (Nat.min_le_right _ _)
theorem near_rev (A:List C) (m:C):nearW A m = ((A.reverse.filterMap strong).head?).getD m:=by
 unfold nearW
 rw [List.filterMap_reverse,List.head?_reverse,List.getLastD_eq_getLast?]
theorem pc376 (k:Nat) (f:List C) (a b:Nat) (lev:Int) (sos:C) (hf:f.length < 900) (ha:a < 900) (hb:b < 900):pureCall (F (k + 2)) 376 [cl f,pairV (a,b),.int lev,sos.v] = some (oV (dirB f (emb lev) sos (a,b))):=by
 have big:∀ {n:Nat},n < 900->n<=lim:=fun h=>Nat.le_of_lt (Nat.lt_trans h (by decide))
 have h369:=qc (l:=[.int lev]) rfl (pc369 k lev)
 have hs:=cut_cl (f:=f) (bound_succ (j:=a) (Nat.le_trans ha (by decide))) (bound_nat (n:=b) (big hb)) (big hf)
 have hs2:=cut_cl (f:=f) (lo:=none) (x:=none) rfl (bound_nat (n:=a) (big ha)) (big hf)
 have hr:∀ S,rev false (cl (cut f none (some a))) S = some (cl (f.take a).reverse,S):=fun S=>by
  show mkL false (vs (f.take a)).reverse S = _
  rw [show (vs (f.take a)).reverse = vs (f.take a).reverse from List.map_reverse.symm]
  exact if_pos (by rw [vs_len,List.length_reverse];exact Nat.le_trans (Nat.le_trans (Nat.le_of_eq List.length_take) (Nat.min_le_right _ _)) (big hf))
 obtain ⟨r,e,R⟩:=loop376a k (cl f) (pairV (a,b)) (.int lev) sos (emb lev) ((f.take b).drop (a + 1)) false none none rfl rfl
 refine (pure_pfin (stp376 (k + 1) _ _ _ _ _)).trans ?_
 unfold dirB
 cases R with
 | ret m S=>rw [if_pos m];exact B.pv rfl [.m h369,.m0,.m0,.m hs,.f e] (by kernel_rfl)
 | next m h' o6 o7 n6 n7 eh=>
  rw [if_neg m]
  by_cases z:((f.take b).drop (a + 1)).filterMap strong = []
  ·rw [if_pos z]
   rw [z] at eh
   subst eh
   exact B.pv rfl [.m h369,.m0,.m0,.m hs,.f e] (by kernel_rfl)
  ·rw [if_neg z]
   have eh:h' = true:=by
    rw [eh,List.isEmpty_eq_false_iff.mpr z];rfl
   subst eh
   rw [near_rev]
   rcases loop376b k (cl f) (pairV (a,b)) (.int lev) sos (emb lev) (f.take a).reverse o6 o7 n6 n7 with ⟨d,S,h1,h2⟩ | ⟨o6',o7',h1,h2⟩
   ·rw [h1];exact B.pv rfl [.m h369,.m0,.m0,.m hs,.f e,.m0,.m hs2,.m hr,.f h2] (by kernel_rfl)
   ·rw [h1];exact B.pv rfl [.m h369,.m0,.m0,.m hs,.f e,.m0,.m hs2,.m hr,.f h2] (by kernel_rfl)
noncomputable def nput (d:C):List C->Nat->List C->List C
 | [],_,f=>f
 | c :: l,i,f=>if c = .NSM then nput d l (i + 1) (f.set i d) else f
noncomputable def put1B (bg:List C) (d:C) (f:List C) (i:Nat):List C:=nput d (bg.drop (i + 1)) (i + 1) (f.set i d)
noncomputable def brkO (bg:List C) (f:List C) (p:Nat × Nat):Option C->List C
 | none=>f
 | some d=>put1B bg d (put1B bg d f p.1) p.2
noncomputable def brk1 (bg:List C) (own sos:C) (f:List C) (p:Nat × Nat):List C:=brkO bg f p (dirB f own sos p)
noncomputable def brks (bg:List C) (own sos:C) (ps:PL) (f:List C):List C:=ps.foldl (brk1 bg own sos) f
theorem nput_len (d:C) (l:List C):∀ (i:Nat) (f:List C),(nput d l i f).length = f.length:=by
 induction l with
 | nil=>intro i f;rfl
 | cons c l ih=>
  intro i f
  unfold nput
  by_cases z:c = .NSM
  ·rw [if_pos z,ih,List.length_set]
  ·rw [if_neg z]
theorem put1B_len (bg:List C) (d:C) (f:List C) (i:Nat):(put1B bg d f i).length = f.length:=(nput_len _ _ _ _).trans List.length_set
theorem brk1_len (bg:List C) (own sos:C) (f:List C) (p:Nat × Nat):(brk1 bg own sos f p).length = f.length:=by
 unfold brk1
 cases dirB f own sos p with
 | none=>rfl
 | some d=>exact (put1B_len _ _ _ _).trans (put1B_len _ _ _ _)
theorem brks_len (bg:List C) (own sos:C) (ps:PL) (f:List C):(brks bg own sos ps f).length = f.length:=fold_len (fun f p=>brk1_len bg own sos f p) _ _
section
variable (cls ps lv:V) (sos:C) (bg:List C)
noncomputable def st383 (o6 o7 o8 o9:Option V) (f:List C):SS:=⟨[some cls,some ps,some lv,some sos.v,some (cl bg),some (.ref 0),o6,o7,o8,o9,none,none,none],[(0,.list (vs f))],1⟩
theorem while383 (E:En) (d:C) (o6 o8:Option V) (l:List C):∀ (i n:Nat) (f:List C),bg.drop i = l->f.length = bg.length->l.length < n->∃ i',wh (t383_1 E).f (w383_1 E).f n (st383 cls ps lv sos bg o6 (some d.v) o8 (some (natV i)) f) = some (.next,st383 cls ps lv sos bg o6 (some d.v) o8 (some (natV i')) (nput d l i f)):=by
 induction l with
 | nil=>
  intro i n f hd hf hn
  cases n with
  | zero=>exact absurd hn (Nat.not_lt_zero _)
  | succ n=>
   have hi:=List.drop_eq_nil_iff.mp hd
   exact ⟨i,wh_stop (B.by [.m0,.b (qf (show ¬ (i:Int) < ((vs f).length:Int) by rw [vs_len,hf];omega))] (by kernel_rfl))⟩
 | cons c l ih=>
  intro i n f hd hf hn
  cases n with
  | zero=>exact absurd hn (Nat.not_lt_zero _)
  | succ n=>
   obtain ⟨hi,ec,dl⟩:=dr_cons hd
   have ht:=qt (show (i:Int) < ((vs f).length:Int) by rw [vs_len,hf];exact Int.ofNat_lt.mpr hi)
   have hg:=get_at ec hi
   unfold nput
   by_cases z:c = .NSM
   ·rw [if_pos z]
    have e1:(t383_1 E).f (st383 cls ps lv sos bg o6 (some d.v) o8 (some (natV i)) f) = some (true,st383 cls ps lv sos bg o6 (some d.v) o8 (some (natV i)) f):=B.by [.m0,.b ht,.m hg,.b (qe (d:=.NSM) z)] (by kernel_rfl)
    have e2:(w383_1 E).f (st383 cls ps lv sos bg o6 (some d.v) o8 (some (natV i)) f) = some (.next,st383 cls ps lv sos bg o6 (some d.v) o8 (some (natV (i + 1))) (f.set i d)):=by
     unfold st383
     rw [vs_set]
     exact B.by [.b (qt (setOk (f:=f) (i:=i) (hf ▸ hi)))] (by kernel_rfl)
    obtain ⟨i',e⟩:=ih (i + 1) n (f.set i d) dl (List.length_set.trans hf) (Nat.lt_of_succ_lt_succ hn)
    exact ⟨i',(wh_next e1 e2).trans e⟩
   ·rw [if_neg z]
    exact ⟨i,wh_stop (B.by [.m0,.b ht,.m hg,.b (qn (d:=.NSM) z)] (by kernel_rfl))⟩
theorem at383 (E:En) (d:C) (o6 o8 o9:Option V) (n8:nf o8) (n9:nf o9) (f:List C) (i:Nat) (hi:i < f.length) (hf:f.length = bg.length) (h9:bg.length < 900) :
  ∃ i',(ontn (.one 8) (natV i) (f383_3 E)).f (st383 cls ps lv sos bg o6 (some d.v) o8 o9 f) = some (.next,st383 cls ps lv sos bg o6 (some d.v) (some (natV i)) (some (natV i')) (put1B bg d f i)):=by
 obtain ⟨i',e⟩:=while383 cls ps lv sos bg E d o6 (some (natV i)) (bg.drop (i + 1)) (i + 1) turns (f.set i d) rfl (List.length_set.trans hf) (Nat.lt_of_le_of_lt (Nat.le_trans (Nat.le_of_eq List.length_drop) (Nat.sub_le _ _)) (Nat.lt_trans h9 (by decide)))
 unfold st383 at e
 rw [vs_set] at e
 exact ⟨i',B.by [.n n8,.b (qt (setOk (f:=f) (i:=i) hi)),.n n9,.f (f:=sWhile (t383_1 E).f (w383_1 E).f) e] (by kernel_rfl)⟩
end
inductive R383 (cls ps:V) (lev:Int) (sos:C) (bg res:List C) (qs:PL):SS->Prop
 | mk (f:List C) (o6 o7 o8 o9:Option V) (n6:nf o6) (n7:nf o7) (n8:nf o8) (n9:nf o9) (hf:f.length = bg.length) (hp:∀ p ∈ qs,p.1 < bg.length/\p.2 < bg.length) (e:brks bg (emb lev) sos qs f = res):R383 cls ps lev sos bg res qs (st383 cls ps (.int lev) sos bg o6 o7 o8 o9 f)
theorem pc383 (k:Nat) (l bg:List C) (lev:Int) (sos:C) (ps:PL) (hl:l.length = bg.length) (h9:bg.length < 900) (hp:∀ p ∈ ps,p.1 < bg.length/\p.2 < bg.length) :
  pureCall (F (k + 3)) 383 [cl l,.lst (ps.map pairV),.int lev,sos.v,cl bg] = some (cl (brks bg (emb lev) sos ps l)):=by
 obtain ⟨S',e,r⟩:=loopI (t:=.one 6) pairV (R383 (cl l) (.lst (ps.map pairV)) lev sos bg (brks bg (emb lev) sos ps l)) (b:=f383_4 (en (k + 2))) (fun p qs S r=>by
  obtain ⟨f,o6,o7,o8,o9,n6,n7,n8,n9,hf,hp,e⟩:=r
  obtain ⟨a,b⟩:=p
  obtain ⟨ha,hb⟩:a < bg.length/\b < bg.length:=hp _ List.mem_cons_self
  have h376:=pc376 k f a b lev sos (hf ▸ h9) (Nat.lt_trans ha h9) (Nat.lt_trans hb h9)
  have hlt:lentM (F (k + 2)) 376 [.ref 0,pairV (a,b),.int lev,sos.v] (st383 (cl l) (.lst (ps.map pairV)) (.int lev) sos bg (some (pairV (a,b))) o7 o8 o9 f) = some (oV (dirB f (emb lev) sos (a,b)),st383 (cl l) (.lst (ps.map pairV)) (.int lev) sos bg (some (pairV (a,b))) o7 o8 o9 f):=by
   show (lend [(0,.list (vs f))] [.ref 0,pairV (a,b),.int lev,sos.v]).bind _ = _
   rw [show lend [(0,.list (vs f))] [.ref 0,pairV (a,b),.int lev,sos.v] = some [cl f,pairV (a,b),.int lev,sos.v] from if_pos (nrs_vs f)]
   show (pureCall (F (k + 2)) 376 [cl f,pairV (a,b),.int lev,sos.v]).bind _ = _
   rw [h376]
   cases dirB f (emb lev) sos (a,b) <;> rfl
  cases hd:dirB f (emb lev) sos (a,b) with
  | none=>
   rw [hd] at hlt
   refine ⟨_,B.by [.n n6,.s hlt,.n n7] (by kernel_rfl),.mk f (some (pairV (a,b))) (some .none) o8 o9 rfl rfl n8 n9 hf (fun p m=>hp p (List.mem_cons_of_mem _ m)) ?_⟩
   rw [← e]
   show _ = brks bg (emb lev) sos qs (brk1 bg (emb lev) sos f (a,b))
   unfold brk1
   rw [hd];rfl
  | some d=>
   rw [hd] at hlt
   obtain ⟨i1,e1⟩:=at383 (cl l) (.lst (ps.map pairV)) (.int lev) sos bg (en (k + 2)) d (some (pairV (a,b))) o8 o9 n8 n9 f a (hf ▸ ha) hf h9
   have h1:=put1B_len bg d f a
   obtain ⟨i2,e2⟩:=at383 (cl l) (.lst (ps.map pairV)) (.int lev) sos bg (en (k + 2)) d (some (pairV (a,b))) (some (natV a)) (some (natV i1)) rfl rfl (put1B bg d f a) b (by rw [h1,hf];exact hb) (h1.trans hf) h9
   refine ⟨_,B.by [.n n6,.s hlt,.n n7,.b0,.f ((forL_cons (r:=[natV b]) e1).trans (forL_cons (r:=[]) e2))] (by kernel_rfl),.mk (put1B bg d (put1B bg d f a) b) (some (pairV (a,b))) (some d.v) (some (natV b)) (some (natV i2)) rfl rfl rfl rfl ((put1B_len _ _ _ _).trans (h1.trans hf)) (fun p m=>hp p (List.mem_cons_of_mem _ m)) ?_⟩
   rw [← e]
   show _ = brks bg (emb lev) sos qs (brk1 bg (emb lev) sos f (a,b))
   unfold brk1
   rw [hd];rfl) ps _ (.mk l none none none none rfl rfl rfl rfl hl hp rfl)
 obtain ⟨f,o6,o7,o8,o9,_,_,_,_,_,_,e'⟩:=r
 have e':f = _:=e'
 subst e'
 exact (pure_pfin (stp383 (k + 2) _ _ _ _ _ _)).trans (pfin0 (still_vs _) (B.fin [.s (list_cl (Nat.le_of_lt (Nat.lt_trans (hl ▸ h9) (by decide))) [some (cl l),some (.lst (ps.map pairV)),some (.int lev),some sos.v,some (cl bg),none,none,none,none,none,none,none,none] [] 0),.f e] (by kernel_rfl)))
theorem fill_mid (c:C) (M:List C):∀ (P R:List C),(List.range' P.length M.length).foldl (fun f i=>f.set i c) (P++(M++R)) = P++(M.map (fun _=>c)++R):=by
 induction M with
 | nil=>intro P R;rfl
 | cons x M ih=>
  intro P R
  have h:=ih (P++[c]) R
  rw [List.length_append,List.append_assoc,List.append_assoc] at h
  show (List.range' (P.length + 1) M.length).foldl _ ((P++x :: (M++R)).set P.length c) = _
  rw [set_at]
  exact h
noncomputable def nxt (e:C):List C->C
 | []=>e
 | c :: l=>if isN c = true then nxt e l else c
noncomputable def fr (w:C->C->C) (e:C):C->List C->List C
 | _,[]=>[]
 | d,c :: l=>if isN c = true then w d (nxt e l) :: fr w e d l else c :: fr w e c l
noncomputable def fillW (L:List C) (w:C->C->C) (d e:C) (f:List C) (q:Nat × Nat):List C:=fill f q.1 q.2 (w (bA L q.1 d) (bB L q.2 e))
theorem fillW_mid {L:List C} {w:C->C->C} {d e x y:C} {k:Nat} {P M:List C} (R:List C) (hk:P.length + M.length = k) (hx:bA L P.length d = x) (hy:bB L k e = y):fillW L w d e (P++(M++R)) (P.length,k) = P++(M.map (fun _=>w x y)++R):=by
 unfold fillW
 rw [hx,hy,← hk]
 show (List.range' P.length (P.length + M.length - P.length)).foldl _ _ = _
 rw [Nat.add_sub_cancel_left]
 exact fill_mid _ M P R
inductive Pend (P M:List C):Option Nat->Prop
 | none (h:M = []):Pend P M none
 | some:Pend P M (some P.length)
noncomputable def closeR (b:Option Nat) (n:Nat):List (Nat × Nat):=match b with
 | none=>[]
 | some x=>[(x,n)]
noncomputable def rest (n k:Nat) (b:Option Nat) (l:List C):List (Nat × Nat):=(runsGo isN k b l).1++closeR (runsGo isN k b l).2 n
theorem rest_cons (n k:Nat) (b:Option Nat) (c:C) (l:List C):rest n k b (c :: l) = runF isN k b c++rest n (k + 1) (runB isN k b c) l:=List.append_assoc _ _ _
theorem rest_fold {w:C->C->C} {d e:C} {L:List C} {Q:C->Prop} (l:List C):∀ (k:Nat) (P M:List C) (b:Option Nat) (x:C),Pend P M b->L.drop k = l->k + l.length = L.length->P.length + M.length = k->bA L P.length d = x->Q x->(∀ c ∈ l,isN c = false->Q c) ->
  (rest L.length k b l).foldl (fillW L w d e) (P++(M++l)) = P++(M.map (fun _=>w x (nxt e l))++fr w e x l)/\∀ q ∈ rest L.length k b l,Q (bA L q.1 d):=by
 induction l with
 | nil=>
  intro k P M b x hb hd hl hk hx hQ _
  have hl:k = L.length:=hl
  cases hb with
  | none h=>subst h;exact ⟨rfl,fun _ m=>nomatch m⟩
  | some=>
   refine ⟨?_,fun q m=>?_⟩
   ·exact fillW_mid [] (hk.trans hl) hx (if_neg (Nat.lt_irrefl _))
   ·rw [List.mem_singleton.mp m];exact hx ▸ hQ
 | cons c l ih=>
  intro k P M b x hb hd hl hk hx hQ hq
  obtain ⟨hkl,ec,dl⟩:=dr_cons hd
  have hl':k + 1 + l.length = L.length:=by rw [Nat.add_assoc,Nat.add_comm 1];exact hl
  have hq':∀ c ∈ l,isN c = false->Q c:=fun c m=>hq c (List.mem_cons_of_mem _ m)
  rw [rest_cons]
  cases hp:isN c with
  | true=>
   have eB:runB isN k b c = some P.length:=by
    refine (if_pos hp).trans ?_
    cases hb with
    | none h=>subst h;exact congrArg some hk.symm
    | some=>rfl
   rw [show runF isN k b c = [] from if_pos hp,eB,show nxt e (c :: l) = nxt e l from if_pos hp,show fr w e x (c :: l) = w x (nxt e l) :: fr w e x l from if_pos hp]
   have h:=ih (k + 1) P (M++[c]) (some P.length) x .some dl hl' (by rw [List.length_append,← Nat.add_assoc,hk];rfl) hx hQ hq'
   rw [List.append_assoc,List.map_append,List.append_assoc] at h
   exact h
  | false=>
   have hn:¬ isN c = true:=by rw [hp];exact Bool.false_ne_true
   rw [show runB isN k b c = none from if_neg hn,show nxt e (c :: l) = c from if_neg hn,show fr w e x (c :: l) = c :: fr w e c l from if_neg hn]
   have go:∀ N:List C,N.length = M.length->(rest L.length (k + 1) none l).foldl (fillW L w d e) (P++(N++c :: l)) = P++(N++c :: fr w e c l)/\∀ q ∈ rest L.length (k + 1) none l,Q (bA L q.1 d):=fun N hN=>by
    have e1:(P++(N++[c])).length = k + 1:=by rw [List.length_append,List.length_append,hN,← Nat.add_assoc,hk];rfl
    have h:=ih (k + 1) (P++(N++[c])) [] none c (.none rfl) dl hl' e1 (by rw [e1];exact (if_pos (Nat.succ_pos _)).trans ec) (hq c List.mem_cons_self hp) hq'
    rw [List.append_assoc,List.append_assoc,List.append_assoc,List.append_assoc] at h
    exact h
   cases hb with
   | none h=>
    rw [show runF isN k none c = [] from if_neg hn]
    subst h
    exact go [] rfl
   | some=>
    rw [show runF isN k (some P.length) c = [(P.length,k)] from if_neg hn]
    have h:=go (M.map fun _=>w x c) (List.length_map _)
    refine ⟨?_,fun q m=>?_⟩
    ·refine Eq.trans ?_ h.1
     exact congrArg (fun f=>(rest L.length (k + 1) none l).foldl (fillW L w d e) f) (fillW_mid (w:=w) (c :: l) hk hx ((if_pos hkl).trans ec))
    ·rcases List.mem_cons.mp m with m | m
     ·rw [m];exact hx ▸ hQ
     ·exact h.2 q m
noncomputable def W6 (c:C):Bool:=match c with | .L=>true | .R=>true | .EN=>true | .AN=>true | .ON=>true | .WS=>true | _=>false
noncomputable def A6 (l:List C):Prop:=∀ c ∈ l,W6 c = true
noncomputable def lr (c:C):Prop:=c = .L ∨ c = .R
theorem emb_lr (b:Int):lr (emb b):=by
 unfold lr emb
 by_cases h:b % 2 = 0
 ·rw [if_pos h];exact .inl rfl
 ·rw [if_neg h];exact .inr rfl
theorem strong_lr {c:C} (h:lr c):strong c = some c:=by rcases h with h | h <;> (rw [h];rfl)
theorem w6_strong {c:C} (h:W6 c = true):(strong c).isNone = isN c:=by
 have k:=fin1 (p:=fun c=>!W6 c || decide ((strong c).isNone = isN c)) (by kernel_rfl) c
 rw [h] at k
 exact of_decide_eq_true k
theorem neutC_fr (l:List C) (lev:Int) (sos eos:C) (hs:lr sos) (hl:A6 l):neutC l lev sos eos = fr (ndir lev) eos sos l/\∀ q ∈ runs isN l,strong (bA l q.1 sos) ≠ none:=by
 have e1:runs isN l = rest l.length 0 none l:=by
  unfold runs rest closeR
  cases runsGo isN 0 none l with
  | mk a b=>cases b <;> rfl
 unfold neutC
 rw [e1]
 exact rest_fold (w:=ndir lev) (Q:=fun c=>strong c ≠ none) l 0 [] [] none sos (.none rfl) rfl (Nat.zero_add _) rfl (if_neg (Nat.lt_irrefl 0)) (by rw [strong_lr hs];exact fun z=>nomatch z) fun c m h z=>by
  have k:=w6_strong (hl c m)
  rw [z,h] at k
  exact nob k.symm
noncomputable def farW (l:List C) (m:C):C:=(l.filterMap strong).headD m
noncomputable def setK (m:C) (A:List C) (c:C) (l:List C):C:=if strong c = none then (if nearW A m = farW (c :: l) m then nearW A m else m) else c
noncomputable def setl (m:C):List C->List C->List C
 | _,[]=>[]
 | A,c :: l=>setK m A c l :: setl m (A++[c]) l
theorem near_snoc (A:List C) (c m:C):nearW (A++[c]) m = (strong c).getD (nearW A m):=by
 unfold nearW
 rw [List.filterMap_append]
 cases h:strong c with
 | none=>rw [show [c].filterMap strong = [] from List.filterMap_cons_none h,List.append_nil];rfl
 | some y=>rw [show [c].filterMap strong = [y] from List.filterMap_cons_some h,List.getLastD_concat];rfl
theorem far_cons (l:List C) (c m:C):farW (c :: l) m = (strong c).getD (farW l m):=by
 unfold farW
 cases h:strong c with
 | none=>rw [List.filterMap_cons_none h];rfl
 | some y=>rw [List.filterMap_cons_some h];rfl
theorem far_nxt {m:C} (hm:lr m) (l:List C) (hl:A6 l):strong (nxt m l) = some (farW l m):=by
 induction l with
 | nil=>exact strong_lr hm
 | cons c l ih=>
  have hc:=w6_strong (hl c List.mem_cons_self)
  rw [far_cons]
  cases z:strong c with
  | none=>
   rw [z] at hc
   rw [show nxt m (c :: l) = nxt m l from if_pos hc.symm]
   exact ih fun c m=>hl c (List.mem_cons_of_mem _ m)
  | some y=>
   rw [z] at hc
   rw [show nxt m (c :: l) = c from if_neg (by rw [← hc];exact Bool.false_ne_true)]
   exact z
theorem setl_fr {b:Int} (l:List C):∀ (A:List C) (d:C),A6 l->strong d = some (nearW A (emb b))->setl (emb b) A l = fr (ndir b) (emb b) d l:=by
 induction l with
 | nil=>intro A d _ _;rfl
 | cons c l ih=>
  intro A d hl hd
  have hc:=w6_strong (hl c List.mem_cons_self)
  have hl':A6 l:=fun c m=>hl c (List.mem_cons_of_mem _ m)
  have hs:=near_snoc A c (emb b)
  show setK (emb b) A c l :: setl (emb b) (A++[c]) l = _
  unfold setK
  rw [far_cons]
  cases z:strong c with
  | none=>
   rw [z] at hc hs
   rw [if_pos rfl,show fr (ndir b) (emb b) d (c :: l) = ndir b d (nxt (emb b) l) :: fr (ndir b) (emb b) d l from if_pos hc.symm,ih _ d hl' (by rw [hs];exact hd)]
   unfold ndir
   rw [hd,far_nxt (emb_lr b) l hl']
   show (if nearW A (emb b) = farW l (emb b) then nearW A (emb b) else emb b) :: _ = (if some (nearW A (emb b)) = some (farW l (emb b)) then nearW A (emb b) else emb b) :: _
   by_cases q:nearW A (emb b) = farW l (emb b)
   ·rw [if_pos q,if_pos (congrArg some q)]
   ·rw [if_neg q,if_neg fun w=>q (Option.some.inj w)]
  | some y=>
   rw [z] at hc hs
   rw [if_neg (fun w=>nomatch w),show fr (ndir b) (emb b) d (c :: l) = c :: fr (ndir b) (emb b) c l from if_neg (by rw [← hc];exact Bool.false_ne_true),ih _ c hl' (by rw [hs];exact z)]
noncomputable def weakF (d:C) (l:List C):List C:=lnums d (weakA d l)
theorem weakF_len (d:C) (l:List C):(weakF d l).length = l.length:=by unfold weakF;rw [lnums_len,weakA_len]
theorem scan_ok {F:C->List C->List C} {f g:C->C->C} (hF:∀ d c l,F d (c :: l) = f d c :: F (g d c) l) (hN:∀ d,F d [] = []) {I R Q:C->Bool} (h:allC.all (fun d=>allC.all fun c=>!(I d && R c) || (Q (f d c) && I (g d c))) = true) (l:List C):∀ d,I d = true->(∀ c ∈ l,R c = true)->∀ c ∈ F d l,Q c = true:=by
 induction l with
 | nil=>intro d _ _ c m;rw [hN] at m;exact nomatch m
 | cons x l ih=>
  intro d hd hl c m
  have k:=fin2 (p:=fun d c=>!(I d && R c) || (Q (f d c) && I (g d c))) h d x
  rw [hd,hl x List.mem_cons_self] at k
  obtain ⟨h1,h2⟩:=Bool.and_eq_true_iff.mp (show (Q (f d x) && I (g d x)) = true from k)
  rw [hF] at m
  rcases List.mem_cons.mp m with e | m
  ·exact e ▸ h1
  ·exact ih _ h2 (fun c m=>hl c (List.mem_cons_of_mem _ m)) c m
noncomputable def K7 (c:C):Bool:=K8 c && decide (c ≠ .NSM)
theorem weakA_6 {l:List C} {d:C} (hd:lr d) (hl:A8 l):A6 (weakA d l):=fun c h=>by
 obtain ⟨x,hx,e⟩:=List.mem_map.mp h
 have hd7:K7 d = true:=by rcases hd with h | h <;> (rw [h];rfl)
 have hm:∀ c ∈ marks d l,K7 c = true:=scan_ok (F:=marks) (f:=mark1) (g:=mark1) (I:=K7) (R:=K8) (Q:=K7) (fun _ _ _=>rfl) (fun _=>rfl) (by kernel_rfl) l d hd7 hl
 have hn:K7 x = true:=scan_ok (F:=nums) (f:=num1) (g:=strongA) (I:=K7) (R:=K7) (Q:=K7) (fun _ _ _=>rfl) (fun _=>rfl) (by kernel_rfl) _ d hd7 hm x hx
 rw [← e]
 have k:=fin1 (p:=fun x=>!K7 x || W6 (let1 x)) (by kernel_rfl) x
 rw [hn] at k
 exact k
theorem weakF_6 {l:List C} {d:C} (hd:lr d) (hl:A8 l):A6 (weakF d l):=
 scan_ok (F:=lnums) (f:=lnum1) (g:=strongL) (I:=W6) (R:=W6) (Q:=W6) (fun _ _ _=>rfl) (fun _=>rfl) (by kernel_rfl) _ d (by rcases hd with h | h <;> (rw [h];rfl)) (weakA_6 hd hl)
theorem set_6 {f:List C} {d:C} (hd:W6 d = true) (hf:A6 f) (i:Nat):A6 (f.set i d):=fun c m=>by
 rcases List.mem_or_eq_of_mem_set m with m | m
 ·exact hf c m
 ·exact m ▸ hd
theorem nput_6 {d:C} (hd:W6 d = true) (l:List C):∀ (i:Nat) (f:List C),A6 f->A6 (nput d l i f):=by
 induction l with
 | nil=>intro i f h;exact h
 | cons c l ih=>
  intro i f h
  unfold nput
  by_cases z:c = .NSM
  ·rw [if_pos z];exact ih _ _ (set_6 hd h i)
  ·rw [if_neg z];exact h
theorem lr_last (l:List C):∀ m,lr m->(∀ x ∈ l,lr x)->lr (l.getLastD m):=by
 induction l with
 | nil=>intro m h _;exact h
 | cons c l ih=>intro m _ h;rw [List.getLastD_cons];exact ih c (h c List.mem_cons_self) fun x q=>h x (List.mem_cons_of_mem _ q)
theorem lr_strong {l:List C} {x:C} (h:x ∈ l.filterMap strong):lr x:=by
 obtain ⟨y,_,hy⟩:=List.mem_filterMap.mp h
 have k:=fin2 (p:=fun y x=>decide (strong y ≠ some x) || (decide (x = .L) || decide (x = .R))) (by kernel_rfl) y x
 rw [decide_eq_false fun w=>w hy] at k
 exact (Bool.or_eq_true_iff.mp (show (decide (x = .L) || decide (x = .R)) = true from k)).imp of_decide_eq_true of_decide_eq_true
theorem near_lr (A:List C) {m:C} (hm:lr m):lr (nearW A m):=lr_last _ m hm fun _ h=>lr_strong h
theorem dirB_lr {f:List C} {own sos d:C} {p:Nat × Nat} (ho:lr own) (hs:lr sos) (h:dirB f own sos p = some d):lr d:=by
 unfold dirB at h
 by_cases z:own ∈ ((f.take p.2).drop (p.1 + 1)).filterMap strong
 ·rw [if_pos z] at h;exact Option.some.inj h ▸ ho
 ·rw [if_neg z] at h
  by_cases y:((f.take p.2).drop (p.1 + 1)).filterMap strong = []
  ·rw [if_pos y] at h;exact no h
  ·rw [if_neg y] at h;exact Option.some.inj h ▸ near_lr _ hs
theorem w6_lr {d:C} (h:lr d):W6 d = true:=by rcases h with h | h <;> (rw [h];rfl)
theorem brks_6 (bg:List C) {own sos:C} (ho:lr own) (hs:lr sos) (ps:PL):∀ (f:List C),A6 f->A6 (brks bg own sos ps f):=by
 induction ps with
 | nil=>intro f h;exact h
 | cons p ps ih=>
  intro f h
  refine ih _ ?_
  unfold brk1
  cases hd:dirB f own sos p with
  | none=>exact h
  | some d=>
   have h6:=w6_lr (dirB_lr ho hs hd)
   exact nput_6 h6 _ _ _ (set_6 h6 (nput_6 h6 _ _ _ (set_6 h6 h _)) _)
theorem range_len (l:List C):rangeV 1 ((l.length:Int) - 1) = (List.range' 1 (l.length - 1 - 1)).map natV:=by
 cases l with
 | nil=>rfl
 | cons c l=>
  show rangeV ((1:Nat):Int) (((l.length + 1:Nat):Int) - 1) = _
  rw [Int.natCast_add,show ((l.length:Nat):Int) + ((1:Nat):Int) - 1 = (l.length:Int) from Int.add_sub_cancel _ _]
  exact rangeV_nat 1 l.length
theorem w6_at {l:List C} (h:A6 l) (i:Nat):W6 (cAt l i) = true:=by
 unfold cAt
 rw [List.getD_eq_getElem?_getD]
 cases e:l[i]? with
 | none=>rfl
 | some c=>exact h c (List.mem_of_getElem? e)
inductive R287n (l:List C) (is:List Nat):SS->Prop
 | mk (o2 o3 o4:Option V) (n2:nf o2) (n3:nf o3) (n4:nf o4) (hi:∀ i ∈ is,1<=i/\i + 1 < l.length):R287n l is ⟨[some (cl l),some (.ref 0),o2,o3,o4,none,none,none,none],[(0,.list (vs l))],1⟩
theorem pc287n (k:Nat) (l:List C) (h6:A6 l) (hl:l.length < lim):pureCall (F (k + 1)) 287 [cl l] = some (cl l):=by
 obtain ⟨S',e,r⟩:=loopI (t:=.one 2) natV (R287n l) (b:=f287_1 (en k)) (fun i is S r=>by
  obtain ⟨o2,o3,o4,n2,n3,n4,hi⟩:=r
  obtain ⟨h1,h2⟩:=hi i List.mem_cons_self
  have p0:=sub_cl (l:=l) (place_nat (Nat.lt_of_succ_lt h2))
  have p1:=sub_cl (l:=l) (place_pred h1 (Nat.le_of_lt (Nat.lt_of_succ_lt h2)))
  have p2:=sub_cl (l:=l) (place_succ h2)
  have w:=w6_at h6 i
  have c1:cAt l i ≠ .CS:=fun z=>by rw [z] at w;exact nob w
  have c2:cAt l i ≠ .ES:=fun z=>by rw [z] at w;exact nob w
  have n:=R287n.mk (l:=l) (is:=is) (some (natV i)) (some (cAt l i).v) (some (cAt l (i - 1)).v) rfl rfl rfl fun j q=>hi j (List.mem_cons_of_mem _ q)
  by_cases z:cAt l (i - 1) = cAt l (i + 1)
  ·exact ⟨_,B.by [.n n2,.m p0,.m p1,.n n4,.n n3,.m p2,.b (qe z),.b (qn c1),.b (qn c2)] (by kernel_rfl),n⟩
  ·exact ⟨_,B.by [.n n2,.m p0,.m p1,.n n4,.n n3,.m p2,.b (qn z)] (by kernel_rfl),n⟩) (List.range' 1 (l.length - 1 - 1)) _
  (.mk none none none rfl rfl rfl fun i hi=>by
   obtain ⟨j,hj,e⟩:=List.mem_range'.mp hi
   omega)
 obtain ⟨o2,o3,o4,_,_,_,_⟩:=r
 rw [← range_len] at e
 exact (pure_pfin (stp287 k _ _)).trans (pfin0 (still_vs _) (B.fin [.s (list_cl (Nat.le_of_lt hl) [some (cl l),none,none,none,none,none,none,none,none] [] 0),.m (len_cl l),.b (qr (show small 1 = true from rfl) (small_le (i:=(l.length:Int) - 1) (by omega) (by unfold lim at hl;omega))),.f e] (by kernel_rfl)))
noncomputable def isT (c:C):Bool:=decide (c = .ET)
theorem runs_no {l:List C} (h6:A6 l):∀ k,runsGo isT k none l = ([],none):=by
 induction l with
 | nil=>intro k;rfl
 | cons c l ih=>
  intro k
  have w:=h6 c List.mem_cons_self
  have z:isT c = false:=decide_eq_false fun y=>by rw [y] at w;exact nob w
  have z:¬ isT c = true:=by rw [z];exact Bool.false_ne_true
  show (runF isT k none c++(runsGo isT (k + 1) (runB isT k none c) l).1,(runsGo isT (k + 1) (runB isT k none c) l).2) = _
  rw [show runF isT k none c = [] from if_neg z,show runB isT k none c = none from if_neg z,ih (fun c m=>h6 c (List.mem_cons_of_mem _ m))];rfl
theorem pc308n (k:Nat) (l:List C) (h6:A6 l) (hl:l.length < lim):pureCall (F (k + 2)) 308 [cl l] = some (cl l):=by
 have h:=pc294 k l [.str "ET"] isT (fun c=>by cases c <;> rfl) hl
 rw [show runs isT l = [] by unfold runs;rw [runs_no h6];rfl] at h
 exact (pure_pfin (stp308 (k + 1) _ _)).trans (pfin0 (still_vs _) (B.fin [.s (list_cl (Nat.le_of_lt hl) [some (cl l),none,none,none,none,none,none,none,none] [] 0),.m (qc (l:=[cl l,.tup [.str "ET"]]) (sc rfl) h)] (by kernel_rfl)))
theorem left_6 {l:List C} (h6:A6 l):l.map left1 = l:=by
 refine Eq.trans (List.map_congr_left fun c m=>?_) (List.map_id _)
 have k:=fin1 (p:=fun c=>!W6 c || decide (left1 c = c)) (by kernel_rfl) c
 rw [h6 c m] at k
 exact of_decide_eq_true k
theorem pc327n (k:Nat) (l:List C) {d:C} (hd:lr d) (h8:A8 l) (h:l.length < lim):pureCall (F (k + 3)) 327 [cl l,d.v] = some (cl (weakF d l)):=by
 have h1:=Nat.le_of_lt h
 have h6:=weakA_6 hd h8
 have lA:=weakA_len d l
 have h313:=pc313 (k + 1) (weakA d l) (by rw [lA];exact h1)
 rw [left_6 h6] at h313
 exact (pure_pfin (stp327 (k + 2) _ _ _)).trans (B.pv (still_cl _) [.m (qc (l:=[cl l,d.v]) (sc rfl) (pc268 (k + 1) l d h1)),.m (qc (l:=[cl (marks d l),d.v]) (sc rfl) (pc275 (k + 1) _ d (by rw [marks_len];exact h1))),
  .m (qc (l:=[cl (nums d (marks d l))]) (sc rfl) (pc280 (k + 1) _ (by rw [nums_len,marks_len];exact h1))),.m (qc (l:=[cl (weakA d l)]) (sc rfl) (pc287n (k + 1) _ h6 (by rw [lA];exact h))),
  .m (qc (l:=[cl (weakA d l)]) (sc rfl) (pc308n k _ h6 (by rw [lA];exact h))),.m (qc (l:=[cl (weakA d l)]) (sc rfl) h313),.m (qc (l:=[cl (weakA d l),d.v]) (sc rfl) (pc320 (k + 1) _ d (by rw [lA];exact h1)))] (by kernel_rfl))
noncomputable def seqOut3 (l:List C) (b:Int) (ps:PL):List Int:=(setl (emb b) [] (brks l (emb b) (emb b) ps (weakF (emb b) l))).map fun c=>impl1 c b
theorem setl_len (m:C) (l:List C):∀ A,(setl m A l).length = l.length:=by
 induction l with
 | nil=>intro A;rfl
 | cons c l ih=>intro A;exact congrArg (· + 1) (ih _)
theorem seqOut3_len (l:List C) (b:Int) (ps:PL):(seqOut3 l b ps).length = l.length:=by
 unfold seqOut3
 rw [List.length_map,setl_len,brks_len,weakF_len]
theorem pc417w (k:Nat) (ks:List C) (codes pl:List Nat) (lev:Int) {a b c d:V} (hD:nrs [a,b,c,d] = true) (h8:A8 ks) (hc:codes.length = ks.length) (h60:ks.length < 60) (ps:PL) (hp:∀ p ∈ ps,p.1 < ks.length/\p.2 < ks.length)
  (h348:pureCall (F (k + 3)) 348 [nl codes,cl (weakF (emb lev) ks),dI a b c d] = some (.lst (ps.map pairV))):pureCall (F (k + 6)) 417 [sqI pl codes ks lev (emb lev) (emb lev),dI a b c d] = some (il (seqOut3 ks lev ps)):=by
 have l9:ks.length < 900:=Nat.lt_trans h60 (by decide)
 have ll:ks.length < lim:=Nat.lt_trans h60 (by decide)
 have hw:=weakF_len (emb lev) ks
 have hq:=emb_lr lev
 have h6:=brks_6 ks hq hq ps _ (weakF_6 hq h8)
 have hb:=brks_len ks (emb lev) (emb lev) ps (weakF (emb lev) ks)
 obtain ⟨n1,n2⟩:=neutC_fr (brks ks (emb lev) (emb lev) ps (weakF (emb lev) ks)) lev (emb lev) (emb lev) hq h6
 have h390:=pc390 (k + 2) _ lev (emb lev) (emb lev) (by rw [hb,hw];exact ll) n2
 rw [n1,← setl_fr _ [] (emb lev) h6 (strong_lr hq)] at h390
 have h410:=pc410 (k + 3) (setl (emb lev) [] (brks ks (emb lev) (emb lev) ps (weakF (emb lev) ks))) lev (by rw [setl_len,hb,hw];exact Nat.le_of_lt ll)
 rw [show (setl (emb lev) [] (brks ks (emb lev) (emb lev) ps (weakF (emb lev) ks))).map (fun c=>V.int (impl1 c lev)) = (seqOut3 ks lev ps).map .int from (List.map_map (g:=V.int)).symm] at h410
 have h334:pureCall (F (k + 5)) 334 [sqI pl codes ks lev (emb lev) (emb lev)] = some (cl (weakF (emb lev) ks)):=(pure_pfin (stp334 (k + 4) _ _)).trans (B.pv (still_cl _) [.m0,.m0,.m (qc (l:=[cl ks,(emb lev).v]) (sc rfl) (pc327n (k + 1) ks hq h8 ll))] (by kernel_rfl))
 exact pc417 (k + 4) pl codes ks (weakF (emb lev) ks) _ lev (emb lev) (emb lev) (dI a b c d) (seqOut3 ks lev ps) hD (by rw [hc];exact Nat.le_of_lt ll) h334
  (pc398 (k + 3) pl codes (weakF (emb lev) ks) ks lev (emb lev) (emb lev) (dI a b c d) (.lst (ps.map pairV)) _ _ hD (still_prs ps) h348 (pc383 (k + 1) _ ks lev (emb lev) ps hw l9 hp) h390) h410
theorem pc591 (k:Nat) (c:C):pureCall (F (k + 1)) 591 [c.v] = some (oV (strong c)):=(pure_pfin (stp591 k _ _)).trans (by cases c <;> exact B.pv rfl [] (by kernel_rfl))
theorem scanL {b:B Fl} {i:Nat} {F:C->List C->List C} {f g:C->C->C} (st:C->Option V->List C->SS) (J:C->List C->Prop) (Rc:C->Prop) (hF:∀ d c l,F d (c :: l) = f d c :: F (g d c) l) (hN:∀ d,F d [] = [])
  (step:∀ acc d c o,nf o->acc.length < 900->J d acc->Rc c->J (g d c) (acc++[f d c])/\(ontn (.one i) c.v b).f (st d o acc) = some (.next,st (g d c) (some c.v) (acc++[f d c])) ∨ (∃ x:C,J (g d c) (acc++[f d c])/\(ontn (.one i) c.v b).f (st d o acc) = some (.next,st (g d c) (some x.v) (acc++[f d c])))) (l:List C) :
  ∀ d o acc,nf o->acc.length + l.length < 900->J d acc->(∀ c ∈ l,Rc c)->∃ d' o',nf o'/\forL (.one i) b.f (vs l) (st d o acc) = some (.next,st d' o' (acc++F d l)):=by
 induction l with
 | nil=>intro d o acc ho _ _ _;exact ⟨d,o,ho,by rw [hN,List.append_nil];rfl⟩
 | cons c l ih=>
  intro d o acc ho hl hJ hR
  have hl:acc.length + (l.length + 1) < 900:=hl
  have go:∀ x:C,J (g d c) (acc++[f d c])->(ontn (.one i) c.v b).f (st d o acc) = some (.next,st (g d c) (some x.v) (acc++[f d c]))->∃ d' o',nf o'/\forL (.one i) b.f (vs (c :: l)) (st d o acc) = some (.next,st d' o' (acc++F d (c :: l))):=fun x h1 h2=>by
   obtain ⟨d',o',no,e⟩:=ih (g d c) (some x.v) (acc++[f d c]) rfl (by rw [List.length_append,List.length_singleton];omega) h1 fun c m=>hR c (List.mem_cons_of_mem _ m)
   rw [List.append_assoc] at e
   exact ⟨d',o',no,by rw [hF];exact (forL_cons h2).trans e⟩
  rcases step acc d c o ho (by omega) hJ (hR c List.mem_cons_self) with ⟨h1,h2⟩ | ⟨x,h1,h2⟩
  ·exact go c h1 h2
  ·exact go x h1 h2
theorem vs_snoc (l:List C) (c:C):vs l++[c.v] = vs (l++[c]):=(vs_app l [c]).symm
theorem vlt {l:List C} (h:l.length < 900):(vs l).length < lim:=by rw [vs_len];exact Nat.lt_trans h (by decide)
noncomputable def s584 (l:List C) (m:C) (s2:V) (o3 s4 s5:Option V) (ob:OB) (nx:Nat):SS:=⟨[some (cl l),some m.v,some s2,o3,s4,s5],ob,nx⟩
theorem mark_n {d c:C} (h:K8 d = true):mark1 d c = if c = .NSM then d else c:=by
 have k:=fin2 (p:=fun d c=>!K8 d || decide (mark1 d c = if c = .NSM then d else c)) (by kernel_rfl) d c
 rw [h] at k
 exact of_decide_eq_true k
theorem pc584 (k:Nat) (l:List C) {m:C} (hm:lr m) (h8:A8 l) (hl:l.length < 900):pureCall (F (k + 1)) 584 [cl l,m.v] = some (cl (weakF m l)):=by
 have m8:K8 m = true:=by rcases hm with h | h <;> (rw [h];rfl)
 obtain ⟨d1,o1,n1,e1⟩:=scanL (i:=3) (b:=f584_3 (en k)) (F:=marks) (f:=mark1) (g:=mark1) (fun _ o acc=>s584 l m (.ref 0) o none none [(0,.list (vs acc))] 1) (fun d acc=>d = acc.getLastD m/\K8 d = true) (fun c=>K8 c = true) (fun _ _ _=>rfl) (fun _=>rfl) (fun acc d c o ho hl hJ hR=>.inl ⟨⟨List.getLastD_concat.symm,by rw [mark_n hJ.2];by_cases z:c = .NSM;rw [if_pos z];exact hJ.2;rw [if_neg z];exact hR⟩,by
  rw [mark_n hJ.2,← vs_snoc]
  by_cases z:c = .NSM
  ·rw [if_pos z]
   rcases List.eq_nil_or_concat acc with e | ⟨pre,x,e⟩
   ·have hd:=hJ.1
    subst e
    have hd:d = m:=hd
    subst hd
    exact B.by [.n ho,.b (qe (d:=.NSM) z)] (by kernel_rfl)
   ·rw [List.concat_eq_append] at e
    have hd:=hJ.1
    rw [e,List.getLastD_concat] at hd
    subst e hd
    have hs:=sub_end (n:=0) (l:=vs pre) (x:=d.v) (S:=s584 l m (.ref 0) (some c.v) none none [(0,.list (vs (pre++[d])))] 1) (by rw [vs_snoc];rfl)
    have hne:cmpv .NotEq (.ref 0) (.lst []) [(0,.list (vs (pre++[d])))] = some true:=by
     show (veqL (vs (pre++[d])) []).map (!·) = _
     cases pre <;> rfl
    exact B.by [.n ho,.b (qe (d:=.NSM) z),.b hne,.s hs,.b (qt (vlt hl))] (by kernel_rfl)
  ·rw [if_neg z]
   exact B.by [.n ho,.b (qn (d:=.NSM) z),.b (qt (vlt hl))] (by kernel_rfl)⟩) l m none [] rfl (by show 0 + _ < 900;rw [Nat.zero_add];exact hl) ⟨rfl,m8⟩ h8
 have lm:=marks_len l m
 obtain ⟨d2,o2,n2,e2⟩:=scanL (i:=3) (b:=f584_2 (en k)) (F:=nums) (f:=num1) (g:=strongA) (fun d o acc=>s584 l m (cl (marks m l)) o (some d.v) (some (.ref 1)) [(1,.list (vs acc))] 2) (fun _ _=>True) (fun _=>True) (fun _ _ _=>rfl) (fun _=>rfl) (fun acc d c o ho hl _ _=>.inl ⟨trivial,by
  rw [← vs_snoc]
  by_cases h1:c ∈ [C.L,.R,.AL]
  ·have h2:c ≠ .EN:=by rintro rfl;revert h1;decide
   rw [show num1 d c = c from if_neg fun q=>h2 q.1,show strongA d c = c from if_pos h1]
   exact B.by [.n ho,.b (qi h1),.b (qn h2),.b (qt (vlt hl))] (by kernel_rfl)
  ·have h3:strongA d c = d:=if_neg h1
   unfold num1
   rw [h3]
   by_cases h2:c = .EN
   ·by_cases h4:d = .AL
    ·rw [if_pos ⟨h2,h4⟩];exact B.by [.n ho,.b (qj h1),.b (qe h2),.b (qe h4),.b (qt (vlt hl))] (by kernel_rfl)
    ·rw [if_neg fun q=>h4 q.2];exact B.by [.n ho,.b (qj h1),.b (qe h2),.b (qn h4),.b (qt (vlt hl))] (by kernel_rfl)
   ·rw [if_neg fun q=>h2 q.1]
    exact B.by [.n ho,.b (qj h1),.b (qn h2),.b (qt (vlt hl))] (by kernel_rfl)⟩) (marks m l) m (resl1 0 (cl (marks m l)) o1) [] (by cases o1 with
   | none=>rfl
   | some v=>cases v <;> first | rfl | exact nob n1) (by show 0 + _ < 900;rw [Nat.zero_add,lm];exact hl) trivial fun _ _=>trivial
 have ln:=(nums_len (marks m l) m).trans lm
 obtain ⟨d3,o3,n3,e3⟩:=scanL (i:=3) (b:=f584_1 (en k)) (F:=fun d l=>lnums d (l.map let1)) (f:=fun d c=>lnum1 d (let1 c)) (g:=fun d c=>strongL d (let1 c)) (fun d o acc=>s584 l m (.ref 2) o (some d.v) (some (cl (nums m (marks m l)))) [(2,.list (vs acc))] 3) (fun _ _=>True) (fun _=>True) (fun _ _ _=>rfl) (fun _=>rfl) (fun acc d c o ho hl _ _=>.inr ⟨let1 c,trivial,by
  rw [← vs_snoc]
  unfold let1
  by_cases h0:c = .AL
  ·rw [if_pos h0]
   exact B.by [.n ho,.b (qe h0),.b0,.b0,.b (qt (vlt hl))] (by kernel_rfl)
  ·rw [if_neg h0]
   by_cases h1:c ∈ [C.L,.R]
   ·have h2:c ≠ .EN:=by rintro rfl;revert h1;decide
    rw [show lnum1 d c = c from if_neg fun q=>h2 q.1,show strongL d c = c from if_pos h1]
    exact B.by [.n ho,.b (qn h0),.b (qi h1),.b (qn h2),.b (qt (vlt hl))] (by kernel_rfl)
   ·have h3:strongL d c = d:=if_neg h1
    unfold lnum1
    rw [h3]
    by_cases h2:c = .EN
    ·by_cases h4:d = .L
     ·rw [if_pos ⟨h2,h4⟩];exact B.by [.n ho,.b (qn h0),.b (qj h1),.b (qe h2),.b (qe h4),.b (qt (vlt hl))] (by kernel_rfl)
     ·rw [if_neg fun q=>h4 q.2];exact B.by [.n ho,.b (qn h0),.b (qj h1),.b (qe h2),.b (qn h4),.b (qt (vlt hl))] (by kernel_rfl)
    ·rw [if_neg fun q=>h2 q.1]
     exact B.by [.n ho,.b (qn h0),.b (qj h1),.b (qn h2),.b (qt (vlt hl))] (by kernel_rfl)⟩) (nums m (marks m l)) m (resl1 1 (cl (nums m (marks m l))) o2) [] (by cases o2 with
   | none=>rfl
   | some v=>cases v <;> first | rfl | exact nob n2) (by show 0 + _ < 900;rw [Nat.zero_add,ln];exact hl) trivial fun _ _=>trivial
 exact (pure_pfin (stp584 k _ _ _)).trans (pfinL (n:=2) (nx:=3) (ob:=[(2,.list (vs (weakF m l)))]) (B.fin [.f e1,.f e2,.f e3] (by kernel_rfl)) rfl (still_vs _))
noncomputable def wayv (c:C):V:=oV (strong c)
theorem nr_way (c:C):nr (wayv c) = true:=by unfold wayv;cases strong c <;> rfl
theorem way_fm (Z:List C):(Z.filter fun c=>(strong c).isSome).map wayv = vs (Z.filterMap strong):=by
 induction Z with
 | nil=>rfl
 | cons c Z ih=>
  cases z:strong c with
  | none=>rw [List.filterMap_cons_none z,List.filter_cons_of_neg (by rw [z];exact Bool.false_ne_true)];exact ih
  | some d=>
   rw [List.filterMap_cons_some z,List.filter_cons_of_pos (by rw [z];rfl)]
   show wayv c :: _ = d.v :: _
   rw [ih,show wayv c = d.v from congrArg oV z];rfl
theorem comp_ways (k:Nat) (Z:List C) (hl:Z.length<=lim) (S:SS):compM false [none,none,none] (.one 1) (vs Z,none,false) [] (oeCallP (en (k + 1)).rc 591 [(oeVar 1)]).f S = some (.lst (Z.map wayv),S):=
 comp_I (t:=.one 1) (b:=oeCallP (en (k + 1)).rc 591 [(oeVar 1)]) C.v wayv (fun S=>∃ o,nf o/\S = ⟨[none,o,none],[],0⟩) Z rfl (nrs_vs Z) (nrs_map nr_way Z) hl
  (fun c _ S ⟨o,ho,hS⟩=>⟨⟨[none,some c.v,none],[],0⟩,hS ▸ B.by [.n ho,.m (qc (l:=[c.v]) rfl (pc591 k c))] (by kernel_rfl),_,rfl,rfl⟩) ⟨none,rfl,rfl⟩
theorem comp_wayF (k:Nat) (Z:List C) (hl:Z.length<=lim) (S:SS):compM false [none,none,none] (.one 1) (vs Z,none,false) [(otCmp .IsNot (oeCallP (en (k + 1)).rc 591 [(oeVar 1)]) okN).f] (oeCallP (en (k + 1)).rc 591 [(oeVar 1)]).f S = some (cl (Z.filterMap strong),S):=by
 refine (comp_F (t:=.one 1) (tb:=otCmp .IsNot (oeCallP (en (k + 1)).rc 591 [(oeVar 1)]) okN) (b:=oeCallP (en (k + 1)).rc 591 [(oeVar 1)]) (q:=none) (pr:=false) (cp:=[none,none,none]) (S:=S) C.v (fun c=>(strong c).isSome) wayv (fun S=>∃ o,nf o/\S = ⟨[none,o,none],[],0⟩) Z rfl (nrs_vs Z) (nrs_map nr_way _) hl (fun c _ S ⟨o,ho,hS⟩=>?_) ⟨none,rfl,rfl⟩).trans (by rw [way_fm];rfl)
 subst hS
 have q:=qc (l:=[c.v]) rfl (pc591 k c)
 refine ⟨⟨[none,some c.v,none],[],0⟩,B.by [.n ho] (by kernel_rfl),?_,⟨_,rfl,rfl⟩,fun _=>B.by [.m q] (by kernel_rfl)⟩
 cases z:strong c with
 | none=>rw [z] at q;exact B.by [.m q] (by kernel_rfl)
 | some d=>rw [z] at q;exact B.by [.m q] (by kernel_rfl)
theorem any_way (c:C) (Z:List C):anyEq c.v (Z.map wayv) = some (decide (c ∈ Z.filterMap strong)):=by
 induction Z with
 | nil=>exact congrArg some (decide_eq_false List.not_mem_nil).symm
 | cons d Z ih=>
  show (veq1 (wayv d) c.v).bind (fun a=>(anyEq c.v (Z.map wayv)).bind fun b=>some (a || b)) = _
  rw [ih]
  unfold wayv
  cases z:strong d with
  | none=>
   rw [List.filterMap_cons_none z];rfl
  | some e=>
   rw [List.filterMap_cons_some z]
   show some ((e.s == c.s) || _) = _
   rw [C.eq_s]
   by_cases y:e = c
   ·rw [decide_eq_true y,decide_eq_true (show c ∈ e :: Z.filterMap strong from y ▸ List.mem_cons_self)];rfl
   ·rw [decide_eq_false y,Bool.false_or]
    exact congrArg some (decide_eq_decide.mpr ⟨List.mem_cons_of_mem _,fun w=>(List.mem_cons.mp w).elim (fun q=>absurd q.symm y) id⟩)
theorem last_cl (m:C) (N:List C) (S:SS):sub (cl (m :: N)) (.int (-1)) S = some ((N.getLastD m).v,S):=by
 rcases List.eq_nil_or_concat N with e | ⟨Y,x,e⟩
 ·rw [e];rfl
 ·rw [e,List.concat_eq_append,List.getLastD_concat,show cl (m :: (Y++[x])) = .lst (vs (m :: Y)++[x.v]) from congrArg V.lst (by rw [vs_snoc];rfl)]
  exact lst_end S
theorem head_cl (m:C) (F:List C) (S:SS):sub (cl (F++[m])) (.int 0) S = some ((F.headD m).v,S):=by
 cases F with
 | nil=>rfl
 | cons c F=>exact sub_lst (l:=vs (c :: F++[m])) (i:=0) rfl S
theorem add_cl {a b:List C} (h:a.length + b.length<=lim) (S:SS):bin false .Add (cl a) (cl b) S = some (cl (a++b),S):=by
 show mkL false (vs a++vs b) S = _
 rw [← vs_app]
 exact if_pos (by rw [vs_len,List.length_append];exact h)
theorem cut_r0 {f:List C} {lo hi:Option V} {x y:Option Nat} {S:SS} (h:olook 0 S.ob = some (.list (vs f))) (h1:bound lo = some x) (h2:bound hi = some y) (hl:f.length<=lim):slice false (.ref 0) lo hi S = some (cl (cut f x y),S):=by
 refine Eq.trans ?_ (cut_cl h1 h2 hl S)
 have e:listOf (.ref 0) S.ob = some (vs f):=by
  show (olook 0 S.ob).bind moL = _
  rw [h];rfl
 unfold slice
 rw [h1,h2]
 show (listOf (.ref 0) S.ob).bind _ = _
 rw [e];rfl
noncomputable def notN (c:C):Bool:=!decide (c = .NSM)
theorem comp_nsm (Z:List C) (hl:Z.length<=lim) (S:SS):compM false [none,none] (.one 1) (vs Z,none,false) [(otCmp .NotEq (oeVar 1) (okS "NSM")).f] (oeVar 1).f S = some (cl (Z.filter notN),S):=by
 refine comp_F (t:=.one 1) (tb:=otCmp .NotEq (oeVar 1) (okS "NSM")) (b:=oeVar 1) (q:=none) (pr:=false) (cp:=[none,none]) (S:=S) C.v notN C.v (fun S=>∃ o,nf o/\S = ⟨[none,o],[],0⟩) Z rfl (nrs_vs Z) (nrs_vs _) hl (fun c _ S ⟨o,ho,hS⟩=>?_) ⟨none,rfl,rfl⟩
 subst hS
 refine ⟨⟨[none,some c.v],[],0⟩,B.by [.n ho] (by kernel_rfl),?_,⟨_,rfl,rfl⟩,fun _=>rfl⟩
 unfold notN
 by_cases z:c = .NSM
 ·rw [decide_eq_true z];exact B.by [.b (congrArg (Option.map (!·)) (qe (d:=.NSM) z))] (by kernel_rfl)
 ·rw [decide_eq_false z];exact B.by [.b (congrArg (Option.map (!·)) (qn (d:=.NSM) z))] (by kernel_rfl)
noncomputable def opp (m:C):C:=if m = .L then .R else .L
noncomputable def st601 (cls ps:V) (m:C) (bg:List C) (o6 o7 o8 o9 o10 o11 o12:Option V) (f:List C):SS:=⟨[some cls,some ps,some m.v,some (cl bg),some (.ref 0),some (opp m).v,o6,o7,o8,o9,o10,o11,o12,none,none,none],[(0,.list (vs f))],1⟩
noncomputable def Zs (bg:List C) (a k:Nat):List C:=((bg.take k).drop (a + 1)).filter notN
theorem Zs_step {bg:List C} {a k:Nat} {c:C} {l:List C} (hd:bg.drop k = c :: l) (hk:a + 1<=k):Zs bg a (k + 1) = Zs bg a k++(if c = .NSM then [] else [c]):=by
 obtain ⟨hi,ec,_⟩:=dr_cons hd
 have et:bg.take (k + 1) = bg.take k++[c]:=by
  rw [List.take_succ_eq_append_getElem hi,← ec]
  unfold cAt
  rw [List.getD_eq_getElem?_getD,List.getElem?_eq_getElem hi];rfl
 unfold Zs
 rw [et,List.drop_append_of_le_length (by rw [List.length_take];exact Nat.le_min.mpr ⟨hk,Nat.le_trans hk (Nat.le_of_lt hi)⟩),List.filter_append]
 refine congrArg (List.append (((bg.take k).drop (a + 1)).filter notN)) ?_
 by_cases z:c = .NSM
 ·rw [if_pos z,List.filter_cons_of_neg (by unfold notN;rw [decide_eq_true z];exact Bool.false_ne_true)];rfl
 ·rw [if_neg z,List.filter_cons_of_pos (by unfold notN;rw [decide_eq_false z];rfl)];rfl
section
variable {cls ps:V} {m:C} {bg:List C} {o6 o7 o8 o9:Option V}
theorem loop601 (E:En) (d:C) (a:Nat) (h9:bg.length < 900) (l:List C):∀ (k:Nat) (o12:Option V) (f:List C),nf o12->bg.drop k = l->a + 1<=k->f.length = bg.length->∃ o12',nf o12'/\forL (.one 12) (f601_1 E).f ((List.range' k l.length).map natV) (st601 cls ps m bg o6 o7 o8 o9 (some d.v) (some (natV a)) o12 f) =
  some (.next,st601 cls ps m bg o6 o7 o8 o9 (some d.v) (some (natV a)) o12' (if Zs bg a k = [] then nput d l k f else f)):=by
 induction l with
 | nil=>intro k o12 f n _ _ _;exact ⟨o12,n,by rw [show nput d [] k f = f from rfl,ite_self];rfl⟩
 | cons c l ih=>
  intro k o12 f n hd hk hf
  obtain ⟨hi,ec,dl⟩:=dr_cons hd
  have hz:=Zs_step hd hk
  have lb:bg.length<=lim:=Nat.le_of_lt (Nat.lt_trans h9 (by decide))
  have hs:=cut_cl (f:=bg) (bound_succ (j:=a) (Nat.le_trans hk (Nat.le_trans (Nat.le_of_lt hi) lb))) (bound_succ (j:=k) (Nat.le_trans hi lb)) lb
  have hc:=comp_nsm (cut bg (some (a + 1)) (some (k + 1))) (Nat.le_trans (by show ((bg.take (k + 1)).drop (a + 1)).length<=bg.length;rw [List.length_drop,List.length_take];omega) lb)
  have hq:∀ ob,cmpv .Eq (cl (Zs bg a (k + 1))) (.lst []) ob = some (Zs bg a (k + 1)).isEmpty:=fun ob=>by
   show veqL (vs (Zs bg a (k + 1))) [] = _
   cases Zs bg a (k + 1) <;> rfl
  have hq:=hq [(0,.list (vs f))]
  by_cases z:Zs bg a (k + 1) = []
  ·have z1:Zs bg a k = []/\c = .NSM:=by
    rw [hz] at z
    obtain ⟨z1,z2⟩:=List.append_eq_nil_iff.mp z
    refine ⟨z1,?_⟩
    by_cases y:c = .NSM
    ·exact y
    ·rw [if_neg y] at z2;exact nomatch z2
   rw [show (Zs bg a (k + 1)).isEmpty = true by rw [z];rfl] at hq
   have e:(ontn (.one 12) (natV k) (f601_1 E)).f (st601 cls ps m bg o6 o7 o8 o9 (some d.v) (some (natV a)) o12 f) = some (.next,st601 cls ps m bg o6 o7 o8 o9 (some d.v) (some (natV a)) (some (natV k)) (f.set k d)):=by
    unfold st601
    rw [vs_set]
    exact B.by [.n n,.m hs,.m hc,.b hq,.b (qt (setOk (f:=f) (i:=k) (hf ▸ hi)))] (by kernel_rfl)
   obtain ⟨o',n',e2⟩:=ih (k + 1) (some (natV k)) (f.set k d) rfl dl (Nat.le_succ_of_le hk) (List.length_set.trans hf)
   rw [if_pos z] at e2
   rw [if_pos z1.1,show nput d (c :: l) k f = nput d l (k + 1) (f.set k d) from if_pos z1.2]
   exact ⟨o',n',(forL_cons e).trans e2⟩
  ·have hq':(Zs bg a (k + 1)).isEmpty = false:=List.isEmpty_eq_false_iff.mpr z
   rw [hq'] at hq
   have e:(ontn (.one 12) (natV k) (f601_1 E)).f (st601 cls ps m bg o6 o7 o8 o9 (some d.v) (some (natV a)) o12 f) = some (.next,st601 cls ps m bg o6 o7 o8 o9 (some d.v) (some (natV a)) (some (natV k)) f):=
    B.by [.n n,.m hs,.m hc,.b hq] (by kernel_rfl)
   obtain ⟨o',n',e2⟩:=ih (k + 1) (some (natV k)) f rfl dl (Nat.le_succ_of_le hk) hf
   rw [if_neg z] at e2
   have e3:(if Zs bg a k = [] then nput d (c :: l) k f else f) = f:=by
    by_cases y:Zs bg a k = []
    ·rw [if_pos y]
     refine if_neg fun w=>z ?_
     rw [hz,y,if_pos w];rfl
    ·exact if_neg y
   rw [e3]
   exact ⟨o',n',(forL_cons e).trans e2⟩
theorem at601 (E:En) (d:C) (a:Nat) (h9:bg.length < 900) (o11 o12:Option V) (n11:nf o11) (n12:nf o12) (f:List C) (ha:a < bg.length) (hf:f.length = bg.length) :
  ∃ o12',nf o12'/\(ontn (.one 11) (natV a) (f601_2 E)).f (st601 cls ps m bg o6 o7 o8 o9 (some d.v) o11 o12 f) = some (.next,st601 cls ps m bg o6 o7 o8 o9 (some d.v) (some (natV a)) o12' (put1B bg d f a)):=by
 obtain ⟨o',n',e⟩:=loop601 (cls:=cls) (ps:=ps) (m:=m) (o6:=o6) (o7:=o7) (o8:=o8) (o9:=o9) E d a h9 (bg.drop (a + 1)) (a + 1) o12 (f.set a d) n12 rfl (Nat.le_refl _) (List.length_set.trans hf)
 rw [if_pos (show Zs bg a (a + 1) = [] by unfold Zs;rw [List.drop_of_length_le (by rw [List.length_take];exact Nat.min_le_left _ _)];rfl)] at e
 rw [show (List.range' (a + 1) (bg.drop (a + 1)).length).map natV = rangeV ((a:Int) + 1) (((vs f).set a d.v).length:Int) from by
  rw [List.length_set,vs_len,hf,List.length_drop]
  exact (rangeV_nat (a + 1) bg.length).symm] at e
 refine ⟨o',n',?_⟩
 unfold st601 at e
 rw [vs_set] at e
 exact B.by [.n n11,.b (qt (setOk (f:=f) (i:=a) (hf ▸ ha))),.m0,.b (qr (small_le (i:=(a:Int) + 1) (by omega) (by omega)) (small_le (i:=(((vs f).set a d.v).length:Int)) (by omega) (by rw [List.length_set,vs_len,hf];omega))),.f e] (by kernel_rfl)
end
theorem opp_lr {m d:C} (hm:lr m) (hd:lr d) (h:d ≠ m):d = opp m:=by
 rcases hm with e | e <;> rcases hd with g | g <;> subst e <;> subst g <;> first | rfl | exact absurd rfl h
theorem len_le {l:List C} {x y:Option Nat}:(cut l x y).length<=l.length:=by
 unfold cut
 rw [List.length_drop]
 refine Nat.le_trans (Nat.sub_le _ _) ?_
 cases y with
 | none=>exact Nat.le_refl _
 | some y=>exact Nat.le_trans (Nat.le_of_eq List.length_take) (Nat.min_le_right _ _)
inductive R601 (cls ps:V) (m:C) (bg res:List C) (qs:PL):SS->Prop
 | mk (f:List C) (o6 o7 o8 o9 o10 o11 o12:Option V) (n6:nf o6) (n7:nf o7) (n8:nf o8) (n9:nf o9) (n10:nf o10) (n11:nf o11) (n12:nf o12) (hf:f.length = bg.length) (hp:∀ p ∈ qs,p.1 < bg.length/\p.2 < bg.length) (e:brks bg m m qs f = res):R601 cls ps m bg res qs (st601 cls ps m bg o6 o7 o8 o9 o10 o11 o12 f)
theorem step601 (k:Nat) {cls ps:V} {m:C} (hm:lr m) {bg res:List C} (h9:bg.length < 900) (p:Nat × Nat) (qs:PL) (S:SS) (r:R601 cls ps m bg res (p :: qs) S):∃ S',(ontn (.many [6,7]) (pairV p) (f601_3 (en (k + 1)))).f S = some (.next,S')/\R601 cls ps m bg res qs S':=by
 obtain ⟨f,o6,o7,o8,o9,o10,o11,o12,n6,n7,n8,n9,n10,n11,n12,hf,hp,e⟩:=r
 obtain ⟨a,b⟩:=p
 obtain ⟨ha,hb⟩:a < bg.length/\b < bg.length:=hp _ List.mem_cons_self
 have hp':=fun p h=>hp p (List.mem_cons_of_mem (a,b) h)
 have lb:bg.length<=lim:=Nat.le_of_lt (Nat.lt_trans h9 (by decide))
 have lf:f.length<=lim:=hf ▸ lb
 have hs1:=cut_r0 (S:=st601 cls ps m bg (some (natV a)) (some (natV b)) o8 o9 o10 o11 o12 f) rfl (bound_succ (j:=a) (Nat.le_trans ha lb)) (bound_nat (n:=b) (Nat.le_trans (Nat.le_of_lt hb) lb)) lf
 have hc1:=comp_ways k (cut f (some (a + 1)) (some b)) (Nat.le_trans len_le lf)
 have hs2:=cut_r0 (S:=st601 cls ps m bg (some (natV a)) (some (natV b)) (some (.lst ((cut f (some (a + 1)) (some b)).map wayv))) o9 o10 o11 o12 f) (lo:=none) (x:=none) rfl rfl (bound_nat (n:=a) (Nat.le_trans (Nat.le_of_lt ha) lb)) lf
 have hc2:=comp_wayF k (cut f none (some a)) (Nat.le_trans len_le lf)
 have hadd:=add_cl (a:=[m]) (b:=(cut f none (some a)).filterMap strong) (Nat.le_trans (Nat.add_le_add_left (Nat.le_trans (List.length_filterMap_le _ _) (Nat.le_trans len_le (Nat.le_of_eq hf))) 1) (by show 1 + bg.length<=lim;exact Nat.le_trans (by omega) (show 900<=lim by decide)))
 have q1:=any_way m (cut f (some (a + 1)) (some b))
 have q2:=any_way (opp m) (cut f (some (a + 1)) (some b))
 have hl:=last_cl m ((cut f none (some a)).filterMap strong)
 have hnl:=near_lr (f.take a) hm
 have fin:∀ d:C,dirB f m m (a,b) = some d->∃ S',forL (.one 11) (f601_2 (en (k + 1))).f [natV a,natV b] (st601 cls ps m bg (some (natV a)) (some (natV b)) (some (.lst ((cut f (some (a + 1)) (some b)).map wayv))) (some (cl ([m]++(cut f none (some a)).filterMap strong))) (some d.v) o11 o12 f) = some (.next,S')/\R601 cls ps m bg res qs S':=fun d hd=>by
  obtain ⟨p1,m1,e1⟩:=at601 (cls:=cls) (ps:=ps) (m:=m) (o6:=some (natV a)) (o7:=some (natV b)) (o8:=(some (.lst ((cut f (some (a + 1)) (some b)).map wayv)))) (o9:=some (cl ([m]++(cut f none (some a)).filterMap strong))) (en (k + 1)) d a h9 o11 o12 n11 n12 f ha hf
  have h1:=(put1B_len bg d f a).trans hf
  obtain ⟨p2,m2,e2⟩:=at601 (cls:=cls) (ps:=ps) (m:=m) (o6:=some (natV a)) (o7:=some (natV b)) (o8:=(some (.lst ((cut f (some (a + 1)) (some b)).map wayv)))) (o9:=some (cl ([m]++(cut f none (some a)).filterMap strong))) (en (k + 1)) d b h9 (some (natV a)) p1 rfl m1 (put1B bg d f a) hb h1
  refine ⟨_,(forL_cons (r:=[natV b]) e1).trans (forL_cons (r:=[]) e2),.mk (put1B bg d (put1B bg d f a) b) (some (natV a)) (some (natV b)) (some (.lst ((cut f (some (a + 1)) (some b)).map wayv))) (some (cl ([m]++(cut f none (some a)).filterMap strong))) (some d.v) (some (natV b)) p2 rfl rfl rfl rfl rfl rfl m2 ((put1B_len _ _ _ _).trans h1) hp' ?_⟩
  rw [← e]
  show _ = brks bg m m qs (brk1 bg m m f (a,b))
  unfold brk1
  rw [hd];rfl
 by_cases z1:m ∈ (cut f (some (a + 1)) (some b)).filterMap strong
 ·obtain ⟨S',e1,R⟩:=fin m (if_pos z1)
  rw [decide_eq_true z1] at q1
  exact ⟨_,B.by [.n n6,.n n7,.s hs1,.m hc1,.n n8,.s hs2,.m hc2,.m hadd,.n n9,.b q1,.b q1,.n n10,.f e1] (by kernel_rfl),R⟩
 ·rw [decide_eq_false z1] at q1
  by_cases z2:opp m ∈ (cut f (some (a + 1)) (some b)).filterMap strong
  ·rw [decide_eq_true z2] at q2
   have hd:dirB f m m (a,b) = some (nearW (f.take a) m):=(if_neg z1).trans (if_neg fun y=>absurd ((show (cut f (some (a + 1)) (some b)).filterMap strong = [] from y) ▸ z2) List.not_mem_nil)
   obtain ⟨S',e1,R⟩:=fin _ hd
   have hl:∀ S,sub (cl ([m]++(cut f none (some a)).filterMap strong)) (.int (-1)) S = some ((nearW (f.take a) m).v,S):=hl
   by_cases y:nearW (f.take a) m = m
   ·rw [y] at e1
    exact ⟨_,B.by [.n n6,.n n7,.s hs1,.m hc1,.n n8,.s hs2,.m hc2,.m hadd,.n n9,.b q1,.b q2,.b q1,.m hl,.b (qe y),.n n10,.f e1] (by kernel_rfl),R⟩
   ·rw [opp_lr hm hnl y] at e1
    exact ⟨_,B.by [.n n6,.n n7,.s hs1,.m hc1,.n n8,.s hs2,.m hc2,.m hadd,.n n9,.b q1,.b q2,.b q1,.m hl,.b (qn y),.n n10,.f e1] (by kernel_rfl),R⟩
  ·rw [decide_eq_false z2] at q2
   have h0:(cut f (some (a + 1)) (some b)).filterMap strong = []:=by
    refine List.eq_nil_iff_forall_not_mem.mpr fun d hd=>?_
    by_cases y:d = m
    ·exact z1 (y ▸ hd)
    ·exact z2 (opp_lr hm (lr_strong hd) y ▸ hd)
   refine ⟨_,B.by [.n n6,.n n7,.s hs1,.m hc1,.n n8,.s hs2,.m hc2,.m hadd,.n n9,.b q1,.b q2] (by kernel_rfl),.mk f (some (natV a)) (some (natV b)) (some (.lst ((cut f (some (a + 1)) (some b)).map wayv))) (some (cl ([m]++(cut f none (some a)).filterMap strong))) o10 o11 o12 rfl rfl rfl rfl n10 n11 n12 hf hp' ?_⟩
   rw [← e]
   show _ = brks bg m m qs (brk1 bg m m f (a,b))
   unfold brk1
   rw [show dirB f m m (a,b) = none from (if_neg z1).trans (if_pos h0)];rfl
theorem pc601 (k:Nat) {m:C} (hm:lr m) (l bg:List C) (ps:PL) (hl:l.length = bg.length) (h9:bg.length < 900) (hp:∀ p ∈ ps,p.1 < bg.length/\p.2 < bg.length) :
  pureCall (F (k + 2)) 601 [cl l,.lst (ps.map pairV),m.v,cl bg] = some (cl (brks bg m m ps l)):=by
 obtain ⟨S',e,r⟩:=loopI (t:=.many [6,7]) pairV (R601 (cl l) (.lst (ps.map pairV)) m bg (brks bg m m ps l)) (b:=f601_3 (en (k + 1))) (step601 k hm h9) ps _ (.mk l none none none none none none none rfl rfl rfl rfl rfl rfl rfl hl hp rfl)
 obtain ⟨f,o6,o7,o8,o9,o10,o11,o12,_,_,_,_,_,_,_,_,_,e'⟩:=r
 have e':f = _:=e'
 subst e'
 refine (pure_pfin (stp601 (k + 1) _ _ _ _ _)).trans (pfin0 (still_vs _) ?_)
 have hL:=list_cl (l:=l) (Nat.le_of_lt (Nat.lt_trans (hl ▸ h9) (by decide))) [some (cl l),some (.lst (ps.map pairV)),some m.v,some (cl bg),none,none,none,none,none,none,none,none,none,none,none,none] [] 0
 rcases hm with h | h <;> subst h <;> exact B.fin [.s hL,.b0,.f e] (by kernel_rfl)
noncomputable def s606 (l:List C) (m:C) (o3 o4 o5 o6:Option V) (acc:List C):SS:=⟨[some (cl l),some m.v,some (.ref 0),o3,o4,o5,o6,none,none],[(0,.list (vs acc))],1⟩
inductive R606 (l:List C) (m:C) (res:List C):List (Nat × C)->SS->Prop
 | mk (k:Nat) (r acc:List C) (o3 o4 o5 o6:Option V) (n3:nf o3) (n4:nf o4) (n5:nf o5) (n6:nf o6) (hd:l.drop k = r) (hl:acc.length + r.length < 900) (e:acc++setl m (l.take k) r = res):R606 l m res (ens k r) (s606 l m o3 o4 o5 o6 acc)
theorem pc606 (k:Nat) (l:List C) {m:C} (hl:l.length < 900):pureCall (F (k + 2)) 606 [cl l,m.v] = some (cl (setl m [] l)):=by
 have lb:l.length<=lim:=Nat.le_of_lt (Nat.lt_trans hl (by decide))
 obtain ⟨S',e,r⟩:=loopI (t:=.many [3,4]) (b:=f606_1 (en (k + 1))) enumV (R606 l m (setl m [] l)) (fun p its S r=>by
  generalize hi:p :: its = xs at r
  obtain ⟨j,r,acc,o3,o4,o5,o6,n3,n4,n5,n6,hd,hn,e⟩:=r
  cases r with
  | nil=>exact nomatch hi
  | cons c r=>
   cases hi
   obtain ⟨hj,ec,dl⟩:=dr_cons hd
   have hn:acc.length + (r.length + 1) < 900:=hn
   have et:l.take (j + 1) = l.take j++[c]:=by
    rw [List.take_succ_eq_append_getElem hj,← ec]
    unfold cAt
    rw [List.getD_eq_getElem?_getD,List.getElem?_eq_getElem hj];rfl
   have q:=qc (l:=[c.v]) rfl (pc591 k c)
   have ha:=qt (vlt (show acc.length < 900 by omega))
   have fin:∀ (x:C) (o5' o6':Option V),nf o5'->nf o6'->setK m (l.take j) c r = x->R606 l m (setl m [] l) (ens (j + 1) r) (s606 l m (some (natV j)) (some x.v) o5' o6' (acc++[x])):=fun x o5' o6' n5' n6' hx=>
    .mk (j + 1) r (acc++[x]) _ _ _ _ rfl rfl n5' n6' dl (by rw [List.length_append,List.length_singleton];omega) (by rw [et,← e,List.append_assoc,← hx];rfl)
   cases z:strong c with
   | some d=>
    rw [z] at q
    refine ⟨_,?_,fin c o5 o6 n5 n6 (if_neg (by rw [z];exact fun w=>nomatch w))⟩
    unfold s606
    rw [← vs_snoc]
    exact B.by [.n n3,.n n4,.m q,.b0,.b ha] (by kernel_rfl)
   | none=>
    rw [z] at q
    have bj:=bound_nat (n:=j) (Nat.le_trans (Nat.le_of_lt hj) lb)
    have h1:=cut_cl (f:=l) (lo:=none) (x:=none) rfl bj lb
    have h2:=cut_cl (f:=l) (hi:=none) (y:=none) bj rfl lb
    have c1:=comp_wayF k (cut l none (some j)) (Nat.le_trans len_le lb)
    have c2:=comp_wayF k (cut l (some j) none) (Nat.le_trans len_le lb)
    have f1:((cut l none (some j)).filterMap strong).length<=l.length:=Nat.le_trans (List.length_filterMap_le _ _) len_le
    have f2:((cut l (some j) none).filterMap strong).length<=l.length:=Nat.le_trans (List.length_filterMap_le _ _) len_le
    have a1:=add_cl (a:=[m]) (b:=(cut l none (some j)).filterMap strong) (Nat.le_trans (Nat.add_le_add_left f1 1) (Nat.le_trans (show 1 + l.length<=900 by omega) (by decide)))
    have a2:=add_cl (a:=(cut l (some j) none).filterMap strong) (b:=[m]) (Nat.le_trans (Nat.add_le_add_right f2 1) (Nat.le_trans (show l.length + 1<=900 by omega) (by decide)))
    have g1:=last_cl m ((cut l none (some j)).filterMap strong)
    have g2:=head_cl m ((cut l (some j) none).filterMap strong)
    have hk:setK m (l.take j) c r = if nearW (l.take j) m = farW (l.drop j) m then nearW (l.take j) m else m:=by rw [hd];exact if_pos z
    by_cases y:nearW (l.take j) m = farW (l.drop j) m
    ·rw [if_pos y] at hk
     refine ⟨_,?_,fin (nearW (l.take j) m) (some (cl ([m]++(cut l none (some j)).filterMap strong))) (some (cl ((cut l (some j) none).filterMap strong++[m]))) rfl rfl hk⟩
     unfold s606
     rw [← vs_snoc]
     exact B.by [.n n3,.n n4,.m q,.b0,.m h1,.m c1,.m a1,.n n5,.m h2,.m c2,.m a2,.n n6,.m g1,.m g2,.b (qe (c:=nearW (l.take j) m) (d:=farW (l.drop j) m) y),.m g1,.b ha] (by kernel_rfl)
    ·rw [if_neg y] at hk
     refine ⟨_,?_,fin m (some (cl ([m]++(cut l none (some j)).filterMap strong))) (some (cl ((cut l (some j) none).filterMap strong++[m]))) rfl rfl hk⟩
     unfold s606
     rw [← vs_snoc]
     exact B.by [.n n3,.n n4,.m q,.b0,.m h1,.m c1,.m a1,.n n5,.m h2,.m c2,.m a2,.n n6,.m g1,.m g2,.b (qn (c:=nearW (l.take j) m) (d:=farW (l.drop j) m) y),.b ha] (by kernel_rfl)) (ens 0 l) _
  (.mk 0 l [] none none none none rfl rfl rfl rfl rfl (by show 0 + _ < 900;rw [Nat.zero_add];exact hl) rfl)
 rw [← enum_vs] at e
 generalize hi:([]:List (Nat × C)) = xs at r
 obtain ⟨j,r,acc,o3,o4,o5,o6,_,_,_,_,_,_,e'⟩:=r
 cases r with
 | cons _ _=>exact nomatch hi
 | nil=>
  rw [show setl m (l.take j) [] = [] from rfl,List.append_nil] at e'
  subst e'
  exact (pure_pfin (stp606 (k + 1) _ _ _)).trans (pfin0 (still_vs _) (B.fin [.f e] (by kernel_rfl)))
noncomputable def K3:List C:=[.L,.R,.AL,.EN,.AN,.ON,.WS,.NSM]
theorem pc551 (k:Nat):pureCall (F (k + 1)) 551 [] = some (.lst (allS.map fun g=>sgV (some g))):=(pure_pfin (stp551 k _)).trans (by kernel_rfl)
noncomputable def matesV:V:=(pfin ((b558 (en 0)).f ⟨[],[],0⟩)).getD .none
theorem pc558 (k:Nat):pureCall (F (k + 1)) 558 [] = some matesV:=(pure_pfin (stp558 k _)).trans (by kernel_rfl)
theorem pc565 (k:Nat):pureCall (F (k + 1)) 565 [] = some (cl K3):=(pure_pfin (stp565 k _)).trans (by kernel_rfl)
theorem sub_mates (g:Sg) (S:SS):sub matesV (natV g.code) S = some (natV g.mate,S):=by cases g <;> kernel_rfl
noncomputable def dkO (cells:List Int) (k:Nat):MO:=.dict [.s "cells",.s "at"] [il cells,natV k]
theorem cut_lo {l:List V} {k:Nat} (hk:k<=lim) (hl:l.length<=lim) (S:SS):slice false (.lst l) none (some (.int (k:Int))) S = some (.lst (l.take k),S):=
 (slice_lst false l none _ S rfl (bound_nat hk)).trans (if_pos (Nat.le_trans (Nat.le_of_eq List.length_take) (Nat.le_trans (Nat.min_le_right _ _) hl)))
theorem imp_ok {rc:Raw} {a:Addr} {vs:List V} {v:V} {S:SS} {ob:OB} {nx:Nat} (h:rc a vs (S.ob,S.nx) = some (v,(ob,nx))):impCall rc a vs S = some (v,⟨S.sl,ob,nx⟩):=by
 unfold impCall
 rw [h];rfl
theorem deck (k:Nat) (ns:List Int) (hn:ns.length<=lim):F (k + 1) 570 [il ns] ([],0) = some (.ref 0,([(0,dkO ((ns.take 40).map fun x=>x % 1000000007) 0)],1)):=by
 have hs:=cut_lo (l:=ns.map .int) (k:=40) (by decide) (by rw [List.length_map];exact hn) ⟨[some (il ns)],[],0⟩
 rw [← List.map_take] at hs
 have hc:=comp_I (t:=.one 1) (p:=false) (cp:=[none,none,none]) (sl:=[some (il ns)]) (ob:=[]) (nx:=0) (b:=oeBin false .Mod (oeInt (oeVar 1)) (okI 1000000007)) V.int (fun x=>V.int (x % 1000000007)) (fun S=>∃ o,nf o/\S = ⟨[none,o,none],[],0⟩) (ns.take 40) rfl (nrs_il _) (nrs_ints _ _) (Nat.le_trans (Nat.le_of_eq List.length_take) (Nat.le_trans (Nat.min_le_right _ _) hn))
  (fun x _ S ⟨o,ho,hS⟩=>⟨⟨[none,some (.int x),none],[],0⟩,hS ▸ B.by [.n ho] (by kernel_rfl),_,rfl,rfl⟩) ⟨none,rfl,rfl⟩
 have e:=B.by (b:=oeComp false [none,none,none] (.one 1) (osrcSeq (oeSlice false (oeVar 0) none (some (okI 40)))) [] (oeBin false .Mod (oeInt (oeVar 1)) (okI 1000000007))) (s:=⟨[some (il ns)],[],0⟩) (r:=(.lst ((ns.take 40).map fun x=>V.int (x % 1000000007)),⟨[some (il ns)],[],0⟩)) [.s hs,.s hc] (by kernel_rfl)
 have hm:((ns.take 40).map fun x=>x % 1000000007).map V.int = (ns.take 40).map fun x=>V.int (x % 1000000007):=List.map_map
 refine (stp570 k _ _).trans ?_
 unfold dkO il
 rw [hm]
 have hp:ePairs [(okS "cells").f,(okS "at").f] [(oeComp false [none,none,none] (.one 1) (osrcSeq (oeSlice false (oeVar 0) none (some (okI 40)))) [] (oeBin false .Mod (oeInt (oeVar 1)) (okI 1000000007))).f,(okI 0).f] ⟨[some (il ns)],[],0⟩ = some (([.str "cells",.str "at"],[.lst ((ns.take 40).map fun x=>V.int (x % 1000000007)),.int 0]),⟨[some (il ns)],[],0⟩):=
  (bnd_eq (f:=(okS "cells").f) (a:=.str "cells") (S1:=⟨[some (il ns)],[],0⟩) rfl).trans ((bnd_eq e).trans rfl)
 have ed:(oeDict true [(okS "cells"),(okS "at")] [(oeComp false [none,none,none] (.one 1) (osrcSeq (oeSlice false (oeVar 0) none (some (okI 40)))) [] (oeBin false .Mod (oeInt (oeVar 1)) (okI 1000000007))),(okI 0)]).f ⟨[some (il ns)],[],0⟩ = some (.ref 0,⟨[some (il ns)],[(0,.dict [.s "cells",.s "at"] [.lst ((ns.take 40).map fun x=>V.int (x % 1000000007)),natV 0])],1⟩):=(bnd_eq hp).trans rfl
 have er:(b570 (en k)).f ⟨[some (il ns)],[],0⟩ = some (.ret (.ref 0),⟨[some (il ns)],[(0,.dict [.s "cells",.s "at"] [.lst ((ns.take 40).map fun x=>V.int (x % 1000000007)),natV 0])],1⟩):=(bnd_eq (f:=sRet _) ((bnd_eq ed).trans rfl)).trans rfl
 show fin ((b570 (en k)).f ⟨[some (il ns)],[],0⟩) = _
 rw [er];rfl
noncomputable def rest577:B Fl:=
 (osSeq (osIf (otCmp .Lt (oeVar 2) (oeLen (oeVar 3)))
 (osSeq (osRet (oeBin false .Mod (oeSub (oeVar 3) (oeVar 2)) (oeVar 1)))
 osNext)
 osNext)
 (osSeq (osIf (otCmp .Eq (oeVar 3) (oeList false []))
 (osSeq (osRet (oeBin false .Mod (oeBin false .Add (oeBin false .Mult (oeVar 2) (okI 7)) (oeBin false .FloorDiv (oeVar 2) (okI 3))) (oeVar 1)))
 osNext)
 osNext)
 (osSeq (osRet (oeBin false .Mod (oeBin false .Add (oeBin false .FloorDiv (oeSub (oeVar 3) (oeBin false .Mod (oeVar 2) (oeLen (oeVar 3)))) (oeBin false .Add (oeVar 2) (okI 1))) (oeBin false .Mult (oeVar 2) (okI 5))) (oeVar 1)))
 osNext)))
theorem bin_ar {op:Operator} {x y z:Int} (h:arith op x y = some z) (S:SS):bin false op (.int x) (.int y) S = some (.int z,S):=by
 show (arith op x y).map _ = _
 rw [h];rfl
theorem il_at {l:List Int} {i:Nat} (h:i < l.length) (S:SS):sub (il l) (.int (i:Int)) S = some (.int (l.getD i 0),S):=sub_lst (by
 rw [List.getElem?_map,List.getD_eq_getElem?_getD,List.getElem?_eq_getElem h];rfl) S
theorem rest_ok (cells:List Int) (j:Nat) (below:Int) (hb:0 < below) (hj:j < 1000) (ob:OB) (nx:Nat):∃ x:Int,fin (rest577.f ⟨[some (.ref 0),some (.int below),some (natV j),some (il cells),none],ob,nx⟩) = some (.int (x % below),(ob,nx)):=by
 have hm:∀ x S,bin false .Mod (.int x) (.int below) S = some (.int (x % below),S):=fun x=>bin_ar (if_pos hb)
 have hbig:∀ y:Int,0 < y->y < 10->∀ S,bin false .Mult (natV j) (.int y) S = some (.int ((j:Int) * y),S):=fun y h1 h2=>by
  have q:-big < (j:Int)/\(j:Int) < big/\-big < y/\y < big:=by unfold big;omega
  have e:arith .Mult (j:Int) y = some ((j:Int) * y):=by unfold arith;dsimp only;rw [if_pos q]
  exact bin_ar e
 by_cases h:j < cells.length
 ·exact ⟨cells.getD j 0,B.fin [.m (len_il cells),.b (qt (Int.ofNat_lt.mpr h)),.m (il_at h),.m (hm (cells.getD j 0))] (by kernel_rfl)⟩
 ·have h':¬ (j:Int) < (cells.length:Int):=fun z=>h (Int.ofNat_lt.mp z)
  cases cells with
  | nil=>exact ⟨(j:Int) * 7 + (j:Int) / 3,B.fin [.m (len_il []),.b (qf h'),.b0,.m (hbig 7 (by decide) (by decide)),.m0,.m (hm ((j:Int) * 7 + (j:Int) / 3))] (by kernel_rfl)⟩
  | cons c l=>
   have hl:0 < (c :: l).length:=Nat.succ_pos _
   have m0:=bin_ar (op:=.Mod) (x:=(j:Int)) (y:=((c :: l).length:Int)) (z:=((j % (c :: l).length:Nat):Int)) (if_pos (Int.ofNat_lt.mpr hl))
   have m1:=il_at (l:=c :: l) (Nat.mod_lt j hl)
   have m2:=bin_ar (op:=.FloorDiv) (x:=(c :: l).getD (j % (c :: l).length) 0) (y:=(j:Int) + 1) (z:=(c :: l).getD (j % (c :: l).length) 0 / ((j:Int) + 1)) (by
    have q:0 < (j:Int) + 1/\(j:Int) + 1 < 1000000000:=by omega
    unfold arith;dsimp only;rw [if_pos q])
   have hne:cmpv .Eq (il (c :: l)) (.lst []) ob = some false:=rfl
   exact ⟨(c :: l).getD (j % (c :: l).length) 0 / ((j:Int) + 1) + (j:Int) * 5,B.fin [.m (len_il (c :: l)),.b (qf h'),.b hne,.m (len_il (c :: l)),.m m0,.m m1,.m m2,.m (hbig 5 (by decide) (by decide)),.m (hm ((c :: l).getD (j % (c :: l).length) 0 / ((j:Int) + 1) + (j:Int) * 5))] (by kernel_rfl)⟩
theorem seqN {x y:B Fl} {S S1:SS} (h:x.f S = some (.next,S1)):(osSeq x y).f S = y.f S1:=show sSeq x.f y.f S = _ from bnd_eq h
noncomputable def X4 (ss bs cs:List V) (dk:MO):OB:=[(3,.list cs),(2,.list bs),(1,.list ss),(0,dk)]
theorem bel_up {nx:Nat} {v:V} (h:nr v = true):belV nx v = true:=by
 cases v with
 | ref n=>exact nob h
 | _=>exact h
theorem all_up {nx:Nat} {l:List V} (h:nrs l = true):l.all (belV nx) = true:=by
 induction l with
 | nil=>rfl
 | cons v l ih=>
  obtain ⟨h1,h2⟩:=Bool.and_eq_true_iff.mp h
  exact Bool.and_eq_true_iff.mpr ⟨bel_up h1,ih h2⟩
theorem lx4 {ss bs cs:List V} (h1:nrs ss = true) (h2:nrs bs = true) (h3:nrs cs = true) (cells:List Int) (j:Nat):LX (X4 ss bs cs (dkO cells j)):=fun nx hn=>
 low_in (by omega) (all_up h3) (low_in (by omega) (all_up h2) (low_in (by omega) (all_up h1) (low_in (r:=[]) (r':=[]) (by omega) (all_up (show nrs [il cells,natV j] = true by show (nrs (cells.map .int) && true) = true;rw [nrs_il];rfl)) rfl)))
theorem draw (k:Nat) {ss bs cs:List V} (h1:nrs ss = true) (h2:nrs bs = true) (h3:nrs cs = true) {cells:List Int} {j below:Nat} (hb:0 < below) (hj:j < 1000) :
  ∃ r:Nat,r < below/\F (k + 1) 577 [.ref 0,.int (below:Int)] (hN (X4 ss bs cs (dkO cells j)),6) = some (natV r,(hN (X4 ss bs cs (dkO cells (j + 1))),6)):=by
 have hb':(0:Int) < (below:Int):=Int.ofNat_lt.mpr hb
 obtain ⟨x,e⟩:=rest_ok cells j below hb' hj (hN (X4 ss bs cs (dkO cells (j + 1)))) 6
 obtain ⟨r,hr⟩:=Int.eq_ofNat_of_zero_le (Int.emod_nonneg x (Int.ne_of_gt hb'))
 have hl:=Int.emod_lt_of_pos x hb'
 rw [hr] at e hl
 refine ⟨r,Int.ofNat_lt.mp hl,(stp577 k _ _ _).trans ?_⟩
 have s1:=B.by (b:=osAsgR [2,3] (oeTup [(oeSub (oeVar 0) (okS "at")),(oeSub (oeVar 0) (okS "cells"))])) (s:=⟨[some (.ref 0),some (.int below),none,none,none],hN (X4 ss bs cs (dkO cells j)),6⟩) (r:=(.next,⟨[some (.ref 0),some (.int below),some (natV j),some (il cells),none],hN (X4 ss bs cs (dkO cells j)),6⟩)) [] (by kernel_rfl)
 have s2:=B.by (b:=osSet (oeVar 0) (okS "at") (oeBin false .Add (oeVar 2) (okI 1))) (s:=⟨[some (.ref 0),some (.int below),some (natV j),some (il cells),none],hN (X4 ss bs cs (dkO cells j)),6⟩) (r:=(.next,⟨[some (.ref 0),some (.int below),some (natV j),some (il cells),none],hN (X4 ss bs cs (dkO cells (j + 1))),6⟩)) [] (by kernel_rfl)
 have e2:(b577 (en k)).f ⟨[some (.ref 0),some (.int below),none,none,none],hN (X4 ss bs cs (dkO cells j)),6⟩ = rest577.f ⟨[some (.ref 0),some (.int below),some (natV j),some (il cells),none],hN (X4 ss bs cs (dkO cells (j + 1))),6⟩:=
  (seqN (y:=osSeq (osSet (oeVar 0) (okS "at") (oeBin false .Add (oeVar 2) (okI 1))) rest577) s1).trans (seqN s2)
 show (fin ((b577 (en k)).f ⟨[some (.ref 0),some (.int below),none,none,none],hN (X4 ss bs cs (dkO cells j)),6⟩)).bind (tidy 6) = _
 rw [e2,e]
 have hl:lowOb 6 (hN (X4 ss bs cs (dkO cells (j + 1)))) = some (hN (X4 ss bs cs (dkO cells (j + 1)))):=low5 (nx:=6) (ks:=[]) (vs:=[]) (by decide) (lx4 h1 h2 h3 cells (j + 1)) rfl
 generalize hN (X4 ss bs cs (dkO cells (j + 1))) = G at hl ⊢
 exact tidyI (nx:=6) (nx':=6) (v:=natV r) rfl hl
inductive It where
 | s (g:Sg)
 | c (c:C)
noncomputable def ixK:C->Nat
 | .L=>0 | .R=>1 | .AL=>2 | .EN=>3 | .AN=>4 | .ON=>5 | .WS=>6 | .NSM=>7 | _=>8
noncomputable def It.k:It->C
 | .s _=>.ON
 | .c d=>d
noncomputable def It.o:It->Option Sg
 | .s g=>some g
 | .c _=>none
noncomputable def It.n:It->Nat
 | .s g=>g.code
 | .c d=>1000 + ixK d
noncomputable def It.ok (i:It):Prop:=ixK i.k < 8
noncomputable def It.sv (i:It):V:=sgV i.o
noncomputable def It.kv (i:It):V:=i.k.v
noncomputable def It.nv (i:It):V:=natV i.n
noncomputable def hI (its:List It) (cells:List Int) (j:Nat):OB:=X4 (its.map It.sv) (its.map It.kv) (its.map It.nv) (dkO cells j)
theorem nr_sg (o:Option Sg):nr (sgV o) = true:=by cases o <;> rfl
theorem go_ix (rc:Raw) (mt:Addr->Str->Option Addr) {c:C} (h:ixK c < 8) (S:SS):methGo rc mt .index (cl K3) .list [c.v] S = some (natV (ixK c),S):=by
 cases c <;> first | exact absurd h (by decide) | kernel_rfl
noncomputable def s611 (x:V) (w:Option V) (o7 o8 o9 o10 o11:Option V) (ob:OB) (nx:Nat):SS:=⟨[some x,some (.ref 0),some (.ref 1),some (.ref 2),some (.ref 3),some (.ref 4),w,o7,o8,o9,o10,o11,none,none,none,none,none,none,none,none,none,none,none,none,none,none,none,none,none,none,none,none],ob,nx⟩
inductive R611 (x:V) (w:Option V) (cells:List Int) (n:Nat) (is:List Nat):SS->Prop
 | mk (its:List It) (j:Nat) (o7 o8 o9 o10:Option V) (n7:nf o7) (n8:nf o8) (n9:nf o9) (n10:nf o10) (hi:its.length + is.length = n) (hj:j + is.length < 900) (h:∀ i ∈ its,i.ok):R611 x w cells n is (s611 x w o7 o8 o9 o10 none (hN (hI its cells j)) 6)
theorem step611 (k:Nat) {x:V} {w:Option V} {cells:List Int} {n:Nat} (hn:n<=20) (i:Nat) (is:List Nat) (S:SS) (R:R611 x w cells n (i :: is) S):∃ S',(ontn (.one 7) (natV i) (f611_3 (en (k + 1)))).f S = some (.next,S')/\R611 x w cells n is S':=by
 obtain ⟨its,j,o7,o8,o9,o10,n7,n8,n9,n10,hi,hj,h⟩:=R
 have hi:its.length + (is.length + 1) = n:=hi
 have hj:j + (is.length + 1) < 900:=hj
 obtain ⟨r,hr,hd⟩:=draw k (nrs_map (f:=It.sv) (fun i=>nr_sg i.o) its) (nrs_map (f:=It.kv) (fun _=>rfl) its) (nrs_map (f:=It.nv) (fun _=>rfl) its) (cells:=cells) (j:=j) (below:=18) (by decide) (by omega)
 have i1:=imp_ok (S:=s611 x w (some (natV i)) o8 o9 o10 none (hN (hI its cells j)) 6) hd
 have lt:its.length < lim:=Nat.lt_trans (show its.length < 30 by omega) (by decide)
 have l1:=qt (show (its.map It.sv).length < lim by rw [List.length_map];exact lt)
 have l2:=qt (show (its.map It.kv).length < lim by rw [List.length_map];exact lt)
 have l3:=qt (show (its.map It.nv).length < lim by rw [List.length_map];exact lt)
 have q5:=qc (l:=[]) rfl (pc565 k)
 obtain ⟨q,hq⟩:=Int.eq_ofNat_of_zero_le (Int.emod_nonneg ((r:Int) - 8) (show (8:Int) ≠ 0 by decide))
 have hq8:q < 8:=by
  have:=Int.emod_lt_of_pos ((r:Int) - 8) (show (0:Int) < 8 by decide)
  rw [hq] at this
  exact Int.ofNat_lt.mp this
 have hm:=bin_ar (op:=.Mod) (x:=(r:Int) - 8) (y:=8) (z:=((r:Int) - 8) % 8) rfl
 rw [hq] at hm
 have hs:=get_cl (l:=K3) hq8
 have hc:ixK (cAt K3 q) < 8:=(by decide:∀ q,q < 8->ixK (cAt K3 q) < 8) q hq8
 have fin:∀ (it:It) (o9' o10':Option V),nf o9'->nf o10'->it.ok->R611 x w cells n is (s611 x w (some (natV i)) (some (natV r)) o9' o10' none (hN (X4 (its.map It.sv++[it.sv]) (its.map It.kv++[it.kv]) (its.map It.nv++[it.nv]) (dkO cells (j + 1)))) 6):=fun it o9' o10' n9' n10' hit=>by
  have e:=R611.mk (x:=x) (w:=w) (cells:=cells) (n:=n) (is:=is) (its++[it]) (j + 1) (some (natV i)) (some (natV r)) o9' o10' rfl rfl n9' n10' (by rw [List.length_append,List.length_singleton];omega) (by omega) fun y m=>(List.mem_append.mp m).elim (h y) fun m=>by rw [List.mem_singleton.mp m];exact hit
  unfold hI at e
  rw [List.map_append,List.map_append,List.map_append] at e
  exact e
 by_cases z:r < 8
 ·have hg:allS[r]? = some (allS.getD r .s0):=(by decide:∀ r,r < 8->allS[r]? = some (allS.getD r .s0)) r z
  generalize allS.getD r .s0 = g at hg
  have hs2:=sub_lst (l:=allS.map fun g=>sgV (some g)) (i:=r) (v:=sgV (some g)) (by rw [List.getElem?_map,hg];rfl)
  exact ⟨_,B.by [.n n7,.s i1,.n n8,.m q5,.m hm,.m hs,.n n10,.n n9,.b (qt (show (r:Int) < 8 from Int.ofNat_lt.mpr z)),.m (qc (l:=[]) rfl (pc551 k)),.m hs2,.b l1,.b l2,.b0,.m0,.b l3] (by kernel_rfl),fin (.s g) (some (sgV (some g))) (some C.ON.v) rfl rfl (show 5 < 8 by decide)⟩
 ·exact ⟨_,B.by [.n n7,.s i1,.n n8,.m q5,.m hm,.m hs,.n n10,.n n9,.b (qf (show ¬ (r:Int) < 8 from fun y=>z (Int.ofNat_lt.mp y))),.b l1,.b l2,.b0,.m q5,.m (go_ix (en (k + 1)).rc (en (k + 1)).mt hc),.b l3] (by kernel_rfl),fin (.c (cAt K3 q)) (some .none) (some (cAt K3 q).v) rfl rfl hc⟩
theorem loop611 (k:Nat) (x:V) (w:Option V) (cells:List Int) {n j:Nat} (hn:n<=20) (hj:j < 10):∃ its o7 o8 o9 o10 j',its.length = n/\(∀ i ∈ its,It.ok i)/\nf o7/\nf o8/\nf o9/\nf o10/\forL (.one 7) (f611_3 (en (k + 1))).f (rangeV 0 (n:Int)) (s611 x w none none none none none (hN (hI [] cells j)) 6) = some (.next,s611 x w o7 o8 o9 o10 none (hN (hI its cells j')) 6):=by
 obtain ⟨S',e,r⟩:=loopI (t:=.one 7) (b:=f611_3 (en (k + 1))) natV (R611 x w cells n) (step611 k hn) (List.range' 0 n) _ (.mk [] j none none none none rfl rfl rfl rfl (by rw [List.length_range'];exact Nat.zero_add n) (by rw [List.length_range'];omega) (fun _ m=>nomatch m))
 obtain ⟨its,j',o7,o8,o9,o10,n7,n8,n9,n10,hi,_,h⟩:=r
 refine ⟨its,o7,o8,o9,o10,j',hi,h,n7,n8,n9,n10,?_⟩
 rw [show rangeV 0 (n:Int) = (List.range' 0 n).map natV from rangeV_nat 0 n]
 exact e
theorem ixK_inj {c d:C} (h:ixK c < 8) (e:ixK c = ixK d):c = d:=by
 have k:=fin2 (p:=fun c d=>!(decide (ixK c < 8) && decide (ixK c = ixK d)) || decide (c = d)) (by kernel_rfl) c d
 rw [decide_eq_true h,decide_eq_true e] at k
 exact of_decide_eq_true k
structure DInv (kl:List C) (i:Nat) (s:DS):Prop where
 t:TOk s.t (1 + 2 * i)
 u:s.u = [(0,none)]
 np:s.isP = false
 h:∀ c ∈ kl,ixK c < i->s.has = true/\look .L s.t (1000 + (ixK c:Int)) = c
theorem DInv.nil (kl:List C):DInv kl 0 .n:=⟨⟨⟨_,_,rfl⟩,List.pairwise_singleton _ _,Nat.le_refl _⟩,rfl,rfl,fun _ _ h=>absurd h (Nat.not_lt_zero _)⟩
theorem dob2 (ss bs cs:List V) (dk:MO) (s:DS):olook 2 (dob (X4 ss bs cs dk) s) = some (.list bs):=by cases s <;> rfl
theorem dob1 (ss bs cs:List V) (dk:MO) (s:DS):olook 1 (dob (X4 ss bs cs dk) s) = some (.list ss):=by cases s <;> rfl
theorem sh4 (X:OB) (s:DS) (nm:Str) (h:(["defaults","maps","properties","words"]:List Str).contains nm = false):shapeOf nm (.ref 4) (dob X s) = some (.inst 540):=by
 show (olook 4 (dob X s)).bind _ = _
 rw [dob4]
 exact if_neg (by rw [h];exact Bool.false_ne_true)
section
variable {its:List It} {cells:List Int} {j:Nat}
theorem kv_vs (its:List It):its.map It.kv = vs (its.map It.k):=(List.map_map (f:=It.k) (g:=C.v)).symm
theorem in_kl (c:C) (s:DS):cmpv .In c.v (.ref 2) (dob (hI its cells j) s) = some ((its.map It.k).contains c):=by
 show (olook 2 (dob (hI its cells j) s)).bind (isInMO c.v) = _
 rw [show olook 2 (dob (hI its cells j) s) = some (.list (its.map It.kv)) from dob2 _ _ _ _ s,kv_vs]
 exact any_vs c _
theorem lxI:LX (hI its cells j):=lx4 (nrs_map (f:=It.sv) (fun i=>nr_sg i.o) its) (nrs_map (f:=It.kv) (fun _=>rfl) its) (nrs_map (f:=It.nv) (fun _=>rfl) its) cells j
inductive R611b (x:V) (w o7 o8 o9:Option V) (its:List It) (cells:List Int) (j:Nat):List (Nat × C)->SS->Prop
 | mk (i:Nat) (l:List C) (s:DS) (o10 o11:Option V) (n10:nf o10) (n11:nf o11) (i8:i<=8) (hd:K3.drop i = l) (h:DInv (its.map It.k) i s):R611b x w o7 o8 o9 its cells j (ens i l) (s611 x w o7 o8 o9 o10 o11 (dob (hI its cells j) s) (dnx s))
theorem loop611b (k:Nat) (x:V) (w o7 o8 o9 o10:Option V) (n10:nf o10):∃ s o10' o11',DInv (its.map It.k) 8 s/\nf o10'/\nf o11'/\forL (.many [11,10]) (f611_2 (en (k + 3))).f (enum 0 (vs K3)) (s611 x w o7 o8 o9 o10 none (hN (hI its cells j)) 6) = some (.next,s611 x w o7 o8 o9 o10' o11' (dob (hI its cells j) s) (dnx s)):=by
 obtain ⟨S',e,r⟩:=loopI (t:=.many [11,10]) (b:=f611_2 (en (k + 3))) enumV (R611b x w o7 o8 o9 its cells j) (fun p ps S r=>by
  generalize hi:p :: ps = xs at r
  obtain ⟨i,l,s,o10,o11,n10,n11,_,hd,D⟩:=r
  cases l with
  | nil=>exact nomatch hi
  | cons c l=>
   cases hi
   obtain ⟨h8,ec,dl⟩:=dr_cons hd
   have h8:i < 8:=h8
   have hc:ixK c = i:=ec ▸ (by decide:∀ i,i < 8->ixK (cAt K3 i) = i) i h8
   have hin:=in_kl (its:=its) (cells:=cells) (j:=j) c s
   cases hm:(its.map It.k).contains c with
   | true=>
    rw [hm] at hin
    obtain ⟨s',a1,a2,a6,a3,a4,a5⟩:=put_bc (lxI (its:=its) (cells:=cells) (j:=j)) k D.t (by omega) (c:=1000 + (i:Int)) (by omega) (by omega) c
    have hs:=sh4 (hI its cells j) s (MK.name (.other "put")) (by kernel_rfl)
    have g:=go_ref (k:=k + 3) (mk:=.other "put") (S:=s611 x w o7 o8 o9 (some c.v) (some (natV i)) (dob (hI its cells j) s) (dnx s)) (dob4 (hI its cells j) s) (by kernel_rfl) (by kernel_rfl) a5
    refine ⟨_,B.by [.n n11,.n n10,.b hin,.h hs,.h hs,.s g] (by kernel_rfl),.mk (i + 1) l s' (some c.v) (some (natV i)) rfl rfl h8 dl ⟨by rw [show 1 + 2 * (i + 1) = 1 + 2 * i + 2 by omega];exact a3,a1.trans D.u,a6.trans D.np,fun d hd hlt=>⟨a2,?_⟩⟩⟩
    rw [a4]
    by_cases y:ixK d = i
    ·rw [if_pos (by rw [y])];exact ixK_inj (by rw [hc];exact h8) (hc.trans y.symm)
    ·rw [if_neg (by omega)];exact (D.h d hd (by omega)).2
   | false=>
    rw [hm] at hin
    refine ⟨_,B.by [.n n11,.n n10,.b hin] (by kernel_rfl),.mk (i + 1) l s (some c.v) (some (natV i)) rfl rfl h8 dl ⟨⟨D.t.hd,D.t.so,Nat.le_trans D.t.ln (by omega)⟩,D.u,D.np,fun d hd hlt=>D.h d hd ?_⟩⟩
    refine Nat.lt_of_le_of_ne (Nat.le_of_lt_succ hlt) fun y=>?_
    have:c = d:=ixK_inj (by rw [hc];exact h8) (hc.trans y.symm)
    rw [this,List.contains_iff_mem.mpr hd] at hm
    exact nob hm.symm) (ens 0 K3) _ (.mk 0 K3 .n o10 none n10 rfl (Nat.zero_le _) rfl (.nil _))
 rw [← enum_vs] at e
 generalize hi:([]:List (Nat × C)) = xs at r
 obtain ⟨i,l,s,o10',o11',n10,n11,i8,hd,D⟩:=r
 cases l with
 | cons _ _=>exact nomatch hi
 | nil=>
  have h8:i = 8:=Nat.le_antisymm i8 (List.drop_eq_nil_iff.mp hd)
  exact ⟨s,o10',o11',h8 ▸ D,n10,n11,e⟩
end
structure SInv (its:List It) (j:Nat) (s:DS):Prop where
 t:TOk s.t (17 + 2 * j)
 u:TOk s.u (1 + 2 * j)
 bc:∀ c ∈ its.map It.k,s.has = true/\look .L s.t (1000 + (ixK c:Int)) = c
 sg:∀ g,some g ∈ its.map It.o->g.ix < j->s.isP = true/\look .L s.t (g.code:Int) = .ON/\look none s.u (g.code:Int) = some g
 un:∀ (q:Int) (g:Sg),look none s.u q = some g->q = (g.code:Int)
theorem look_0 (q:Int):look none [((0:Int),(none:Option Sg))] q = none:=ite_self _
theorem SInv.of {its:List It} {s:DS} (hk:∀ i ∈ its,It.ok i) (D:DInv (its.map It.k) 8 s):SInv its 0 s:=by
 refine ⟨D.t,?_,fun c m=>?_,fun _ _ h=>absurd h (Nat.not_lt_zero _),fun q g h=>?_⟩
 ·rw [D.u];exact ⟨⟨_,_,rfl⟩,List.pairwise_singleton _ _,Nat.le_refl _⟩
 ·obtain ⟨i,hi,e⟩:=List.mem_map.mp m
  exact D.h c m (e ▸ hk i hi)
 ·rw [D.u,look_0] at h;exact no h
theorem any_sg (g:Sg) (os:List (Option Sg)):anyEq (sgV (some g)) (os.map sgV) = some (os.contains (some g)):=by
 induction os with
 | nil=>rfl
 | cons o os ih=>
  show (veq1 (sgV o) (sgV (some g))).bind (fun a=>(anyEq (sgV (some g)) (os.map sgV)).bind fun b=>some (a || b)) = _
  rw [ih,List.contains_cons]
  have e:veq1 (sgV o) (sgV (some g)) = some (some g == o):=by
   cases o with
   | none=>rfl
   | some h=>exact of_decide_eq_true (finS2 (p:=fun g h=>decide (veq1 (sgV (some h)) (sgV (some g)) = some (some g == some h))) (by kernel_rfl) g h)
  rw [e];rfl
theorem code_ok (g:Sg):1<=(g.code:Int)/\(g.code:Int) < 1114111:=by cases g <;> decide
theorem code_inj {g h:Sg} (e:(g.code:Int) = (h.code:Int)):g = h:=by
 have k:=finS2 (p:=fun g h=>!decide (g.code = h.code) || decide (g = h)) (by kernel_rfl) g h
 rw [decide_eq_true (Int.ofNat_inj.mp e)] at k
 exact of_decide_eq_true k
theorem code_far (g:Sg) {i:Nat} (h:i<=8):(g.code:Int) ≠ 1000 + (i:Int):=fun e=>by
 have k:g.code < 1000 ∨ 1008 < g.code:=by cases g <;> decide
 omega
theorem ixK_le (c:C):ixK c<=8:=by cases c <;> decide
section
variable {its:List It} {cells:List Int} {j:Nat}
theorem in_sg (g:Sg) (s:DS):cmpv .In (sgV (some g)) (.ref 1) (dob (hI its cells j) s) = some ((its.map It.o).contains (some g)):=by
 show (olook 1 (dob (hI its cells j) s)).bind (isInMO (sgV (some g))) = _
 rw [show olook 1 (dob (hI its cells j) s) = some (.list (its.map It.sv)) from dob1 _ _ _ _ s,show its.map It.sv = (its.map It.o).map sgV from (List.map_map (f:=It.o) (g:=sgV)).symm]
 exact any_sg g _
theorem SInv.step {s s1 s2:DS} {i:Nat} {g:Sg} (h:SInv its i s) (hg:g.ix = i) (u1:s1.u = s.u) (t1:TOk s1.t (17 + 2 * i + 2)) (l1:∀ d q,look d s1.t q = if q = (g.code:Int) then .ON else look d s.t q) (e2:s2.t = s1.t) (p2:s2.isP = true) (u2:TOk s2.u (1 + 2 * i + 2)) (l2:∀ d q,look d s2.u q = if q = (g.code:Int) then some g else look d s1.u q):SInv its (i + 1) s2:=by
 have ix_inj:∀ a b:Sg,a.ix = b.ix->a = b:=fun a b e=>by
  have k:=finS2 (p:=fun g h=>!decide (g.ix = h.ix) || decide (g = h)) (by kernel_rfl) a b
  rw [decide_eq_true e] at k
  exact of_decide_eq_true k
 have hs2:s2.has = true:=by cases s2 <;> first | rfl | exact nob p2
 refine ⟨e2 ▸ t1,u2,fun c m=>⟨hs2,?_⟩,fun d hd hlt=>⟨p2,?_⟩,fun q d hd=>?_⟩
 ·rw [e2,l1,if_neg (code_far g (ixK_le c)).symm];exact (h.bc c m).2
 ·by_cases z:d = g
  ·rw [z,e2,l1,if_pos rfl,l2,if_pos rfl];exact ⟨rfl,rfl⟩
  ·have y:¬ (d.code:Int) = (g.code:Int):=fun y=>z (code_inj y)
   rw [e2,l1,if_neg y,l2,if_neg y,u1]
   exact (h.sg d hd (Nat.lt_of_le_of_ne (Nat.le_of_lt_succ hlt) fun w=>z (ix_inj d g (w.trans hg.symm)))).2
 ·rw [l2] at hd
  by_cases y:q = (g.code:Int)
  ·rw [if_pos y] at hd;rw [← Option.some.inj hd];exact y
  ·rw [if_neg y,u1] at hd;exact h.un q d hd
theorem SInv.skip {s:DS} {i:Nat} {g:Sg} (h:SInv its i s) (hg:g.ix = i) (hn:(its.map It.o).contains (some g) = false):SInv its (i + 1) s:=
 ⟨⟨h.t.hd,h.t.so,Nat.le_trans h.t.ln (by omega)⟩,⟨h.u.hd,h.u.so,Nat.le_trans h.u.ln (by omega)⟩,h.bc,fun d hd hlt=>h.sg d hd (Nat.lt_of_le_of_ne (Nat.le_of_lt_succ hlt) fun w=>by
  have k:=finS2 (p:=fun g h=>!decide (g.ix = h.ix) || decide (g = h)) (by kernel_rfl) d g
  rw [decide_eq_true (w.trans hg.symm)] at k
  rw [of_decide_eq_true (p:=d = g) k] at hd
  rw [List.contains_iff_mem.mpr hd] at hn
  exact nob hn.symm),h.un⟩
inductive R611c (x:V) (w o7 o8 o10 o11:Option V) (its:List It) (cells:List Int) (j:Nat):List Sg->SS->Prop
 | mk (i:Nat) (l:List Sg) (s:DS) (o9:Option V) (n9:nf o9) (i8:i<=8) (hd:allS.drop i = l) (h:SInv its i s):R611c x w o7 o8 o10 o11 its cells j l (s611 x w o7 o8 o9 o10 o11 (dob (hI its cells j) s) (dnx s))
theorem loop611c (k:Nat) (x:V) (w o7 o8 o9 o10 o11:Option V) (n9:nf o9) {s0:DS} (h0:SInv its 0 s0):∃ s o9',SInv its 8 s/\nf o9'/\forL (.one 9) (f611_1 (en (k + 3))).f (allS.map fun g=>sgV (some g)) (s611 x w o7 o8 o9 o10 o11 (dob (hI its cells j) s0) (dnx s0)) = some (.next,s611 x w o7 o8 o9' o10 o11 (dob (hI its cells j) s) (dnx s)):=by
 obtain ⟨S',e,r⟩:=loopI (t:=.one 9) (b:=f611_1 (en (k + 3))) (fun g=>sgV (some g)) (R611c x w o7 o8 o10 o11 its cells j) (fun g l S r=>by
  generalize hi:g :: l = xs at r
  obtain ⟨i,xs,s,o9,n9,i8,hd,h⟩:=r
  subst hi
  have hi8:i < 8:=Nat.lt_of_le_of_ne i8 fun z=>by rw [z] at hd;exact nomatch hd
  have hg:g.ix = i:=by
   have:=(by decide:∀ i,i < 8->((allS.drop i).head?.map Sg.ix) = some i) i hi8
   rw [hd] at this
   exact Option.some.inj this
  have dl:allS.drop (i + 1) = l:=by rw [← List.drop_drop,hd];rfl
  have hin:=in_sg (its:=its) (cells:=cells) (j:=j) g s
  cases hm:(its.map It.o).contains (some g) with
  | true=>
   rw [hm] at hin
   obtain ⟨c1,c2⟩:=code_ok g
   obtain ⟨s1,a1,a2,_,a3,a4,a5⟩:=put_bc (lxI (its:=its) (cells:=cells) (j:=j)) k h.t (by omega) c1 c2 .ON
   obtain ⟨s2,b1,b2,b3,b4,b5⟩:=put_bpb (lxI (its:=its) (cells:=cells) (j:=j)) k a2 (a1 ▸ h.u) (by omega) c1 c2 (some g)
   have hs:=sh4 (hI its cells j) s (MK.name (.other "put")) (by kernel_rfl)
   have hs1:=sh4 (hI its cells j) s1 (MK.name (.other "put")) (by kernel_rfl)
   have g1:=go_ref (k:=k + 3) (mk:=.other "put") (S:=s611 x w o7 o8 (some (sgV (some g))) o10 o11 (dob (hI its cells j) s) (dnx s)) (dob4 (hI its cells j) s) (by kernel_rfl) (by kernel_rfl) a5
   have g2:=go_ref (k:=k + 3) (mk:=.other "put") (S:=s611 x w o7 o8 (some (sgV (some g))) o10 o11 (dob (hI its cells j) s1) (dnx s1)) (dob4 (hI its cells j) s1) (by kernel_rfl) (by kernel_rfl) b5
   exact ⟨_,B.by [.n n9,.b hin,.h hs,.m0,.m0,.h hs,.s g1,.h hs1,.m0,.m0,.m0,.m (qc (l:=[]) rfl (pc558 (k + 2))),.m0,.m (sub_mates g),.h hs1,.s g2] (by kernel_rfl),.mk (i + 1) l s2 (some (sgV (some g))) rfl hi8 dl (h.step hg a1 a3 a4 b1 b2 b3 b4)⟩
  | false=>
   rw [hm] at hin
   exact ⟨_,B.by [.n n9,.b hin] (by kernel_rfl),.mk (i + 1) l s (some (sgV (some g))) rfl hi8 dl (h.skip hg hm)⟩) allS _ (.mk 0 allS s0 o9 n9 (Nat.zero_le _) rfl h0)
 generalize hi:([]:List Sg) = xs at r
 obtain ⟨i,l,s,o9',n9,i8,hd,h⟩:=r
 subst hi
 have h8:i = 8:=Nat.le_antisymm i8 (List.drop_eq_nil_iff.mp hd)
 exact ⟨s,o9',h8 ▸ h,n9,e⟩
end
theorem scan_at {F:C->List C->List C} {f g:C->C->C} (hF:∀ d c l,F d (c :: l) = f d c :: F (g d c) l) (h:∀ d,f d .ON = .ON) (l:List C):∀ (d:C) (i:Nat),l[i]? = some .ON->(F d l)[i]? = some .ON:=by
 induction l with
 | nil=>intro d i e;exact nomatch e
 | cons c l ih=>
  intro d i e
  rw [hF]
  cases i with
  | zero=>
   have e:c = .ON:=Option.some.inj e
   rw [e];exact congrArg some (h d)
  | succ i=>exact ih _ i e
theorem weakF_on {d:C} {l:List C} {i:Nat} (h:l[i]? = some .ON):cAt (weakF d l) i = .ON:=by
 have h1:=scan_at (F:=marks) (f:=mark1) (g:=mark1) (fun _ _ _=>rfl) (fun _=>rfl) l d i h
 have h2:=scan_at (F:=nums) (f:=num1) (g:=strongA) (fun _ _ _=>rfl) (fun _=>rfl) _ d i h1
 have h3:(weakA d l)[i]? = some .ON:=by
  unfold weakA
  rw [List.getElem?_map,h2];rfl
 have h4:=scan_at (F:=lnums) (f:=lnum1) (g:=strongL) (fun _ _ _=>rfl) (fun _=>rfl) _ d i h3
 unfold cAt weakF
 rw [List.getD_eq_getElem?_getD,h4];rfl
theorem mem_ensN (l:List Nat):∀ (k:Nat) (p:Nat × Nat),p ∈ ensN k l->∃ i,p.1 = k + i/\l[i]? = some p.2:=by
 induction l with
 | nil=>intro k p m;exact nomatch m
 | cons c l ih=>
  intro k p m
  rcases List.mem_cons.mp m with e | m
  ·exact ⟨0,by rw [e];rfl,by rw [e];rfl⟩
  ·obtain ⟨i,h1,h2⟩:=ih (k + 1) p m
   exact ⟨i + 1,by rw [h1,Nat.add_assoc,Nat.add_comm 1],h2⟩
noncomputable def dvK:DS->List Ky
 | .n=>[.s "dm"]
 | .b _=>[.s "bc",.s "dm"]
 | .p _ _=>[.s "bc",.s "bpb",.s "dm"]
noncomputable def dvE (w:Tb (Option Bool)):DS->List V
 | .n=>[rmF tyM .none w]
 | .b t=>[rmF tyC sL t,rmF tyM .none w]
 | .p t u=>[rmF tyC sL t,rmF tyB .none u,rmF tyM .none w]
theorem nrs_dvE (w:Tb (Option Bool)) (s:DS):nrs (dvE w s) = true:=by
 have h1:nr (rmF tyM .none w) = true:=nr_rmF tyM rfl w
 have h2:∀ t,nr (rmF tyC sL t) = true:=nr_rmF tyC rfl
 have h3:∀ u,nr (rmF tyB .none u) = true:=nr_rmF tyB rfl
 cases s with
 | n=>exact Bool.and_eq_true_iff.mpr ⟨h1,rfl⟩
 | b t=>exact Bool.and_eq_true_iff.mpr ⟨h2 t,Bool.and_eq_true_iff.mpr ⟨h1,rfl⟩⟩
 | p t u=>exact Bool.and_eq_true_iff.mpr ⟨h2 t,Bool.and_eq_true_iff.mpr ⟨h3 u,Bool.and_eq_true_iff.mpr ⟨h1,rfl⟩⟩⟩
noncomputable def dmq (q:Nat):Option Bool:=if q = 9002 then some true else if q = 9001 then some false else none
section
variable {its:List It} {s:DS} (h:SInv its 8 s)
include h
theorem look_t:∀ i ∈ its,look .L s.t (i.n:Int) = i.k:=fun i m=>by
 cases i with
 | c d=>
  have g:=(h.bc d (List.mem_map.mpr ⟨_,m,rfl⟩)).2
  show look .L s.t ((1000 + ixK d:Nat):Int) = d
  rw [Int.natCast_add];exact g
 | s g=>exact (h.sg g (List.mem_map.mpr ⟨_,m,rfl⟩) (by cases g <;> decide)).2.1
theorem look_u:∀ i ∈ its,look none s.u (i.n:Int) = i.o:=fun i m=>by
 cases i with
 | c d=>
  show look none s.u ((1000 + ixK d:Nat):Int) = none
  cases e:look none s.u ((1000 + ixK d:Nat):Int) with
  | none=>rfl
  | some g=>exact absurd (h.un _ g e).symm (by rw [Int.natCast_add];exact code_far g (ixK_le d))
 | s g=>exact (h.sg g (List.mem_map.mpr ⟨_,m,rfl⟩) (by cases g <;> decide)).2.2
theorem get_bc (w:Tb (Option Bool)) (k:Nat):∀ i ∈ its,pureCall (F (k + 3)) 530 [DF (dvK s) (dvE w s),.str "bc",natV i.n] = some i.k.v:=fun i m=>by
 have hl:=look_t h i m
 have hh:=(h.bc i.k (List.mem_map.mpr ⟨i,m,rfl⟩)).1
 rw [← hl]
 cases s with
 | n=>exact nob hh
 | b t=>exact get1 tyC k sL rfl .L h.t (by decide) (Int.natCast_nonneg _) _ _
 | p t u=>exact get1 tyC k sL rfl .L h.t (by decide) (Int.natCast_nonneg _) _ _
theorem get_bpb (w:Tb (Option Bool)) (k:Nat):∀ i ∈ its,pureCall (F (k + 3)) 530 [DF (dvK s) (dvE w s),.str "bpb",natV i.n] = some (brV i.o):=fun i m=>by
 have hl:=look_u h i m
 have hh:=(h.bc i.k (List.mem_map.mpr ⟨i,m,rfl⟩)).1
 cases s with
 | n=>exact nob hh
 | b t=>
  rw [← hl,show look none (DS.b t).u (i.n:Int) = none from look_0 _]
  exact get2n (k + 2) _ _ _
 | p t u=>
  rw [← hl]
  exact get2 tyB k .none rfl none h.u (by decide) (Int.natCast_nonneg _) _ _ _
theorem get_dm {w:Tb (Option Bool)} (tw:TOk w 5) (lw:∀ q,0<=q->look none w q = if q = 9002 then some true else if q = 9001 then some false else none) (k:Nat) (g:Sg) (hg:some g ∈ its.map It.o) (q:Nat):pureCall (F (k + 3)) 530 [DF (dvK s) (dvE w s),.str "dm",natV q] = some (dmV (dmq q)):=by
 have hp:=(h.sg g hg (by cases g <;> decide)).1
 have e:look none w (q:Int) = dmq q:=by
  rw [lw _ (Int.natCast_nonneg q)]
  unfold dmq
  by_cases z:q = 9002
  ·rw [if_pos z,if_pos (by rw [z];rfl)]
  ·rw [if_neg z,if_neg (show ¬ (q:Int) = 9002 by omega)]
   by_cases y:q = 9001
   ·rw [if_pos y,if_pos (by rw [y];rfl)]
   ·rw [if_neg y,if_neg (show ¬ (q:Int) = 9001 by omega)]
 rw [← e]
 cases s with
 | p t u=>exact get3 tyM k .none rfl none tw (by decide) (Int.natCast_nonneg _) _ _ _ _
 | _=>exact nob hp
end
theorem key_o (g:Sg) (h:g.op = true):dmK g.mate (dmq g.mate) = kyN g.kd:=by cases g <;> first | rfl | exact nob h
theorem key_c (g:Sg) (h:g.op = false):dmK g.code (dmq g.code) = kyN g.kd:=by cases g <;> first | rfl | exact nob h.symm
theorem levels03 (j:Nat) {its:List It} {s:DS} (h:SInv its 8 s) (hk:∀ i ∈ its,It.ok i) (hl:its.length<=20) (w:Wd) {tb:Tb (Option Bool)} (tw:TOk tb 5) (lw:∀ q,0<=q->look none tb q = if q = 9002 then some true else if q = 9001 then some false else none) :
  pureCall (F (j + 10)) 432 [nl (its.map It.n),DF (dvK s) (dvE tb s),.str w.s] = some (il (seqOut3 (its.map It.k) (baseOf w (fsl (its.map It.k))) (nsort (prsL (its.map It.o))))):=by
 have lk:(its.map It.k).length = its.length:=List.length_map _
 have ln:(its.map It.n).length = its.length:=List.length_map _
 have h8:A8 (its.map It.k):=fun c m=>by
  obtain ⟨i,hi,e⟩:=List.mem_map.mp m
  have k:=fin1 (p:=fun c=>!decide (ixK c < 8) || K8 c) (by kernel_rfl) c
  rw [decide_eq_true (show ixK c < 8 from e ▸ hk i hi)] at k
  exact k
 have hD:=nrs_DF (ks:=dvK s) (nrs_dvE tb s)
 have hkf:(its.map It.n).map (fun x:Nat=>look .L s.t (x:Int)) = its.map It.k:=by
  rw [List.map_map];exact List.map_congr_left fun i m=>look_t h i m
 have hsg:(its.map It.n).map (fun x:Nat=>look none s.u (x:Int)) = its.map It.o:=by
  rw [List.map_map];exact List.map_congr_left fun i m=>look_u h i m
 have all:∀ {P:Nat->Prop},(∀ i ∈ its,P i.n)->∀ x ∈ its.map It.n,P x:=fun hP x m=>by
  obtain ⟨i,hi,e⟩:=List.mem_map.mp m
  exact e ▸ hP i hi
 have hmem:∀ x ∈ its.map It.n,∀ g,look none s.u (x:Int) = some g->some g ∈ its.map It.o:=fun x m g e=>by
  rw [← hsg];exact List.mem_map.mpr ⟨x,m,e⟩
 have P:=(PInv.nil).go (its.map It.o)
 rw [Nat.zero_add,List.length_map] at P
 refine bidi03 (j + 1) (its.map It.k) (its.map It.n) h8 (ln.trans lk.symm) (by rw [lk];omega) w hD (fun x:Nat=>look .L s.t (x:Int)) hkf _ (seqOut3_len _ _ _) (fun k x m=>?_) ?_
 ·obtain ⟨i,hi,e⟩:=List.mem_map.mp m
  subst e
  rw [look_t h i hi]
  exact get_bc h tb k i hi
 ·generalize baseOf w (fsl (its.map It.k)) = base
  refine pc417w (j + 2) (its.map It.k) (its.map It.n) (List.range' 0 (its.map It.k).length) base hD h8 (ln.trans lk.symm) (by rw [lk];omega) (nsort (prsL (its.map It.o))) (fun p m=>?_) ?_
  ·obtain ⟨p1,p2⟩:=P.f p (mem_nsort m)
   rw [lk];exact ⟨Nat.lt_trans p1 p2,p2⟩
  ·have hw:=weakF_len (emb base) (its.map It.k)
   have g:=pc348 (j + 4) (its.map It.n) (weakF (emb base) (its.map It.k)) hD (fun x:Nat=>look none s.u (x:Int)) (by rw [hw,lk,ln]) (by rw [hw,lk];omega) (all fun i hi=>by rw [look_u h i hi];exact get_bpb h tb (j + 1) i hi) (fun x g e=>Int.ofNat_inj.mp (h.un _ g e))
    (fun x m g e hop=>(pc341 (j + 3) hD g.mate (dmq g.mate) (get_dm h tw lw j g (hmem x m g e) g.mate)).trans (by rw [key_o g hop])) (fun x m g e hop=>(pc341 (j + 3) hD g.code (dmq g.code) (get_dm h tw lw j g (hmem x m g e) g.code)).trans (by rw [key_c g hop])) (fun p m hn=>?_)
   ·rw [hsg] at g;exact g
   ·obtain ⟨i,h1,h2⟩:=mem_ensN _ 0 p m
    rw [Nat.zero_add] at h1
    rw [List.getElem?_map] at h2
    obtain ⟨it,h2,e⟩:=mi h2
    rw [h1]
    refine weakF_on ?_
    rw [List.getElem?_map,h2]
    cases it with
    | s g=>rfl
    | c d=>
     rw [← e] at hn
     exact absurd (look_u h (.c d) (List.mem_of_getElem? h2)) hn
theorem fz_inst {f n:Nat} {c:Addr} {ns:List Str} {l l':List V} {ob ob':OB} (h:olook n ob = some (.inst c ns l)) (k:thread (fz f) l (odrop n ob) = some (l',ob')):fz (f + 1) (.ref n) ob = some (.ins c ns l',ob'):=by
 show (olook n ob).bind _ = _
 rw [h]
 show (thread (fz f) l (odrop n ob)).map _ = _
 rw [k];rfl
theorem fz_rm {τ:Type} [DecidableEq τ] (ty:Ty τ) {dv:V} (hv:still dv = true) {n:Nat} {t:Tb τ} {ob:OB} (h:olook n ob = some (rmV ty dv t)):fz 6 (.ref n) ob = some (rmF ty dv t,odrop n ob):=fz_inst (f:=5) h (thread_still (f:=3) (by
 show (still dv && (nrs (iA t) && (nrs (vA ty t) && true))) = true
 rw [nrs_iA,nrs_vA,hv];rfl))
theorem fz_data (dk:MO) (w:Tb (Option Bool)) (s:DS):fz 8 (.ref 4) (dobD [(0,dk)] (rM w) s) = some (DF (dvK s) (dvE w s),[(0,dk)]):=by
 have fin:∀ {ks:List Ky} {vs vs':List V} {ob:OB},olook 4 ob = some dMO->olook 5 (odrop 4 ob) = some (.dict ks vs)->thread (fz 6) vs (odrop 5 (odrop 4 ob)) = some (vs',[(0,dk)])->fz 8 (.ref 4) ob = some (DF ks vs',[(0,dk)]):=fun h1 h2 h3=>fz_inst (f:=7) h1 (thread_one (fz_still (f:=5) still_dfl) (thread_one (fz_dict (f:=6) h2 h3) rfl))
 cases s with
 | n=>exact fin (ob:=hDN [(0,dk)] (rM w)) rfl rfl (thread_one (fz_rm tyM (dv:=.none) rfl rfl) rfl)
 | b t=>exact fin (ob:=hDB [(0,dk)] (rC t) (rM w)) rfl rfl (thread_one (fz_rm tyC (dv:=sL) rfl rfl) (thread_one (fz_rm tyM (dv:=.none) rfl rfl) rfl))
 | p t u=>exact fin (ob:=hDP [(0,dk)] (rC t) (rB u) (rM w)) rfl rfl (thread_one (fz_rm tyC (dv:=sL) rfl rfl) (thread_one (fz_rm tyB (dv:=.none) rfl rfl) (thread_one (fz_rm tyM (dv:=.none) rfl rfl) rfl)))
theorem still_sg (l:List It):(l.map It.sv).all still = true:=by
 induction l with
 | nil=>rfl
 | cons i l ih=>exact Bool.and_eq_true_iff.mpr ⟨by unfold It.sv;cases i.o <;> rfl,ih⟩
section
variable (its:List It) (cells:List Int) (j:Nat) (w:Tb (Option Bool)) (s:DS)
noncomputable def obD:OB:=dobD (hI its cells j) (rM w) s
theorem obD2:olook 2 (obD its cells j w s) = some (.list (vs (its.map It.k))):=by
 rw [← kv_vs]
 cases s <;> rfl
theorem fr1 (m:C):thread (fz 8) [.ref 2,m.v] (obD its cells j w s) = some ([cl (its.map It.k),m.v],odrop 2 (obD its cells j w s)):=thread_one (fz_list (f:=5) (obD2 its cells j w s) (still_vs _)) (thread_one (fz_still (f:=6) (v:=m.v) rfl) rfl)
theorem fr2:thread (fz 8) [.ref 1] (odrop 2 (obD its cells j w s)) = some ([.lst (its.map It.sv)],odrop 1 (odrop 2 (obD its cells j w s))):=thread_one (fz_list (f:=5) (by cases s <;> rfl) (still_sg its)) rfl
theorem fr3 (x:Str):thread (fz 8) [.ref 3,.ref 4,.str x] (odrop 1 (odrop 2 (obD its cells j w s))) = some ([nl (its.map It.n),DF (dvK s) (dvE w s),.str x],[(0,dkO cells j)]):=by
 have e:odrop 3 (odrop 1 (odrop 2 (obD its cells j w s))) = dobD [(0,dkO cells j)] (rM w) s:=by cases s <;> rfl
 have h3:olook 3 (odrop 1 (odrop 2 (obD its cells j w s))) = some (.list ((its.map It.n).map natV)):=by
  rw [List.map_map]
  cases s <;> rfl
 refine thread_one (fz_list (f:=5) h3 (still_natVs _)) ?_
 rw [e]
 exact thread_one (fz_data _ w s) rfl
end
theorem callZ {rc:Raw} {a:Addr} {vs xs:List V} {r:V} {S:SS} {ob':OB} (h:thread (fz 8) vs S.ob = some (xs,ob')) (q:pureCall rc a xs = some r):callM rc a vs S = some (r,⟨thaws vs xs S.sl,ob',S.nx⟩):=by
 have e:freeze vs S = some (xs,⟨thaws vs xs S.sl,ob',S.nx⟩):=by
  show (thread (fz 8) vs S.ob).map _ = _
  rw [h];rfl
 refine (bnd_eq e).trans ?_
 rw [q];rfl
noncomputable def strB:B V:=oeComp false [none,none] (.one 1) (osrcSeq (oeVar 3)) [(otCmp .In (oeVar 1) (oeTup [(okS "L"),(okS "R"),(okS "AL")]))] (oeVar 1)
theorem str_ok {its:List It} {S:SS} (h3:S.sl[3]? = some (some (.ref 2))) (h2:olook 2 S.ob = some (.list (vs (its.map It.k)))) (hl:its.length<=lim):strB.f S = some (cl ((its.map It.k).filter str3),S):=by
 have e1:(osrcSeq (oeVar 3)).f S = some ((vs (its.map It.k),some 2,false),S):=by
  refine (bnd_eq (f:=eVar 3) (g:=seqM) (a:=.ref 2) (S1:=S) ?_).trans ?_
  ·show (S.sl[3]?).bind _ = _
   rw [h3];rfl
  ·show ((lref 2 S.ob).map (·,some 2)).map _ = _
   rw [show lref 2 S.ob = some (vs (its.map It.k)) by unfold lref;rw [h2];rfl];rfl
 refine (bnd_eq (f:=(osrcSeq (oeVar 3)).f) e1).trans ?_
 refine comp_F (t:=.one 1) (tb:=otCmp .In (oeVar 1) (oeTup [(okS "L"),(okS "R"),(okS "AL")])) (b:=oeVar 1) (q:=some 2) (pr:=false) (cp:=[none,none]) (S:=S) C.v str3 C.v (fun S=>∃ o,nf o/\S = ⟨[none,o],[],0⟩) (its.map It.k) rfl (nrs_vs _) (scals_vs _) (by rw [List.length_map];exact hl) (fun c _ S ⟨o,ho,hS⟩=>?_) ⟨none,rfl,rfl⟩
 subst hS
 exact ⟨⟨[none,some c.v],[],0⟩,B.by [.n ho] (by kernel_rfl),B.by [.b (str3_in c)] (by kernel_rfl),⟨_,rfl,rfl⟩,fun _=>rfl⟩
theorem fsl_head (l:List C):fsl l = (l.filter str3).head?:=by
 induction l with
 | nil=>rfl
 | cons c l ih=>
  unfold fsl
  cases z:str3 c with
  | true=>rw [if_pos rfl,List.filter_cons_of_pos z];rfl
  | false=>rw [if_neg Bool.false_ne_true,List.filter_cons_of_neg (by rw [z];exact Bool.false_ne_true)];exact ih
noncomputable def levB:B V:=oeInt (oeBool .And [(oeCmp .NotEq (oeVar 12) (oeList false [])),(oeCmp .NotEq (oeSub (oeVar 12) (okI 0)) (okS "L"))])
noncomputable def levI (o:Option C):Int:=match o with
 | none=>0
 | some c=>if c = .L then 0 else 1
theorem lev_ok (Z:List C) (a0 a1 a2 a3 a4 a5 a6 a7 a8 a9 a10 a11:Option V) (r:List (Option V)) (ob:OB) (nx:Nat):levB.f ⟨a0 :: a1 :: a2 :: a3 :: a4 :: a5 :: a6 :: a7 :: a8 :: a9 :: a10 :: a11 :: some (cl Z) :: r,ob,nx⟩ = some (.int (levI Z.head?),⟨a0 :: a1 :: a2 :: a3 :: a4 :: a5 :: a6 :: a7 :: a8 :: a9 :: a10 :: a11 :: some (cl Z) :: r,ob,nx⟩):=by
 cases Z with
 | nil=>exact B.by [] (by kernel_rfl)
 | cons c Z=>
  have hs:∀ S,sub (cl (c :: Z)) (.int 0) S = some (c.v,S):=sub_lst (i:=0) rfl
  show _ = some (V.int (if c = .L then 0 else 1),_)
  by_cases z:c = .L
  ·rw [if_pos z];exact B.by [.b0,.m hs,.b (congrArg (Option.map (!·)) (qe (d:=.L) z))] (by kernel_rfl)
  ·rw [if_neg z];exact B.by [.b0,.m hs,.b (congrArg (Option.map (!·)) (qn (d:=.L) z))] (by kernel_rfl)
theorem go_lev (rc:Raw) (mt:Addr->Str->Option Addr) {w:Wd} (hw:w ≠ .artl) (o:Option C) (S:SS):methGo rc mt .get (.dic [.s "ltr",.s "rtl"] [.int 0,.int 1]) .dict [.str w.s,.int (levI o)] S = some (.int (baseOf w o),S):=by
 cases w with
 | ltr=>kernel_rfl
 | rtl=>kernel_rfl
 | auto=>cases o <;> kernel_rfl
 | artl=>exact absurd rfl hw
theorem base_01 (w:Wd) (o:Option C):baseOf w o = 0 ∨ baseOf w o = 1:=by
 have h:∀ c:C,(if c = .L then (0:Int) else 1) = 0 ∨ (if c = .L then (0:Int) else 1) = 1:=fun c=>by
  by_cases z:c = .L
  ·exact .inl (if_pos z)
  ·exact .inr (if_neg z)
 cases w with
 | ltr=>exact .inl rfl
 | rtl=>exact .inr rfl
 | auto=>cases o with
  | none=>exact .inl rfl
  | some c=>exact h c
 | artl=>cases o with
  | none=>exact .inr rfl
  | some c=>exact h c
theorem sub_LR {b:Int} (h:b = 0 ∨ b = 1) (S:SS):sub (.str "LR") (.int b) S = some ((emb b).v,S):=by rcases h with h | h <;> subst h <;> rfl
noncomputable def dueB (E:En):B V:=(oeBin false .Add (oeVar 3) (oeIf (otCmp .Eq (oeVar 3) (okI 0)) (oeMeth E.rc E.mt .get (oeDict false [(okS "R"),(okS "AN"),(okS "EN")] [(okI 1),(okI 2),(okI 2)]) [(oeVar 1),(okI 0)]) (oeInt (oeCmp .NotEq (oeVar 1) (okS "R")))))
theorem go_due (rc:Raw) (mt:Addr->Str->Option Addr) (c:C) (S:SS):methGo rc mt .get (.dic [.s "R",.s "AN",.s "EN"] [.int 1,.int 2,.int 2]) .dict [c.v,.int 0] S = some (.int (impl1 c 0),S):=by cases c <;> kernel_rfl
theorem due_ok (E:En) (Z:List C) {b:Int} (hb:b = 0 ∨ b = 1) (hl:Z.length<=lim) {S:SS} (hi:inner [none,none,none,some 13] S.sl = [none,none,none,some (.int b)]):compM false [none,none,none,some 13] (.one 1) (vs Z,none,false) [] (dueB E).f S = some (il (Z.map fun c=>impl1 c b),S):=by
 obtain ⟨sl,ob,nx⟩:=S
 refine (comp_I (t:=.one 1) (p:=false) (cp:=[none,none,none,some 13]) (sl:=sl) (ob:=ob) (nx:=nx) (b:=dueB E) C.v (fun c=>V.int (impl1 c b)) (fun S=>∃ o,nf o/\S = ⟨[none,o,none,some (.int b)],[],0⟩) Z rfl (nrs_vs Z) (nrs_ints _ _) hl (fun c _ S ⟨o,ho,hS⟩=>?_) ⟨none,rfl,by rw [hi]⟩).trans (by unfold il;rw [List.map_map];rfl)
 subst hS
 refine ⟨⟨[none,some c.v,none,some (.int b)],[],0⟩,?_,_,rfl,rfl⟩
 rcases hb with h | h
 ·subst h
  rw [show V.int (impl1 c 0) = .int (0 + impl1 c 0) from congrArg V.int (Int.zero_add _).symm]
  exact B.by [.n ho,.b0,.m (go_due E.rc E.mt c)] (by kernel_rfl)
 ·subst h
  by_cases z:c = .R
  ·rw [show V.int (impl1 c 1) = .int (1 + 0) from by rw [z];rfl]
   exact B.by [.n ho,.b0,.b (congrArg (Option.map (!·)) (qe (d:=.R) z))] (by kernel_rfl)
  ·rw [show V.int (impl1 c 1) = .int (1 + 1) from congrArg V.int ((if_neg (by decide)).trans (if_neg z))]
   exact B.by [.n ho,.b0,.b (congrArg (Option.map (!·)) (qn (d:=.R) z))] (by kernel_rfl)
theorem py_ints (l:List Int):toPys (l.map .int) = some (l.map PyData.int)/\PyData.eqvAll (l.map PyData.int) (l.map PyData.int) = true/\PyData.canLayAll0 (l.map PyData.int) = true/\PyData.depthAll (l.map PyData.int) = 0:=by
 induction l with
 | nil=>exact ⟨rfl,rfl,rfl,rfl⟩
 | cons x l ih=>
  obtain ⟨h1,h2,h3,h4⟩:=ih
  refine ⟨?_,?_,?_,?_⟩
  ·show (toPys (l.map .int)).bind _ = _
   rw [h1];rfl
  ·show ((x == x) && PyData.eqvAll (l.map PyData.int) (l.map PyData.int)) = true
   rw [h2,beq_self_eq_true];rfl
  ·exact h3
  ·show max 0 (PyData.depthAll (l.map PyData.int)) = 0
   rw [h4];rfl
theorem eq_il (l:List Int) (ob:OB):cmpv .Eq (il l) (il l) ob = some true:=by
 show veqL (l.map .int) (l.map .int) = _
 cases l with
 | nil=>rfl
 | cons x l=>
  obtain ⟨h1,h2,h3,h4⟩:=py_ints (x :: l)
  have e1:toPy (.lst ((x :: l).map V.int)) = some (.list ((x :: l).map PyData.int)):=by
   show (toPys ((x :: l).map V.int)).map PyData.list = _
   rw [h1];rfl
  have e2:SeqAt.shaped (.list ((x :: l).map PyData.int)) = true:=by
   unfold SeqAt.shaped
   rw [Bool.and_eq_true]
   refine ⟨h3,decide_eq_true ?_⟩
   show PyData.depthAll ((x :: l).map PyData.int) + 1<=64
   rw [h4];decide
  show veqD (.lst ((x :: l).map V.int)) (.lst ((x :: l).map V.int)) = _
  unfold veqD
  rw [e1]
  show (if (SeqAt.shaped (.list ((x :: l).map PyData.int)) && SeqAt.shaped (.list ((x :: l).map PyData.int))) = true then some (PyData.eqv (.list ((x :: l).map PyData.int)) (.list ((x :: l).map PyData.int))) else none) = _
  rw [e2]
  exact congrArg some h2
noncomputable def b611q (E:En):B Fl:=
 (osSeq (osAsg (.many [1,2,3,4,5]) (oeTup [(oeCallI E.rc 570 [(oeVar 0)]),(oeList true []),(oeList true []),(oeList true []),(oeNewI E.rc 540 516 [])]))
 (osSeq (osAsg (.one 6) (oeSub (oeList false [(okS "ltr"),(okS "rtl"),(okS "auto")]) (oeCallI E.rc 577 [(oeVar 1),(okI 3)])))
 (osSeq (osFor (.one 7) (osrcRng1 (oeCallI E.rc 577 [(oeVar 1),(okI 11)])) (f611_3 E))
 (osSeq (osFor (.many [11,10]) (osrcEnu (oeCallP E.rc 565 [])) (f611_2 E))
 (osSeq (osFor (.one 9) (osrcSeq (oeCallP E.rc 551 [])) (f611_1 E))
 (osSeq (osExp (oeMeth E.rc E.mt (.other "put") (oeVar 5) [(okS "dm"),(okI 9001),(okI 9001),(oeTup [(okS ""),(oeTup [(okI 12296)])])]))
 (osSeq (osExp (oeMeth E.rc E.mt (.other "put") (oeVar 5) [(okS "dm"),(okI 9002),(okI 9002),(oeTup [(okS ""),(oeTup [(okI 12297)])])]))
 (osSeq (osAsg (.one 12) (oeQ strB))
 (osSeq (osAsg (.one 13) (oeMeth E.rc E.mt .get (oeDict false [(okS "ltr"),(okS "rtl")] [(okI 0),(okI 1)]) [(oeVar 6),(oeQ levB)]))
 (osSeq (osAsg (.one 14) (oeSub (okS "LR") (oeVar 13)))
 (osSeq (osAsg (.one 15) (oeCallP E.rc 606 [(oeCallP E.rc 601 [(oeCallP E.rc 584 [(oeVar 3),(oeVar 14)]),(oeCallP E.rc 596 [(oeVar 2)]),(oeVar 14),(oeVar 3)]),(oeVar 14)]))
 (osSeq (osAsg (.one 16) (oeComp false [none,none,none,some 13] (.one 1) (osrcSeq (oeVar 15)) [] (dueB E)))
 (osSeq (osRet (oeCmp .Eq (oeListOf false (oeCallP E.rc 432 [(oeVar 4),(oeVar 5),(oeVar 6)])) (oeVar 16)))
 osNext)))))))))))))
theorem b611q_f (E:En):(b611 E).f = (b611q E).f:=seq_f _ (seq_f _ (seq_f _ (seq_f _ (seq_f _ (seq_f _ (seq_f _ (seq_g rfl (seq_g rfl (seq_f _ (seq_f _ (seq_g rfl rfl)))))))))))
theorem word_at {r:Nat} (h:r < 3):∃ w:Wd,w ≠ .artl/\∀ S:SS,sub (.lst [.str "ltr",.str "rtl",.str "auto"]) (natV r) S = some (.str w.s,S):=match r,h with
 | 0,_=>⟨.ltr,(fun h=>nomatch h),sub_lst rfl⟩
 | 1,_=>⟨.rtl,(fun h=>nomatch h),sub_lst rfl⟩
 | 2,_=>⟨.auto,(fun h=>nomatch h),sub_lst rfl⟩
noncomputable def t611 (x w:V) (o7 o8 o9 o10 o11 o12 o13 o14:Option V) (ob:OB) (nx:Nat):SS:=⟨[some x,some (.ref 0),some (.ref 1),some (.ref 2),some (.ref 3),some (.ref 4),some w,o7,o8,o9,o10,o11,o12,o13,o14,none,none,none,none,none,none,none,none,none,none,none,none,none,none,none,none,none],ob,nx⟩
theorem law611 (ns:List Int) (hn:ns.length<=63):∃ hp,Mine.call pg 100 611 [.lst (ns.map .int)] ([],0) = some (.bool true,hp):=by
 have h570:=deck 98 ns (Nat.le_trans hn (by decide))
 generalize (ns.take 40).map (fun x=>x % 1000000007) = cells at h570
 have i1:=imp_ok (S:=⟨[some (il ns),none,none,none,none,none,none,none,none,none,none,none,none,none,none,none,none,none,none,none,none,none,none,none,none,none,none,none,none,none,none,none],[],0⟩) h570
 have i2:=new516 97 (X4 [] [] [] (dkO cells 0)) [some (il ns),none,none,none,none,none,none,none,none,none,none,none,none,none,none,none,none,none,none,none,none,none,none,none,none,none,none,none,none,none,none,none]
 obtain ⟨r,hr,h577⟩:=draw 98 (ss:=[]) (bs:=[]) (cs:=[]) rfl rfl rfl (cells:=cells) (j:=0) (below:=3) (by decide) (by decide)
 obtain ⟨w,hwa,hw⟩:=word_at hr
 have i3:=imp_ok (S:=s611 (il ns) none none none none none none (hN (hI [] cells 0)) 6) h577
 obtain ⟨n,hn11,h577⟩:=draw 98 (ss:=[]) (bs:=[]) (cs:=[]) rfl rfl rfl (cells:=cells) (j:=1) (below:=11) (by decide) (by decide)
 have i4:=imp_ok (S:=s611 (il ns) (some (.str w.s)) none none none none none (hN (hI [] cells 1)) 6) h577
 have n20:n<=20:=by omega
 obtain ⟨its,o7,o8,o9,o10,j,hl,hok,n7,n8,n9,n10,e1⟩:=loop611 98 (il ns) (some (.str w.s)) cells n20 (j:=2) (by decide)
 obtain ⟨s0,p10,p11,D,m10,m11,e2⟩:=loop611b (its:=its) (cells:=cells) (j:=j) 96 (il ns) (some (.str w.s)) o7 o8 o9 o10 n10
 obtain ⟨s,p9,SI,m9,e3⟩:=loop611c (cells:=cells) (j:=j) 96 (il ns) (some (.str w.s)) o7 o8 o9 p10 p11 n9 (.of hok D)
 obtain ⟨w1,w2,tw,lw,d1,d2⟩:=put_dm (lxI (its:=its) (cells:=cells) (j:=j)) 96 s
 have hs1:=sh4 (hI its cells j) s (MK.name (.other "put")) (by kernel_rfl)
 have hs2:shapeOf (MK.name (.other "put")) (.ref 4) (dobD (hI its cells j) (rM w1) s) = some (.inst 540):=by
  show (olook 4 (dobD (hI its cells j) (rM w1) s)).bind _ = _
  rw [dobD4];kernel_rfl
 have g1:=go_ref (k:=99) (mk:=.other "put") (S:=s611 (il ns) (some (.str w.s)) o7 o8 p9 p10 p11 (dob (hI its cells j) s) (dnx s)) (dob4 (hI its cells j) s) (by kernel_rfl) (by kernel_rfl) d1
 have g2:=go_ref (k:=99) (mk:=.other "put") (S:=s611 (il ns) (some (.str w.s)) o7 o8 p9 p10 p11 (dobD (hI its cells j) (rM w1) s) (dnx s + 1)) (dobD4 (hI its cells j) (rM w1) s) (by kernel_rfl) (by kernel_rfl) d2
 have ll:its.length<=20:=hl ▸ n20
 have li:its.length<=lim:=Nat.le_trans ll (by decide)
 have lk:(its.map It.k).length = its.length:=List.length_map _
 have l9:(its.map It.k).length < 900:=by rw [lk];omega
 have h8:A8 (its.map It.k):=fun c m=>by
  obtain ⟨i,hi,e⟩:=List.mem_map.mp m
  have k:=fin1 (p:=fun c=>!decide (ixK c < 8) || K8 c) (by kernel_rfl) c
  rw [decide_eq_true (show ixK c < 8 from e ▸ hok i hi)] at k
  exact k
 have q1:=str_ok (its:=its) (S:=s611 (il ns) (some (.str w.s)) o7 o8 p9 p10 p11 (obD its cells j w2 s) (dnx s + 1)) rfl (obD2 its cells j w2 s) li
 have h432:=levels03 89 SI hok ll w tw lw
 have hq:=fsl_head (its.map It.k)
 have hb:=base_01 w (fsl (its.map It.k))
 have q3:=go_lev (en 99).rc (en 99).mt hwa (fsl (its.map It.k))
 rw [hq] at q3 hb h432
 generalize hZ:(its.map It.k).filter str3 = Z at q1 q3 hb h432
 have q2:=lev_ok Z (some (il ns)) (some (.ref 0)) (some (.ref 1)) (some (.ref 2)) (some (.ref 3)) (some (.ref 4)) (some (.str w.s)) o7 o8 p9 p10 p11 [none,none,none,none,none,none,none,none,none,none,none,none,none,none,none,none,none,none,none] (obD its cells j w2 s) (dnx s + 1)
 generalize hbb:baseOf w Z.head? = b at q3 hb h432
 have hm:=emb_lr b
 have P:=(PInv.nil).go (its.map It.o)
 rw [Nat.zero_add,List.length_map] at P
 have hp:∀ p ∈ nsort (prsL (its.map It.o)),p.1 < (its.map It.k).length/\p.2 < (its.map It.k).length:=fun p m=>by
  obtain ⟨p1,p2⟩:=P.f p (mem_nsort m)
  rw [lk];exact ⟨Nat.lt_trans p1 p2,p2⟩
 have c1:=callZ (S:=t611 (il ns) (.str w.s) o7 o8 p9 p10 p11 (some (cl Z)) (some (.int b)) (some (emb b).v) (obD its cells j w2 s) (dnx s + 1)) (fr1 its cells j w2 s (emb b)) (pc584 98 (its.map It.k) hm h8 l9)
 have h596:=pc596 98 (its.map It.o) (by rw [List.length_map];omega)
 rw [show (its.map It.o).map sgV = its.map It.sv from List.map_map] at h596
 have c2:=callZ (S:=⟨thaws [.ref 2,(emb b).v] [cl (its.map It.k),(emb b).v] (t611 (il ns) (.str w.s) o7 o8 p9 p10 p11 (some (cl Z)) (some (.int b)) (some (emb b).v) [] 0).sl,odrop 2 (obD its cells j w2 s),dnx s + 1⟩) (fr2 its cells j w2 s) h596
 have wl:=weakF_len (emb b) (its.map It.k)
 have bl:=brks_len (its.map It.k) (emb b) (emb b) (nsort (prsL (its.map It.o))) (weakF (emb b) (its.map It.k))
 have c3:=qc (l:=[cl (weakF (emb b) (its.map It.k)),.lst ((nsort (prsL (its.map It.o))).map pairV),(emb b).v,cl (its.map It.k)]) (sc (Bool.and_eq_true_iff.mpr ⟨still_prs _,Bool.and_eq_true_iff.mpr ⟨rfl,sc rfl⟩⟩)) (pc601 97 hm (weakF (emb b) (its.map It.k)) (its.map It.k) (nsort (prsL (its.map It.o))) wl l9 hp)
 have c4:=qc (l:=[cl (brks (its.map It.k) (emb b) (emb b) (nsort (prsL (its.map It.o))) (weakF (emb b) (its.map It.k))),(emb b).v]) (sc rfl) (pc606 97 (brks (its.map It.k) (emb b) (emb b) (nsort (prsL (its.map It.o))) (weakF (emb b) (its.map It.k))) (m:=emb b) (by rw [bl,wl];exact l9))
 have sl:=setl_len (emb b) (brks (its.map It.k) (emb b) (emb b) (nsort (prsL (its.map It.o))) (weakF (emb b) (its.map It.k))) []
 have lL:=seqOut3_len (its.map It.k) b (nsort (prsL (its.map It.o)))
 have hil:seqOut3 (its.map It.k) b (nsort (prsL (its.map It.o))) = (setl (emb b) [] (brks (its.map It.k) (emb b) (emb b) (nsort (prsL (its.map It.o))) (weakF (emb b) (its.map It.k)))).map fun c=>impl1 c b:=rfl
 rw [hil] at h432 lL
 have lS:(setl (emb b) [] (brks (its.map It.k) (emb b) (emb b) (nsort (prsL (its.map It.o))) (weakF (emb b) (its.map It.k)))).length<=lim:=by rw [sl,bl,wl,lk];exact li
 generalize setl (emb b) [] (brks (its.map It.k) (emb b) (emb b) (nsort (prsL (its.map It.o))) (weakF (emb b) (its.map It.k))) = Y at c4 h432 lL lS
 have c5:=due_ok (en 99) Y hb lS (S:=⟨(thaws [.ref 1] [.lst (its.map It.sv)] (thaws [.ref 2,(emb b).v] [cl (its.map It.k),(emb b).v] (t611 (il ns) (.str w.s) o7 o8 p9 p10 p11 (some (cl Z)) (some (.int b)) (some (emb b).v) [] 0).sl)).set 15 (some (cl Y)),odrop 1 (odrop 2 (obD its cells j w2 s)),dnx s + 1⟩) rfl
 have c6:=callZ (S:=⟨((thaws [.ref 1] [.lst (its.map It.sv)] (thaws [.ref 2,(emb b).v] [cl (its.map It.k),(emb b).v] (t611 (il ns) (.str w.s) o7 o8 p9 p10 p11 (some (cl Z)) (some (.int b)) (some (emb b).v) [] 0).sl)).set 15 (some (cl Y))).set 16 (some (il (Y.map fun c=>impl1 c b))),odrop 1 (odrop 2 (obD its cells j w2 s)),dnx s + 1⟩) (fr3 its cells j w2 s w.s) h432
 have ql:∀ S,listM false (il (Y.map fun c=>impl1 c b)) S = some (il (Y.map fun c=>impl1 c b),S):=fun S=>if_pos (by rw [List.length_map,List.length_map];exact lS)
 have qe:=eq_il (Y.map fun c=>impl1 c b) [(0,dkO cells j)]
 refine ⟨([(0,dkO cells j)],dnx s + 1),(stp611 99 (il ns) ([],0)).trans ?_⟩
 rw [b611q_f]
 exact B.fin [.s i1,.s i2,.s i3,.m hw,.s i4,.b (show some (small (n:Int)) = some true from congrArg some (small_nat (Nat.le_trans n20 (by decide)))),.f e1,.m (qc (l:=[]) rfl (pc565 98)),.f e2,.m (qc (l:=[]) rfl (pc551 98)),.f e3,.h hs1,.h hs1,.s g1,.h hs2,.h hs2,.s g2,
  .s q1,.s q2,.m q3,.m (sub_LR hb),.s c1,.s c2,.m c3,.m c4,.s c5,.s c6,.m ql,.b qe] (by kernel_rfl)
end Mine
end
noncomputable section
open PySem PySem.W PySem.Calls PyProof.Rows PySem.SeqAt
namespace Mine
noncomputable abbrev hFast:Program->World->SharedT->Thread->Option (SharedT × Thread):=Fast.tw10156331382660048174 (Fast.tw11892475500146522536 Fast.tw14364793385576792824)
theorem hFast_eq:stepT (denote treeTable) = hFast:=by rw [Fast.te10156331382660048174,Fast.te11892475500146522536,Fast.te14364793385576792824]
theorem hRun_eq:hRunS = hRun hFast Fast.tw6613529449190102663:=by unfold hRunS;rw [hFast_eq,Fast.te6613529449190102663]
theorem hl1 (w:World) (os:OsState):(hRun hFast Fast.tw6613529449190102663 pr 4000 w os).map (fun s=>staticsOk (importedModules pr.main.body) (boot_heap w.params) s.abs.heap && namesBound pr s.abs.heap && gensDone s.abs && laidKept (boot_heap w.params) s.abs.heap) = some true:=by kernel_rfl
noncomputable abbrev hQ:Program:={ pr with main:={ pr.main with body:=pr.main.body.drop 78 }}
noncomputable abbrev hLoose:List Str:=pr.boundNames.filter (· != lw.name)
noncomputable abbrev hXt (s:Shared):Bool:=xlAt hQ [] s && recOk lw.row.toRowW.records s
theorem hws:lw.wellSaid = true:=by
 rw [Fast.te9446332074065402090];kernel_rfl
theorem hl2 (w:World) (os:OsState):(hRun hFast Fast.tw6613529449190102663 pr 4000 w os).map (fun s=>Fast.tw4187177175401517315 hQ hLoose (importedModules pr.main.body) hXt true s.abs) = some (openGood hQ hLoose):=by kernel_rfl
theorem hl3 (w:World) (os:OsState):(hRun hFast Fast.tw6613529449190102663 pr 4000 w os).map (fun s=>(tab.check (hFrag s),nsIn (hFrag s) mainGlobals lw.name)) = some (true,some (some (.ref 611))):=by kernel_rfl
theorem hl4 (w:World) (os:OsState):(hRun hFast Fast.tw6613529449190102663 pr 4000 w os).map (fun s=>tab.fn.map (fun x=>fnOf (hFrag s) x.1 x.2)) = some (tab.fn.map (fun x=>fnAt pr x.2)):=by kernel_rfl
theorem hLeft:LeftO pr hQ hLoose hXt (fun s=>hSays tab pr lw.name 611 s.heap) (fun _=>True) 4000:=
 hLeft_of (M:=4000) (boot_open (by kernel_rfl) (by kernel_rfl) fun s=>by kernel_rfl) (fun w=>by kernel_rfl) (by kernel_rfl) (fun w os=>by rw [hRun_eq];exact hl1 w os)
  (fun w os=>by rw [hRun_eq,Fast.te4187177175401517315];exact hl2 w os) (fun w os=>by rw [hRun_eq];exact hl3 w os) (fun w os=>by rw [hRun_eq];exact hl4 w os)
noncomputable def dLaw:DefRec:=match (pr.main.body[78]?:Option Stmt) with
 | some (.FunctionDef n a b _ _ _ sc _ _ p)=>⟨n,a,b,sc,p⟩
 | _=>⟨lw.name,⟨[],[],none,[],[],none,[]⟩,[],pr.main.scope,default⟩
theorem hw03:lw.row.toRowW.promised:=⟨[.list []],by decide +kernel,by decide +kernel⟩
theorem hok03:(chainsOk hQ && opensWell lw.row.prog && (frees lw.row.toRowW && lw.row.within.isEmpty)) = true:=by kernel_rfl
theorem bare03:lw.row.prog.bare:=⟨rfl,rfl,rfl,rfl,rfl,by kernel_rfl⟩
set_option maxHeartbeats 4000000 in
theorem goal03 (H:∀ (ns:List Int),ns.length<=63->∃ hp,Mine.call pg 100 611 [.lst (ns.map .int)] ([],0) = some (.bool true,hp)):lw.Holds:=by
 refine holds_law hws fun said=>holds_open (q:=hQ) (loose:=hLoose) (Xt:=hXt) (XP:=XL hQ []) (Yf:=fun s=>hSays tab pr lw.name 611 s.heap) (Ya:=fun _=>True) (YP:=fun _ h=>hSays tab pr lw.name 611 h) (d:=dLaw) (kwd:=[]) (N:=4000)
  hLeft (fun _ _ e=>of_eq_true e) (fun _ _ _ x k=>hSays_keeps x k) (fun s e=>xl_of s (Bool.and_eq_true_iff.mp e).1) XL.keeps (by kernel_rfl) (by kernel_rfl) (by kernel_rfl) (fun s e=>recFacts_of (Bool.and_eq_true_iff.mp e).2) (by kernel_rfl) said hok03 bare03 hw03 ?_
 intro w s₀ s₁ mg mb G Y fa o pm cd doc dV kV ho hd hcd hD hmg hg args vals as hpre hlay hrd hwl hlo
 obtain ⟨K,KX,hk,hpg,hlaw⟩:=Y
 have T:=G.T
 clear hD hcd hd ho
 have hfa:fa = 611:=by
  have h1:=mg_of KX T.g hlaw
  have h2:mg lw.name = some (.ref fa):=(show dLaw.name = lw.name by kernel_rfl) ▸ hmg
  rw [h1] at h2
  cases h2;rfl
 subst hfa
 clear hmg
 wrow_args hpre hlay hrd hwl hlo
 rename_i ns hs hlay0 hL hr1 hl2 a1 a2 a vs a3 hL2 ra w1 r0 hI hr hc1 hc2
 obtain ⟨hp,he⟩:=H ns (by omega)
 unfold pg at he
 rw [← hpg] at he
 obtain ⟨B,F⟩:=tab_ok (prog:=pr) (w:=w) tab KX T.g T.b T.builtins T.nolimit hk
 refine law_run B F rfl w1 (by omega) (A:=callerA) (k:=100) ⟨by decide,by decide,rfl⟩ he fun h' tk hk=>?_
 exact GoodW.toG ⟨.inl ⟨_,_,[],rfl,fun _=>rfl,ReadsW.bool true,by first | rfl | wrow_post,fun _=>⟨List.nodup_nil,fun _ hm=>(nomatch hm)⟩⟩,hk,rfl,hg⟩
theorem done03:PySem.Challenge.rw_nt0067_03.Holds:=goal03 law611
end Mine
end
theorem PySem.Challenge.cw_nt0067_03_holds : PySem.Challenge.rw_nt0067_03.Holds :=
 Mine.done03
