/- The ideal interpreter: a Lean function that runs the model's Code over abstract heaps. -/
import Derived.Orders
import Derived.KernelRfl
set_option linter.all false
namespace Go.Tg
inductive D where
 | bool (b:Bool)
 | int (k:IntKind) (n:Int)
 | str (s:List UInt8)
 | agg (cs:List D)
 | lst (els:List D)
 deriving Inhabited
def D.cells:D→List D
 | .agg cs=>cs
 | x=>[x]
class Globs where
 gl:Nat→List D
variable [Globs]
inductive IV where
 | d (x:D)
 | un
 | no
 | nul
 | ptr (b off:Nat)
 | vnil
 | emp
 | vec (b sz off len:Nat)
 | lptr (cs:List D) (off:Nat)
 | agg (cs:List IV)
 | tup (vs:List IV)
 | fn (f:Nat) (fst cap:List IV)
 | nofn
 | map (b:Nat)
 | nomap
 | ifc (t:Nat) (v:IV)
 | noifc
 deriving Inhabited
def IV.cells:IV→List IV
 | .d x=>x.cells.map .d
 | .agg cs=>cs
 | v=>[v]
def IV.one:IV→Bool
 | .d (.agg _) | .agg _ | .tup _ | .un | .no=>false
 | _=>true
def IV.plain:IV→Bool
 | .d _ | .nul | .vnil | .nofn | .nomap | .noifc=>true
 | _=>false
inductive Blk where
 | cells (ty:Nat) (cs:List IV)
 | frz (cs:List D)
 | mp (es:List (IV×IV))
 | it (s:List UInt8) (pos:Nat)
 | dead
 deriving Inhabited
abbrev Hp:=List Blk
inductive Out where
 | val (v:IV)
 | pan (v:IV)
abbrev Res:=Option (Out×Hp)
inductive Md where
 | pure | mut | keep
 deriving DecidableEq
structure Tab where
 mode:Nat→Md
 raw:Nat→Bool
 live:Nat→List Nat
abbrev Oracle:=Nat→Nat→Nat→List IV→Hp→Res
section types
variable (P:Program)
def isAggT (t:TypeId):Option Bool:=
 match P.underlying t with
 | some (.struct _) | some (.array _ _)=>some true
 | some _=>some false
 | none=>none
def sizeT (t:TypeId):Option Nat:=(P.info? t).map (·.size)
def hasSl:Nat→TypeId→Bool
 | 0,_=>true
 | n+1,t=>
  match P.underlying t with
  | some (.slice _)=>true
  | some (.struct fs)=>fs.toList.any λf=>hasSl n f.type
  | some (.array _ e)=>hasSl n e
  | _=>false
end types
def ofZ:Nat→Value→Option IV
 | 0,_=>none
 | _+1,.bool b=>some (.d (.bool b))
 | _+1,.int k n=>some (.d (.int k n))
 | _+1,.string s=>some (.d (.str s.data.toList))
 | _+1,.pointer none=>some .nul
 | _+1,.slice none 0 0=>some .vnil
 | _+1,.map none=>some .nomap
 | _+1,.nilFunc=>some .nofn
 | _+1,.nilIface=>some .noifc
 | n+1,.agg cs=>(cs.toList.mapM (ofZ n)).map .agg
 | _+1,_=>none
def zeroT (P:Program) (t:TypeId):Option IV:=((P.info? t).bind (·.zero)).bind (ofZ 12)
def ofC:Value→IV
 | .bool b=>.d (.bool b)
 | .int k n=>.d (.int k n)
 | .string s=>.d (.str s.data.toList)
 | .pointer none=>.nul
 | .slice none 0 0=>.vnil
 | .map none=>.nomap
 | .nilFunc=>.nofn
 | .nilIface=>.noifc
 | .tuple vs=>if vs.size=0 then .tup [] else .un
 | _=>.un
def ld1:IV→Hp→Option IV
 | .ptr b off,H=>
  match H[b]? with
  | some (.cells _ cs)=>cs[off]?
  | some (.frz cs)=>cs[off]?.map .d
  | _=>none
 | .lptr cs off,_=>cs[off]?.map .d
 | _,_=>none
def ldN (n:Nat):IV→Hp→Option IV
 | .ptr b off,H=>
  match H[b]? with
  | some (.cells _ cs)=>if off+n≤cs.length then some (.agg ((cs.drop off).take n)) else none
  | some (.frz cs)=>if off+n≤cs.length then some (.d (.agg ((cs.drop off).take n))) else none
  | _=>none
 | .lptr cs off,_=>if off+n≤cs.length then some (.d (.agg ((cs.drop off).take n))) else none
 | _,_=>none
def iLoad (P:Program) (t:TypeId) (a:IV) (H:Hp):Option IV:=
 match isAggT P t with
 | some true=>match sizeT P t with
  | some n=>ldN n a H
  | none=>none
 | some false=>ld1 a H
 | none=>none
def wr (cs:List IV) (off:Nat):List IV→List IV
 | []=>cs
 | v::vs=>wr (cs.set off v) (off+1) vs
def st (n lim ro:Nat) (a v:IV) (H:Hp):Option Hp:=
 match a with
 | .ptr b off=>
  match H[b]? with
  | some (.cells ty cs)=>
   if v.cells.length=n∧off+n≤cs.length∧v.cells.all IV.one=true∧ro≤b∧(lim≤b∨v.cells.all IV.plain=true) then some (H.set b (.cells ty (wr cs off v.cells))) else none
  | _=>none
 | _=>none
def padd:IV→Nat→Option IV
 | .ptr b off,k=>some (.ptr b (off+k))
 | .lptr cs off,k=>some (.lptr cs (off+k))
 | _,_=>none
def iFieldAddr (P:Program) (s:TypeId) (a:IV) (f:Nat):Option IV:=
 match P.underlying s with
 | some (.struct fields)=>
  match fields[f]? with
  | some fl=>match sizeT P fl.type with
   | some (_+1)=>padd a fl.offset
   | _=>none
  | none=>none
 | _=>none
def part (P:Program) (t:TypeId) (cs:List IV) (off:Nat):Option IV:=
 match isAggT P t with
 | some true=>match sizeT P t with
  | some n=>if off+n≤cs.length then some (.agg ((cs.drop off).take n)) else none
  | none=>none
 | some false=>cs[off]?
 | none=>none
def aggCells:IV→Option (List IV)
 | .agg cs=>some cs
 | .d (.agg cs)=>some (cs.map .d)
 | _=>none
def iField (P:Program) (s:TypeId) (x:IV) (f:Nat):Option IV:=
 match P.underlying s with
 | some (.struct fields)=>
  match fields[f]? with
  | some fl=>match aggCells x with
   | some cs=>part P fl.type cs fl.offset
   | none=>none
  | none=>none
 | _=>none
def ixA (n:Nat):IV→IV→Option IV
 | .vec b sz off len,.d (.int _ i)=>if sz=n∧0≤i∧i<len then some (.ptr b (off+i.toNat*n)) else none
 | .d (.lst els),.d (.int _ i)=>
  if 0≤i then
   match els[i.toNat]? with
   | some e=>if e.cells.length=n then some (.lptr e.cells 0) else none
   | none=>none
  else none
 | _,_=>none
def iIndexAddr (P:Program) (t:TypeId) (x ix:IV):Option IV:=
 match P.underlying t with
 | some (.slice e)=>match sizeT P e with
  | some (n+1)=>ixA (n+1) x ix
  | _=>none
 | _=>none
def ixS:IV→IV→Option IV
 | .d (.str s),.d (.int _ i)=>
  if 0≤i then
   match s[i.toNat]? with
   | some b=>some (.d (.int .u8 b.toNat))
   | none=>none
  else none
 | _,_=>none
def iIndex (P:Program) (t:TypeId) (x ix:IV):Option IV:=
 match P.underlying t with
 | some .string=>ixS x ix
 | _=>none
def bnd (z:Nat):Option IV→Option Nat
 | none=>some z
 | some (.d (.int _ i))=>if 0≤i then some i.toNat else none
 | some _=>none
def slS (x:IV) (lo hi:Option IV):Option IV:=
 match x with
 | .d (.str s)=>
  (bnd s.length hi).bind λh=>(bnd 0 lo).bind λl=>if l≤h∧h≤s.length then some (.d (.str ((s.take h).drop l))) else none
 | _=>none
def slV (n:Nat) (x:IV) (lo hi:Option IV):Option IV:=
 match x with
 | .vec b sz off len=>
  (bnd len hi).bind λh=>(bnd 0 lo).bind λl=>if sz=n∧l≤h∧h≤len then some (.vec b sz (off+l*sz) (h - l)) else none
 | .d (.lst els)=>
  (bnd els.length hi).bind λh=>(bnd 0 lo).bind λl=>
   if l≤h∧h≤els.length∧els.all (λe=>e.cells.length == n)=true then some (.d (.lst ((els.take h).drop l))) else none
 | .vnil=>(bnd 0 hi).bind λh=>(bnd 0 lo).bind λl=>if l≤h∧h≤0 then some .vnil else none
 | _=>none
def iSlice (P:Program) (t:TypeId) (x:IV) (lo hi mx:Option IV):Option IV:=
 match mx with
 | some _=>none
 | none=>
  match P.underlying t with
  | some .string=>slS x lo hi
  | some (.slice e)=>match sizeT P e with
   | some (n+1)=>slV (n+1) x lo hi
   | _=>none
  | _=>none
def lnS (x:IV):Option IV:=
 match x with
 | .d (.str s)=>some (.d (.int .i64 s.length))
 | _=>none
def lnV (x:IV):Option IV:=
 match x with
 | .d (.lst els)=>some (.d (.int .i64 els.length))
 | .vec _ _ _ len=>some (.d (.int .i64 len))
 | .vnil=>some (.d (.int .i64 (0:Nat)))
 | _=>none
def lnM (x:IV) (H:Hp):Option IV:=
 match x with
 | .nomap=>some (.d (.int .i64 (0:Nat)))
 | .map b=>match H[b]? with
  | some (.mp es)=>some (.d (.int .i64 es.length))
  | _=>none
 | _=>none
def iLen (P:Program) (ts:Array TypeId) (x:IV) (H:Hp):Option IV:=
 match ts[0]? with
 | some t=>match P.underlying t with
  | some .string=>lnS x
  | some (.slice _)=>lnV x
  | some (.map _ _)=>lnM x H
  | _=>none
 | none=>none
def srcCells (sz:Nat) (x:IV) (H:Hp):Option (Nat×List IV):=
 match x with
 | .vnil=>some (0,[])
 | .d (.lst els)=>if els.all (λe=>e.cells.length == sz)=true then some (els.length,(els.flatMap D.cells).map .d) else none
 | .d (.str s)=>if sz=1 then some (s.length,s.map λb=>.d (.int .u8 b.toNat)) else none
 | .vec b z off len=>
  if z=sz then
   match H[b]? with
   | some (.cells _ cs)=>if off+len*sz≤cs.length then some (len,(cs.drop off).take (len*sz)) else none
   | some (.frz cs)=>if off+len*sz≤cs.length then some (len,((cs.drop off).take (len*sz)).map .d) else none
   | _=>none
  else none
 | _=>none
def sameBlk:IV→IV→Bool
 | .vec b _ _ _,.vec c _ _ _=>b == c
 | _,_=>false
def app (ty sz ro:Nat) (s x:IV) (H:Hp):Option (IV×Hp):=
 (srcCells sz x H).bind λ(n,new)=>
  if sameBlk s x=true then none else
  match s with
  | .vnil=>if n=0 then some (.vnil,H) else if n≤34359738368 then some (.vec H.length sz 0 n,H++[.cells (2*ty) new]) else none
  | .emp=>if n=0 then some (.emp,H) else if n≤34359738368 then some (.vec H.length sz 0 n,H++[.cells (2*ty) new]) else none
  | .vec b z off len=>
   match H[b]? with
   | some (.cells t cs)=>
    if t=2*ty∧z=sz∧off+len*sz≤cs.length∧ro≤b then
     if n=0 then some (s,H) else if len+n≤34359738368 then some (.vec H.length sz 0 (len+n),H.set b .dead++[.cells (2*ty) ((cs.drop off).take (len*sz)++new)]) else none
    else none
   | _=>none
  | _=>none
def iAppend (P:Program) (ts:Array TypeId) (ro:Nat) (s x:IV) (H:Hp):Option (IV×Hp):=
 match ts.toList with
 | [t,u]=>match P.underlying t,P.underlying u with
  | some (.slice e),some (.slice _)=>match sizeT P e,zeroT P e,(P.info? e).map (·.bytes) with
   | some (n+1),some z,some (by_+1)=>if z.cells.length=n+1∧z.cells.all IV.one=true∧by_<4096 then app e (n+1) ro s x H else none
   | _,_,_=>none
  | some (.slice e),some .string=>match sizeT P e,zeroT P e,(P.info? e).map (·.bytes) with
   | some (n+1),some z,some (by_+1)=>if z.cells.length=n+1∧z.cells.all IV.one=true∧by_<4096 then app e (n+1) ro s x H else none
   | _,_,_=>none
  | _,_=>none
 | _=>none
def isShift:BinOp→Bool
 | .shl | .shr=>true
 | _=>false
def ibits (op:BinOp) (k:IntKind) (a b:Int):Option Int:=
 match op with
 | .and=>some (k.wrap (BitVec.ofInt k.bits a &&& BitVec.ofInt k.bits b).toNat)
 | .or=>some (k.wrap (BitVec.ofInt k.bits a ||| BitVec.ofInt k.bits b).toNat)
 | .xor=>some (k.wrap (BitVec.ofInt k.bits a ^^^ BitVec.ofInt k.bits b).toNat)
 | .andNot=>some (k.wrap (BitVec.ofInt k.bits a &&& ~~~(BitVec.ofInt k.bits b)).toNat)
 | _=>none
def iInt (op:BinOp) (k:IntKind) (a b:Int):Option IV:=
 match op with
 | .add=>some (.d (.int k (k.wrap (a+b))))
 | .sub=>some (.d (.int k (k.wrap (a - b))))
 | .mul=>some (.d (.int k (k.wrap (a*b))))
 | .quo=>if b=0 then none else some (.d (.int k (k.wrap (a.tdiv b))))
 | .rem=>if b=0 then none else some (.d (.int k (a.tmod b)))
 | .and | .or | .xor | .andNot=>(ibits op k a b).map λn=>.d (.int k n)
 | .eql=>some (.d (.bool (a == b)))
 | .neq=>some (.d (.bool (a != b)))
 | .lss=>some (.d (.bool (a<b)))
 | .leq=>some (.d (.bool (a≤b)))
 | .gtr=>some (.d (.bool (a > b)))
 | .geq=>some (.d (.bool (a ≥ b)))
 | _=>none
def iStr (op:BinOp) (a b:List UInt8):Option IV:=
 match op with
 | .add=>if ((a.length+b.length:Nat):Int) > IntKind.i64.max then none else some (.d (.str (a++b)))
 | .eql=>some (.d (.bool (a == b)))
 | .neq=>some (.d (.bool (!(a == b))))
 | .lss=>some (.d (.bool (Op.bytesLess a b)))
 | .leq=>some (.d (.bool (Op.bytesLess a b || a == b)))
 | .gtr=>some (.d (.bool (!(Op.bytesLess a b || a == b))))
 | .geq=>some (.d (.bool (!Op.bytesLess a b)))
 | _=>none
def ieqGo (P:Program) (g:TypeId→IV→IV→Option Bool) (xs ys:List IV):List Field→Option Bool
 | []=>some true
 | f::fs=>
  if f.name = "_" then ieqGo P g xs ys fs else
  (part P f.type xs f.offset).bind λa=>(part P f.type ys f.offset).bind λb=>(g f.type a b).bind λr=>
   if r=true then ieqGo P g xs ys fs else some false
def ieq (P:Program):Nat→TypeId→IV→IV→Option Bool
 | 0,_,_,_=>none
 | n+1,t,x,y=>
  match P.underlying t with
  | some .bool=>match x,y with
   | .d (.bool a),.d (.bool b)=>some (a == b)
   | _,_=>none
  | some (.int _)=>match x,y with
   | .d (.int k a),.d (.int k' b)=>if k=k' then some (a == b) else none
   | _,_=>none
  | some .string=>match x,y with
   | .d (.str a),.d (.str b)=>some (a == b)
   | _,_=>none
  | some (.pointer el)=>match x,y with
   | .nul,.nul=>some true
   | .nul,.ptr _ _ | .ptr _ _,.nul=>some false
   | .ptr b o,.ptr b' o'=>if b=b'∧o=o'∧(sizeT P el).isSome=true then some true else none
   | _,_=>none
  | some (.func _ _ _)=>match x,y with
   | .nofn,.nofn=>some true
   | .nofn,.fn _ _ _ | .fn _ _ _,.nofn=>some false
   | _,_=>none
  | some (.struct fs)=>
   if P.stoodInHeld t=true then none else
   match aggCells x,aggCells y with
   | some xs,some ys=>ieqGo P (ieq P n) xs ys fs.toList
   | _,_=>none
  | _=>none
abbrev ieq.go (P:Program) (n:Nat) (xs ys:List IV):List Field→Option Bool:=ieqGo P (ieq P n) xs ys
def iBin (P:Program) (op:BinOp) (t:TypeId) (x y:IV):Option IV:=
 match x,y with
 | .d (.int k a),.d (.int k' b)=>
  match op with
  | .shl=>if b<0 then none else some (.d (.int k (k.wrap (a*2 ^ (min b.toNat k.bits)))))
  | .shr=>if b<0 then none else some (.d (.int k (a.fdiv (2 ^ (min b.toNat k.bits)))))
  | _=>if k=k' then iInt op k a b else none
 | .d (.str a),.d (.str b)=>iStr op a b
 | x,y=>
  match op with
  | .eql=>if P.eqGuardType P.depth t=true then none else (ieq P 20 t x y).map λr=>.d (.bool r)
  | .neq=>if P.eqGuardType P.depth t=true then none else (ieq P 20 t x y).map λr=>.d (.bool (!r))
  | _=>none
def iUn (op:UnOp) (x:IV):Option IV:=
 match op,x with
 | .neg,.d (.int k n)=>iInt .sub k 0 n
 | .xor,.d (.int k n)=>iInt .xor k (if k.signed then -1 else k.max) n
 | .not,.d (.bool b)=>some (.d (.bool (!b)))
 | _,_=>none
def byteOf:IV→Option UInt8
 | .d (.int .u8 n)=>some (UInt8.ofNat n.toNat)
 | _=>none
def bstr (x:IV) (H:Hp):Option IV:=
 match x with
 | .vnil=>some (.d (.str []))
 | .d (.lst [])=>some (.d (.str []))
 | .vec b z off len=>(srcCells 1 (.vec b z off len) H).bind λr=>(r.2.mapM byteOf).map λl=>.d (.str l)
 | _=>none
def sbyt (ty:Nat) (x:IV) (H:Hp):Option (IV×Hp):=
 match x with
 | .d (.str [])=>some (.d (.lst []),H)
 | .d (.str (c::s))=>some (.vec H.length 1 0 (s.length+1),H++[.cells (2*ty) ((c::s).map λb=>.d (.int .u8 b.toNat))])
 | _=>none
def iConvInt (k:IntKind) (x:IV):Option IV:=
 match x with
 | .d (.int _ n)=>some (.d (.int k (k.wrap n)))
 | _=>none
def ifill (place:Nat→Option (Nat×Nat)) (cells:List IV):List (Nat×IV)→Option (List IV)
 | []=>some cells
 | (i,v)::rest=>
  match place i with
  | none=>none
  | some (off,size)=>
   if v.cells.length≠size∨off+v.cells.length > cells.length∨v.cells.all IV.one=false then none
   else ifill place (wr cells off v.cells) rest
def iBuild (P:Program) (t:TypeId) (parts:List (Nat×IV)):Option IV:=
 match P.underlying t,zeroT P t with
 | some (.struct fs),some z=>
  (fs.toList.mapM λf=>(sizeT P f.type).map λn=>(f.offset,n)).bind λplaces=>
   if z.cells.all IV.one=true then (ifill (λi=>places[i]?) z.cells parts).map .agg else none
 | _,_=>none
def reps (n:Nat) (l:List IV):List IV:=
 match n with
 | 0=>[]
 | n+1=>l++reps n l
def iBuildSlice (P:Program) (t:TypeId) (len:Nat) (parts:List (Nat×IV)) (H:Hp):Option (IV×Hp):=
 match P.underlying t with
 | some (.slice e)=>
  match sizeT P e,zeroT P e with
  | some (n+1),some z=>
   if z.cells.length=n+1∧len*(n+1)≤2 ^ 24∧z.cells.all IV.one=true then
    (ifill (λi=>some (i*(n+1),n+1)) (reps len z.cells) parts).map λcs=>(.vec H.length (n+1) 0 len,H++[.cells (2*e) cs])
   else none
  | _,_=>none
 | _=>none
def iMakeSlice (P:Program) (t:TypeId) (len cap:IV) (H:Hp):Option (IV×Hp):=
 match P.underlying t,len,cap with
 | some (.slice e),.d (.int _ l),.d (.int _ c)=>
  match sizeT P e,zeroT P e,(P.info? e).map (·.bytes) with
  | some (n+1),some z,some by_=>
   if z.cells.length=n+1∧z.cells.all IV.one=true∧0≤l∧l≤c∧c≤2 ^ 62∧by_*c≤2 ^ 48 then
    some (.vec H.length (n+1) 0 l.toNat,H++[.cells (2*e) (reps c.toNat z.cells)])
   else none
  | _,_,_=>none
 | _,_,_=>none
def iPick (c a b:IV):Option IV:=
 match c with
 | .d (.bool t)=>some (if t=true then a else b)
 | _=>none
def iNil (x:IV):Option IV:=
 match x with
 | .ptr _ _ | .lptr _ _ | .fn _ _ _=>some x
 | _=>none
def iExtract (x:IV) (i:Nat):Option IV:=
 match x with
 | .tup vs=>vs[i]?
 | _=>none
def iBox (ty:Nat) (x:IV) (H:Hp):Option (IV×Hp):=
 if x.cells.all IV.one=true then some (.ptr H.length 0,H++[.cells (2*ty+1) x.cells]) else none
def iMin (x y:IV):Option IV:=
 match x,y with
 | .d (.int k a),.d (.int k' b)=>if k=k' then some (.d (.int k (if b<a then b else a))) else none
 | _,_=>none
def iMax (x y:IV):Option IV:=
 match x,y with
 | .d (.int k a),.d (.int k' b)=>if k=k' then some (.d (.int k (if a<b then b else a))) else none
 | _,_=>none
def frz.group (sz:Nat):Nat→List D→List D
 | 0,_=>[]
 | len+1,l=>(if sz=1 then (match l with | x::_=>x | []=>.agg []) else .agg (l.take sz))::frz.group sz len (l.drop sz)
def frzMany (g:IV→Hp→Option (D×Hp)):List IV→Hp→Option (List D×Hp)
 | [],H=>some ([],H)
 | v::vs,H=>(g v H).bind λr=>(frzMany g vs r.2).map λq=>(r.1::q.1,q.2)
def frz (ro:Nat):Nat→IV→Hp→Option (D×Hp)
 | 0,_,_=>none
 | n+1,v,H=>
  match v with
  | .d x=>some (x,H)
  | .vnil=>some (.lst [],H)
  | .emp=>some (.lst [],H)
  | .agg cs=>(frzMany (frz ro n) cs H).map λr=>(.agg r.1,r.2)
  | .vec b sz off len=>
   match H[b]? with
   | some (.frz cs)=>if off+len*sz≤cs.length then some (.lst (frz.group sz len (cs.drop off)),H) else none
   | some (.cells _ cs)=>
    if off+len*sz≤cs.length∧ro≤b then
     (frzMany (frz ro n) cs H).bind λr=>match r.2[b]? with
      | some (.cells _ _)=>some (.lst (frz.group sz len (r.1.drop off)),r.2.set b (.frz r.1))
      | _=>none
    else none
   | _=>none
  | _=>none
abbrev frz.many (ro n:Nat):List IV→Hp→Option (List D×Hp):=frzMany (frz ro n)
def frzA (ro:Nat) (v:IV) (H:Hp):IV×Hp:=
 match v with
 | .d x=>(.d x,H)
 | v=>match frz ro 6 v H with
  | some (x,H)=>(.d x,H)
  | none=>(v,H)
def frzArgs (ro:Nat):List (Bool×IV)→Hp→List IV×Hp
 | [],H=>([],H)
 | (s,v)::vs,H=>
  if s=true then ((frzA ro v H).1::(frzArgs ro vs (frzA ro v H).2).1,(frzArgs ro vs (frzA ro v H).2).2)
  else (v::(frzArgs ro vs H).1,(frzArgs ro vs H).2)
def frzR (ro:Nat) (v:IV) (H:Hp):Option (IV×Hp):=
 match v with
 | .d x=>some (.d x,H)
 | .nul=>some (.nul,H)
 | .ifc t v=>(frz ro 6 v H).map λr=>(.ifc t (.d r.1),r.2)
 | .noifc=>some (.noifc,H)
 | v=>(frz ro 6 v H).map λr=>(.d r.1,r.2)
def frzRs (ro:Nat):List IV→Hp→Option (List IV×Hp)
 | [],H=>some ([],H)
 | v::vs,H=>(frzR ro v H).bind λr=>(frzRs ro vs r.2).map λq=>(r.1::q.1,q.2)
def oneOf:List IV→IV
 | [v]=>v
 | vs=>.tup vs
def fin (m:Md) (H0:Hp) (ro:Nat) (vs:List IV) (H:Hp):Res:=
 match m with
 | .keep=>some (.val (oneOf vs),H)
 | .mut=>(frzRs ro vs H).map λr=>(.val (oneOf r.1),r.2.take H0.length)
 | .pure=>(frzRs ro vs H).map λr=>(.val (oneOf r.1),H0)
def finP (m:Md) (H0:Hp) (ro:Nat) (v:IV) (H:Hp):Res:=
 match m with
 | .keep=>some (.pan v,H)
 | .mut=>(frzR ro v H).map λr=>(.pan r.1,r.2.take H0.length)
 | .pure=>(frzR ro v H).map λr=>(.pan r.1,H0)
abbrev Env:=List IV
def ev (e:Env):Operand→IV
 | .tmp t=>e.getD t .un
 | .const v=>ofC v
 | .global _=>.un
 | .func f=>.fn f [] []
structure Ctx where
 P:Program
 T:Tab
 call:Oracle
 lim:Nat
 ro:Nat
def put (e:Env) (dst:Option Tmp) (v:IV):Env:=
 match dst with
 | some d=>e.set d v
 | none=>e
def slArgs (P:Program) (f:Nat):List Bool:=
 match P.funcs[f]? with
 | some fn=>fn.params.toList.map (hasSl P 8)
 | none=>[]
def zipB:List Bool→List IV→List (Bool×IV)
 | b::bs,v::vs=>(b,v)::zipB bs vs
 | _,vs=>vs.map λv=>(false,v)
def keyEq:IV→IV→Option Bool
 | .d (.int k a),.d (.int k' b)=>if k=k' then some (a == b) else none
 | .d (.str a),.d (.str b)=>some (a == b)
 | _,_=>none
def keyT (P:Program) (t:TypeId) (k:IV):Bool:=
 match P.underlying t,k with
 | some (.int _),.d (.int _ _)=>true
 | some .string,.d (.str _)=>true
 | _,_=>false
def mFind (k:IV):List (IV×IV)→Nat→Option (Option (Nat×IV))
 | [],_=>some none
 | (x,v)::es,i=>
  match keyEq k x with
  | some true=>some (some (i,v))
  | some false=>mFind k es (i+1)
  | none=>none
def mapOf (x:IV) (H:Hp):Option (List (IV×IV)):=
 match x with
 | .nomap=>some []
 | .map b=>match H[b]? with
  | some (.mp es)=>some es
  | _=>none
 | _=>none
def iLookup (P:Program) (t:TypeId) (x i:IV) (ok:Bool) (H:Hp):Option IV:=
 match P.underlying t with
 | some (.map k el)=>
  if keyT P k i=true then
   (mapOf x H).bind λes=>(mFind i es 0).bind λr=>(match r with
    | some (_,v)=>some (v,true)
    | none=>(zeroT P el).map λz=>(z,false)).map λ(p:IV×Bool)=>if ok=true then .tup [p.1,.d (.bool p.2)] else p.1
  else none
 | _=>none
def iMapUpdate (P:Program) (t:TypeId) (lim ro:Nat) (m k x:IV) (H:Hp):Option Hp:=
 match P.underlying t,m with
 | some (.map kt _),.map b=>
  match H[b]? with
  | some (.mp es)=>
   if keyT P kt k=true∧ro≤b∧(lim≤b∨x.plain=true) then
    (mFind k es 0).map λr=>match r with
     | some (i,_)=>H.set b (.mp (es.set i (k,x)))
     | none=>H.set b (.mp (es++[(k,x)]))
   else none
  | _=>none
 | _,_=>none
def iDelete (P:Program) (ts:Array TypeId) (ro:Nat) (m k:IV) (H:Hp):Option Hp:=
 match (ts[0]?).bind P.underlying,m with
 | some (.map kt _),.map b=>
  match H[b]? with
  | some (.mp es)=>
   if keyT P kt k=true∧ro≤b then
    (mFind k es 0).map λr=>match r with
     | some (i,_)=>H.set b (.mp (es.eraseIdx i))
     | none=>H
   else none
  | _=>none
 | _,_=>none
def iClear (P:Program) (ts:Array TypeId) (ro:Nat) (m:IV) (H:Hp):Option Hp:=
 match (ts[0]?).bind P.underlying,m with
 | some (.map _ _),.map b=>
  match H[b]? with
  | some (.mp _)=>if ro≤b then some (H.set b (.mp [])) else none
  | _=>none
 | _,_=>none
def iRange (P:Program) (t:TypeId) (x:IV) (H:Hp):Option (IV×Hp):=
 match P.underlying t,x with
 | some .string,.d (.str s)=>some (.ptr H.length 0,H++[.it s 0])
 | _,_=>none
def iNext (ro:Nat) (x:IV) (H:Hp):Option (IV×Hp):=
 match x with
 | .ptr b 0=>
  match H[b]? with
  | some (.it s pos)=>
   if ro≤b then
    if pos<s.length then
     some (.tup [.d (.bool true),.d (.int .i64 pos),.d (.int .i32 (Utf8.decode ⟨s.toArray⟩ pos).1)],H.set b (.it s (pos+(Utf8.decode ⟨s.toArray⟩ pos).2)))
    else some (.tup [.d (.bool false)],H)
   else none
  | _=>none
 | _=>none
def iUnsafe (P:Program) (x:IV) (H:Hp) (back:Option TypeId):Option IV:=
 match x with
 | .nul=>some .nul
 | .ptr b off=>
  match H[b]? with
  | some (.cells ty cs)=>
   match back with
   | none=>if off<cs.length then some (.ptr b off) else none
   | some u=>match sizeT P u with
    | some (n+1)=>if ty=2*u+1∧off=0∧n+1≤cs.length then some (.ptr b off) else none
    | _=>none
  | _=>none
 | _=>none
def iSliceData (x:IV):Option IV:=
 match x with
 | .vnil=>some .nul
 | .vec b _ off (_+1)=>some (.ptr b off)
 | _=>none
def datas:List IV→Option (List D)
 | []=>some []
 | .d x::vs=>(datas vs).map λl=>x::l
 | _::_=>none
def iUnsafeStr (P:Program) (ts:Array TypeId) (ro:Nat) (x n:IV) (H:Hp):Option (IV×Hp):=
 match x,n with
 | .nul,.d (.int _ 0)=>if (ts[0]?).isSome=true then some (.d (.str []),H) else none
 | .ptr b off,.d (.int _ (.ofNat (m+1)))=>
  match H[b]?,(ts[0]?).bind P.underlying with
  | some (.cells ty cs),some (.pointer u)=>
   if ty=2*u∧off+(m+1)≤cs.length∧ro≤b∧sizeT P u=some 1∧(m+1:Nat)≤2 ^ 62 then
    (datas cs).bind λl=>(((cs.drop off).take (m+1)).mapM byteOf).map λs=>(.d (.str s),H.set b (.frz l))
   else none
  | _,_=>none
 | _,_=>none
def iArrAt (P:Program) (t:TypeId) (x ix:IV):Option IV:=
 match P.underlying t,ix with
 | some (.array n e),.d (.int _ i)=>match sizeT P e with
  | some k=>if 0≤i∧i<n then padd x (i.toNat*k) else none
  | none=>none
 | _,_=>none
def opX (C:Ctx) (o:Oper) (e:Env) (H:Hp):Option (IV×Hp):=
 match o.op with
 | .makeMap _ none=>some (.map H.length,H++[.mp []])
 | .lookup t x i ok=>(iLookup C.P t (ev e x) (ev e i) ok H).map λv=>(v,H)
 | .mapUpdate t m k x=>(iMapUpdate C.P t C.lim C.ro (ev e m) (ev e k) (ev e x) H).map λH=>(.un,H)
 | .range t x=>iRange C.P t (ev e x) H
 | .next x true=>iNext C.ro (ev e x) H
 | .convert src dst x=>
  match C.P.underlying src,C.P.underlying dst with
  | some (.pointer t),some .unsafePointer=>match sizeT C.P t with
   | some (_+1)=>(iUnsafe C.P (ev e x) H none).map λv=>(v,H)
   | _=>none
  | some .unsafePointer,some (.pointer u)=>(iUnsafe C.P (ev e x) H (some u)).map λv=>(v,H)
  | _,_=>none
 | .indexAddr t (.global g) i=>(iArrAt C.P t (.lptr (Globs.gl g) 0) (ev e i)).map λv=>(v,H)
 | .indexAddr t x i=>(iArrAt C.P t (ev e x) (ev e i)).map λv=>(v,H)
 | .call c=>
  match c.callee with
  | .builtin .delete=>match c.args.toList with
   | [m,k]=>(iDelete C.P c.argTypes C.ro (ev e m) (ev e k) H).map λH=>(.tup [],H)
   | _=>none
  | .builtin .clear=>match c.args.toList with
   | [m]=>(iClear C.P c.argTypes C.ro (ev e m) H).map λH=>(.tup [],H)
   | _=>none
  | .builtin .unsafeSliceData=>match c.args.toList with
   | [x]=>(iSliceData (ev e x)).map λv=>(v,H)
   | _=>none
  | .builtin .unsafeString=>match c.args.toList with
   | [x,n]=>iUnsafeStr C.P c.argTypes C.ro (ev e x) (ev e n) H
   | _=>none
  | _=>none
 | _=>none
section op
variable {ρ:Type} (C:Ctx)
def lift (x:Option IV) (H:Hp) (kv:IV→Hp→Option ρ):Option ρ:=x.bind λv=>kv v H
def liftH (x:Option (IV×Hp)) (kv:IV→Hp→Option ρ):Option ρ:=x.bind λr=>kv r.1 r.2
def liftU (x:Option Hp) (kv:IV→Hp→Option ρ):Option ρ:=x.bind λH=>kv .un H
def liftR (x:Res) (kv kp:IV→Hp→Option ρ):Option ρ:=
 x.bind λr=>match r.1 with
  | .val v=>kv v r.2
  | .pan v=>kp v r.2
def goCall (f:Nat) (args:List IV) (H:Hp) (kv kp:IV→Hp→Option ρ):Option ρ:=
 if C.T.raw f=true then liftR (C.call C.lim C.ro f args H) kv kp
 else liftR (C.call C.lim C.ro f (frzArgs C.ro (zipB (slArgs C.P f) args) H).1 (frzArgs C.ro (zipB (slArgs C.P f) args) H).2) kv kp
def goVal (f:IV) (args:List IV) (H:Hp) (kv kp:IV→Hp→Option ρ):Option ρ:=
 match f with
 | .fn f fst cap=>liftR (C.call C.lim C.ro f (fst++args++cap) H) kv kp
 | _=>none
def opK (o:Oper) (e:Env) (H:Hp) (kv kp:IV→Hp→Option ρ):Option ρ:=
 match o.op with
 | .move x | .assign x=>kv (ev e x) H
 | .pick c a b=>lift (iPick (ev e c) (ev e a) (ev e b)) H kv
 | .alloc t=>liftH ((zeroT C.P t).bind λz=>iBox t z H) kv
 | .box t x=>liftH (iBox t (ev e x) H) kv
 | .build t ps=>lift (iBuild C.P t (ps.toList.map λp=>(p.1,ev e p.2))) H kv
 | .buildSlice t n ps=>liftH (iBuildSlice C.P t n (ps.toList.map λp=>(p.1,ev e p.2)) H) kv
 | .load t a=>lift (iLoad C.P t (ev e a) H) H kv
 | .store t a x=>liftU ((sizeT C.P t).bind λn=>st n C.lim C.ro (ev e a) (ev e x) H) kv
 | .nilCheck x=>lift (iNil (ev e x)) H kv
 | .binOp op t x y _=>lift (iBin C.P op t (ev e x) (ev e y)) H kv
 | .unOp op _ x=>lift (iUn op (ev e x)) H kv
 | .convert src dst x=>
  match C.P.underlying src,C.P.underlying dst with
  | some (.int _),some (.int k)=>lift (iConvInt k (ev e x)) H kv
  | some .string,some .string=>lift (match ev e x with | .d (.str s)=>some (.d (.str s)) | _=>none) H kv
  | some .string,some (.slice el)=>match C.P.underlying el,sizeT C.P el with
   | some (.int .u8),some 1=>liftH (sbyt el (ev e x) H) kv
   | _,_=>none
  | some (.slice el),some .string=>match C.P.underlying el with
   | some (.int .u8)=>lift (bstr (ev e x) H) H kv
   | _=>none
  | _,_=>liftH (opX C o e H) kv
 | .makeInterface t x=>match C.P.underlying t with
  | some (.interface _) | none=>none
  | some _=>kv (.ifc t (ev e x)) H
 | .makeFunc (.func f) fst cap=>kv (.fn f (fst.toList.map (ev e)) (cap.toList.map (ev e))) H
 | .makeSlice t l c=>liftH (iMakeSlice C.P t (ev e l) (ev e c) H) kv
 | .slice t x lo hi mx=>lift (iSlice C.P t (ev e x) (lo.map (ev e)) (hi.map (ev e)) (mx.map (ev e))) H kv
 | .fieldAddr s x f=>lift (iFieldAddr C.P s (ev e x) f) H kv
 | .field s x f=>lift (iField C.P s (ev e x) f) H kv
 | .indexAddr t x i=>match iIndexAddr C.P t (ev e x) (ev e i) with
  | some v=>kv v H
  | none=>liftH (opX C o e H) kv
 | .index t x i=>lift (iIndex C.P t (ev e x) (ev e i)) H kv
 | .extract x i=>lift (iExtract (ev e x) i) H kv
 | .panic x=>match ev e x with
  | .ifc t v=>kp (.ifc t v) H
  | _=>none
 | .call c=>
  match c.callee with
  | .value (.func f)=>goCall C f (c.args.toList.map (ev e)) H kv kp
  | .value (.tmp t)=>goVal C (ev e (.tmp t)) (c.args.toList.map (ev e)) H kv kp
  | .builtin .len=>match c.args.toList with
   | [x]=>lift (iLen C.P c.argTypes (ev e x) H) H kv
   | _=>none
  | .builtin .append=>match c.args.toList with
   | [s,x]=>liftH (iAppend C.P c.argTypes C.ro (ev e s) (ev e x) H) kv
   | _=>none
  | .builtin .min=>match c.args.toList with
   | [x,y]=>lift (iMin (ev e x) (ev e y)) H kv
   | [x,y,z]=>lift ((iMin (ev e x) (ev e y)).bind λv=>iMin v (ev e z)) H kv
   | _=>none
  | .builtin .max=>match c.args.toList with
   | [x,y]=>lift (iMax (ev e x) (ev e y)) H kv
   | [x,y,z]=>lift ((iMax (ev e x) (ev e y)).bind λv=>iMax v (ev e z)) H kv
   | _=>none
  | _=>liftH (opX C o e H) kv
 | _=>liftH (opX C o e H) kv
inductive Ex where
 | nor
 | exi (id:Nat)
 | ret
 | pan (v:IV)
def br (c:IV) (x y:Option ρ):Option ρ:=
 match c with
 | .d (.bool t)=>if t=true then x else y
 | _=>none
def brN (c:IV) (x y z:Option ρ):Option ρ:=
 match c with
 | .d (.bool t)=>if t=true then x else y
 | .no=>z
 | _=>none
inductive Cl where
 | r0 | r1 | pc | al | wr
 deriving DecidableEq
def clOf (o:Oper):Cl:=
 match o.op with
 | .move _ | .assign _ | .pick _ _ _ | .build _ _ | .nilCheck _ | .binOp _ _ _ _ _ | .unOp _ _ _ | .makeInterface _ _ | .makeFunc _ _ _ | .slice _ _ _ _ _
 | .fieldAddr _ _ _ | .field _ _ _ | .indexAddr _ _ _ | .index _ _ _ | .extract _ _=>.r0
 | .load _ _ | .lookup _ _ _ _=>.r1
 | .convert src dst _=>
  match C.P.underlying src,C.P.underlying dst with
  | some (.int _),some (.int _) | some .string,some .string=>.r0
  | some (.slice _),some .string=>.r1
  | _,_=>.wr
 | .alloc _ | .box _ _ | .buildSlice _ _ _ | .makeSlice _ _ _ | .makeMap _ none=>.al
 | .call c=>
  match c.callee with
  | .builtin .len=>.r1
  | .builtin .min | .builtin .max | .builtin .unsafeSliceData=>.r0
  | .value (.func f)=>if C.T.mode f=.pure∧C.T.raw f=false then .pc else .wr
  | _=>.wr
 | _=>.wr
def Cl.fit:Cl→Cl→Bool
 | .r0,_ | _,.r0 | .r1,.r1 | .r1,.pc | .pc,.r1 | .pc,.pc | .al,.r1 | .r1,.al=>true
 | _,_=>false
def noVec:IV→Bool
 | .vec _ _ _ _=>false
 | .agg cs=>go cs
 | _=>true
where
 go:List IV→Bool
  | []=>true
  | v::vs=>noVec v && go vs
def fits (D:Option Bool) (o:Oper) (e:Env) (x:Option ρ):Option ρ:=
 match D with
 | none=>x
 | some _=>
  match o.op with
  | .call c=>
   match c.callee with
   | .value (.func f)=>if C.T.raw f=true∨(zipB (slArgs C.P f) (c.args.toList.map (ev e))).all (λp=>!p.1 || noVec p.2)=true then x else none
   | _=>x
  | _=>x
def pan (D:Option Bool) (os:List Oper) (e:Env) (k:Ex→Env→Hp→Option ρ) (v:IV) (H:Hp):Option ρ:=
 match D with
 | none=>k (.pan v) e H
 | some b=>match os with
  | []=>if b=true then k (.pan v) e H else none
  | _::_=>none
def opsK (D:Option Bool) (ops:Array Oper):List Oper→Env→Hp→(Ex→Env→Hp→Option ρ)→Option ρ
 | [],e,H,k=>k .nor e H
 | o::os,e,H,k=>
  match o.guard with
  | none=>fits C D o e (opK C o e H (λv H=>opsK D ops os (put e o.dst v) H k) (pan D os e k))
  | some (j,want)=>
   match (ops[j]?).bind (·.dst) with
   | none=>none
   | some d=>
    brN (e.getD d .un)
     (
      if want=true then fits C D o (e.set d (.d (.bool true))) (opK C o (e.set d (.d (.bool true))) H (λv H=>opsK D ops os (put (e.set d (.d (.bool true))) o.dst v) H k) (pan D os e k))
      else opsK D ops os (put (e.set d (.d (.bool true))) o.dst .no) H k)
     (
      if want=false then fits C D o (e.set d (.d (.bool false))) (opK C o (e.set d (.d (.bool false))) H (λv H=>opsK D ops os (put (e.set d (.d (.bool false))) o.dst v) H k) (pan D os e k))
      else opsK D ops os (put (e.set d (.d (.bool false))) o.dst .no) H k)
     (opsK D ops os (put e o.dst .no) H k)
def stepB (acc:List Nat) (o:Oper):Nat:=o.after.toList.foldl (λs e=>if Region.binds .any e=true then s ||| 2 ^ e.on ||| acc.getD e.on 0 else s) 0
def befs:List Oper→List Nat→List Nat
 | [],acc=>acc
 | o::os,acc=>befs os (acc++[stepB acc o])
def pairs (ops:Array Oper) (bs:List Nat):List (Oper×Nat)→Bool
 | []=>true
 | (o,j)::l=>(l.all λp=>(bs.getD p.2 0).testBit j || ((clOf C o).fit (clOf C p.1) && Oper.apart ops o p.1)) && pairs ops bs l
def edgesOK (l:List (Oper×Nat)) (bs:List Nat):Bool:=
 l.all λp=>p.1.after.toList.all (λe=>!Region.binds .any e || decide (e.on<p.2)) && match p.1.guard with
  | none=>true
  | some (j,_)=>(bs.getD p.2 0).testBit j
def drawOK (ops:Array Oper):Bool:=
 let bs:=befs ops.toList []
 edgesOK ops.toList.zipIdx bs && pairs C ops bs ops.toList.zipIdx
def lastOK (ops:Array Oper):Bool:=(List.range (ops.size - 1)).all λi=>((befs ops.toList []).getD (ops.size - 1) 0).testBit i
end op
def opR (C:Ctx) (o:Oper) (e:Env) (H:Hp):Option (Out×Hp):=opK C o e H (λv H=>some (.val v,H)) (λv H=>some (.pan v,H))
def opF (C:Ctx) (o:Oper) (e:Env) (H:Hp):Option (Out×Hp):=fits C (some true) o e (opR C o e H)
def valO (C:Ctx) (ops:Array Oper) (o:Oper) (e:Env) (H:Hp):Option (IV×Hp):=
 match o.guard with
 | none=>(opF C o e H).bind λr=>match r.1 with | .val v=>some (v,r.2) | .pan _=>none
 | some (j,want)=>
  match (ops[j]?).bind (·.dst) with
  | none=>none
  | some d=>
   match e.getD d .un with
   | .d (.bool t)=>if t=want then (opF C o e H).bind λr=>match r.1 with | .val v=>some (v,r.2) | .pan _=>none else some (.no,H)
   | .no=>some (.no,H)
   | _=>none
mutual
def eqD:D→D→Bool
 | .bool a,.bool b=>a == b
 | .int k a,.int j b=>decide (k=j) && a == b
 | .str a,.str b=>a == b
 | .agg a,.agg b=>eqDs a b
 | .lst a,.lst b=>eqDs a b
 | _,_=>false
def eqDs:List D→List D→Bool
 | [],[]=>true
 | x::xs,y::ys=>eqD x y && eqDs xs ys
 | _,_=>false
end
mutual
def eqV:IV→IV→Bool
 | .d a,.d b=>eqD a b
 | .un,.un | .no,.no | .nul,.nul | .vnil,.vnil | .emp,.emp | .nofn,.nofn | .nomap,.nomap | .noifc,.noifc=>true
 | .ptr b o,.ptr b' o'=>b == b' && o == o'
 | .vec b z o l,.vec b' z' o' l'=>b == b' && z == z' && o == o' && l == l'
 | .lptr a o,.lptr b o'=>eqDs a b && o == o'
 | .agg a,.agg b=>eqVs a b
 | .tup a,.tup b=>eqVs a b
 | .fn f a c,.fn g b d=>f == g && eqVs a b && eqVs c d
 | .map b,.map b'=>b == b'
 | .ifc t v,.ifc u w=>t == u && eqV v w
 | _,_=>false
def eqVs:List IV→List IV→Bool
 | [],[]=>true
 | x::xs,y::ys=>eqV x y && eqVs xs ys
 | _,_=>false
end
def eqEs:List (IV×IV)→List (IV×IV)→Bool
 | [],[]=>true
 | (a,b)::xs,(c,d)::ys=>eqV a c && eqV b d && eqEs xs ys
 | _,_=>false
def eqB:Blk→Blk→Bool
 | .cells t a,.cells u b=>t == u && eqVs a b
 | .frz a,.frz b=>eqDs a b
 | .mp a,.mp b=>eqEs a b
 | .it s p,.it t q=>s == t && p == q
 | .dead,.dead=>true
 | _,_=>false
def eqH:Hp→Hp→Bool
 | [],[]=>true
 | x::xs,y::ys=>eqB x y && eqH xs ys
 | _,_=>false
section
variable (C:Ctx) (ops:Array Oper) (e0 ef:Env) (H0:Hp)
def turns (o:Oper):Bool:=
 match clOf C o with
 | .r0 | .r1 | .pc=>false
 | _=>true
def bsOf:List Nat:=befs ops.toList []
def ahead (i j:Nat):Bool:=((bsOf ops).getD i 0).testBit j
def turners:List Nat:=((List.range ops.size).filter λi=>(ops[i]?).any (turns C)).reverse
def tabR:List Nat→Option Hp
 | []=>some H0
 | w::m=>(tabR m).bind λH=>(ops[w]?).bind λo=>(valO C ops o ef H).map (·.2)
def subs:List Nat→List (List Nat)
 | []=>[[]]
 | x::xs=>subs xs++(subs xs).map (x :: ·)
def mayMeet (i:Nat) (m:List Nat):Bool:=
 !m.contains i && (turners C ops).all (λw=>!ahead ops i w || m.contains w) && m.all (λw=>!ahead ops w i) && m.all (λw=>(turners C ops).all λv=>!ahead ops w v || m.contains v)
def insertD (i:Nat):List Nat→List Nat
 | []=>[i]
 | x::xs=>if x<i then i::x::xs else x::insertD i xs
def oneOK (i:Nat) (o:Oper) (m:List Nat):Bool:=
 match tabR C ops ef H0 m with
 | none=>false
 | some H=>match valO C ops o ef H with
  | none=>false
  | some (v,H')=>(match o.dst with | some d=>eqV v (ef.getD d .un) | none=>true) &&
   (if (turners C ops).contains i=true then (match tabR C ops ef H0 (insertD i m) with | some H2=>eqH H' H2 | none=>false) else eqH H' H)
def dsts:List Nat:=ops.toList.filterMap (·.dst)
def squareOK (Hf:Hp):Bool:=
 edgesOK ops.toList.zipIdx (bsOf ops) &&
 (e0.length == ef.length) &&
 ((List.range e0.length).all λt=>(dsts ops).contains t || eqV (e0.getD t .un) (ef.getD t .un)) &&
 (ops.toList.zipIdx.all λp=>(match p.1.dst with | some d=>decide (d<ef.length) | none=>true) &&
  (p.1.looksAt ops).all (λt=>ops.toList.zipIdx.all λq=>q.1.dst != some t || ahead ops p.2 q.2) &&
  (subs (turners C ops)).all λm=>!mayMeet C ops p.2 m || oneOK C ops ef H0 p.2 p.1 m) &&
 (match tabR C ops ef H0 (turners C ops) with | some H=>eqH H Hf | none=>false)
end
def endE:Ex→Env→Hp→Option (Env×Hp)
 | .nor,e,H=>some (e,H)
 | _,_,_=>none
def sqE (C:Ctx) (ops:Array Oper) (e:Env) (H:Hp):Option (Env×Hp):=
 (opsK C none ops ops.toList e H endE).bind λr=>if squareOK C ops e r.1 H r.2=true then some r else none
inductive AnyR {ρ:Type} (C:Ctx) (ops:Array Oper) (k:Ex→Env→Hp→Option ρ) (res:ρ):Array Bool→Env→Hp→Prop
 | done {listed:Array Bool} {e:Env} {H:Hp} (h0:Region.ready .any ops listed=[]) (h:k .nor e H=some res):AnyR C ops k res listed e H
 | step {listed:Array Bool} {e:Env} {H:Hp} (f:Nat→IV×Hp) (h0:Region.ready .any ops listed≠[])
   (h1:∀ i o,i ∈ Region.ready .any ops listed→ops[i]? = some o→valO C ops o e H=some (f i))
   (h2:∀ i o,i ∈ Region.ready .any ops listed→ops[i]? = some o→AnyR C ops k res (listed.setIfInBounds i true) (put e o.dst (f i).1) (f i).2):AnyR C ops k res listed e H
open Classical in
noncomputable def anyK {ρ:Type} (C:Ctx) (ops:Array Oper) (e:Env) (H:Hp) (k:Ex→Env→Hp→Option ρ):Option ρ:=
 if h:edgesOK ops.toList.zipIdx (bsOf ops)=true∧∃ res,AnyR C ops k res (Array.replicate ops.size false) e H then some h.2.choose else none
noncomputable def sqK {ρ:Type} (C:Ctx) (ops:Array Oper) (e:Env) (H:Hp) (k:Ex→Env→Hp→Option ρ):Option ρ:=
 match sqE C ops e H with
 | some r=>k .nor r.1 r.2
 | none=>anyK C ops e H k
def keepL (l:List Nat) (e:Env):Env:=go l 0 e
where
 go (l:List Nat):Nat→Env→Env
  | _,[]=>[]
  | i,v::e=>(if l.contains i then v else .un)::go l (i+1) e
def rounds {σ τ:Type} (step:σ→Option (σ ⊕ τ)):Nat→σ→Option τ
 | 0,_=>none
 | n+1,s=>
  match step s with
  | none=>none
  | some (.inl s)=>rounds step n s
  | some (.inr r)=>some r
omit [Globs] in
theorem rounds_mono {σ τ:Type} {step:σ→Option (σ ⊕ τ)}:∀ (n:Nat) (s:σ) (r:τ),rounds step n s=some r→rounds step (n+1) s=some r:=by
 intro n
 induction n with
 | zero=>intro s r h;simp [rounds] at h
 | succ n ih=>
  intro s r h
  rw [rounds] at h ⊢
  cases hs:step s with
  | none=>simp [hs] at h
  | some x=>
   cases x with
   | inl s'=>simp only [hs] at h ⊢;exact ih _ _ h
   | inr y=>simp only [hs] at h ⊢;exact h
omit [Globs] in
theorem rounds_le {σ τ:Type} {step:σ→Option (σ ⊕ τ)} {n m:Nat} (hnm:n≤m) (s:σ) (r:τ) (h:rounds step n s=some r):rounds step m s=some r:=by
 induction hnm with
 | refl=>exact h
 | step _ ih=>exact rounds_mono _ _ _ ih
open Classical in
noncomputable def loopW {σ τ:Type} (step:σ→Option (σ ⊕ τ)) (s:σ):Option τ:=
 if h:∃ n r,rounds step n s=some r then some h.choose_spec.choose else none
theorem loopW_some {σ τ:Type} {step:σ→Option (σ ⊕ τ)} {s:σ} {r:τ}:loopW step s=some r↔∃ n,rounds step n s=some r:=by
 unfold loopW
 constructor
 ·intro h
  split at h
  ·rename_i hx
   have h2:=hx.choose_spec.choose_spec
   exact⟨hx.choose,by rw [h2];exact h⟩
  ·cases h
 ·rintro⟨n,hn⟩
  have hx:∃ n r,rounds step n s=some r:=⟨n,r,hn⟩
  rw [dif_pos hx]
  have h2:=hx.choose_spec.choose_spec
  have h3:=rounds_le (Nat.le_max_left hx.choose n) _ _ h2
  have h4:=rounds_le (Nat.le_max_right hx.choose n) _ _ hn
  rw [h3] at h4;exact h4
theorem loopW_eq {σ τ:Type} (step:σ→Option (σ ⊕ τ)) (s:σ) :
  loopW step s=(step s).bind λx=>match x with | .inl s=>loopW step s | .inr r=>some r:=by
 apply Option.ext
 intro r
 rw [loopW_some]
 constructor
 ·rintro⟨n,hn⟩
  cases n with
  | zero=>simp [rounds] at hn
  | succ n=>
   rw [rounds] at hn
   cases hs:step s with
   | none=>simp [hs] at hn
   | some x=>
    cases x with
    | inl s'=>simp only [hs] at hn;simp only [Option.bind_some];exact loopW_some.2 ⟨n,hn⟩
    | inr y=>simp only [hs] at hn;simpa using hn
 ·intro h
  cases hs:step s with
  | none=>simp [hs] at h
  | some x=>
   cases x with
   | inl s'=>
    simp only [hs,Option.bind_some] at h
    obtain⟨n,hn⟩:=loopW_some.1 h
    exact⟨n+1,by rw [rounds];simp only [hs];exact hn⟩
   | inr y=>simp only [hs,Option.bind_some] at h;exact⟨1,by rw [rounds];simp only [hs];exact h⟩
noncomputable def exK (C:Ctx) (l:List Nat):Code → {ρ:Type}→Env→Hp→(Ex→Env→Hp→Option ρ)→Option ρ
 | .skip,_,e,H,k=>k .nor e H
 | .region _ ops draw,_,e,H,k=>
  if draw=true then (if drawOK C ops=true then opsK C (some (lastOK ops)) ops ops.toList e H k else sqK C ops e H k) else opsK C none ops ops.toList e H k
 | .seq a b,_,e,H,k=>exK C l a e H λx e H=>match x with
   | .nor=>exK C l b e H k
   | x=>k x e H
 | .cond c a b,_,e,H,k=>br (ev e c) (exK C l a e H k) (exK C l b e H k)
 | .block id b,_,e,H,k=>exK C l b e H λx e H=>match x with
   | .exi i=>if i=id then k .nor e H else k (.exi i) e H
   | x=>k x e H
 | .loop b,_,e,H,k=>
  (loopW (σ:=Env×Hp) (λs=>exK C l b s.1 s.2 λx e H=>match x with
   | .nor=>some (Sum.inl (keepL l e,H))
   | x=>some (Sum.inr (x,keepL l e,H))) (keepL l e,H)).bind λr=>k r.1 r.2.1 r.2.2
 | .scope b,_,e,H,k=>exK C l b e H k
 | .label _,_,e,H,k=>k .nor e H
 | .exit id,_,e,H,k=>k (.exi id) e H
 | .ret,_,e,H,k=>k .ret e H
 | _,_,_,_,_=>none
def resV (P:Program) (e:Env) (H:Hp):List ResultVar→Option (List IV)
 | []=>some []
 | .tmp t::rs=>(resV P e H rs).map λl=>e.getD t .un::l
 | .cell a t::rs=>(iLoad P t (e.getD a .un) H).bind λv=>(resV P e H rs).map λl=>v::l
def endK (P:Program) (fn:Func) (m:Md) (H0:Hp) (ro:Nat):Ex→Env→Hp→Res
 | .nor,e,H | .ret,e,H=>(resV P e H fn.results.toList).bind λvs=>fin m H0 ro vs H
 | .pan v,_,H=>finP m H0 ro v H
 | .exi _,_,_=>none
def limOf (m:Md) (lim:Nat) (H:Hp):Nat:=match m with | .keep=>lim | _=>H.length
def roOf (m:Md) (ro:Nat) (H:Hp):Nat:=match m with | .pure=>H.length | _=>ro
noncomputable def bodyK (P:Program) (T:Tab) (call:Oracle) (lim ro f:Nat) (args:List IV) (H:Hp):Res:=
 match P.funcs[f]? with
 | some fn=>match fn.body with
  | some c=>exK ⟨P,T,call,limOf (T.mode f) lim H,roOf (T.mode f) ro H⟩ (T.live f) c (args++List.replicate (fn.ntmps - args.length) .un) H
    (endK P fn (T.mode f) H (roOf (T.mode f) ro H))
  | none=>none
 | none=>none
end Go.Tg
