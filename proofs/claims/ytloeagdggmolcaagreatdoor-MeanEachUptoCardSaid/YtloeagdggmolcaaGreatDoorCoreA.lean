/- The abstract machine and its operations. -/
import Derived.Recover
import Derived.Orders
import Derived.KernelRfl
import Derived.Laws.Sem
import Derived.Laws.AppendOwn
import Derived.Laws.CopyRow
import Derived.Laws.Rows
import Derived.Laws.Small
import Derived.Laws.Entries
import Derived.Laws.StructEq
import Derived.ChangeKeysEq
set_option linter.unusedVariables false
set_option linter.unusedSimpArgs false
set_option linter.unusedVariables false
namespace Go.Am
inductive V where
 | undef
 | bool (b:Bool)
 | int (k:IntKind) (n:Int)
 | str (s:ByteArray)
 | nilp | nils | nilm | nilf | nili
 | ref (b off gen:Nat)
 | pv (cs:List V)
 | sl (b off len gen sz:Nat) (ex:Bool)
 | sv (es:List (List V)) (ex:Bool)
 | map (b:Nat)
 | func (f:Fn) (fi ca:List V)
 | iface (t:Nat) (v:V)
 | agg (cs:List V)
 | tup (vs:List V)
 | vs (cs:List V) (n sz:Nat)
 | yf (b:Nat)
 deriving Inhabited
inductive Obj where
 | cells (n sz:Nat) (cs:List V)
 | map (es:List (V×V))
 | loop (y:Nat) (fi:List V) (st:LoopState) (pd:Option (Option Nat))
 | gone
abbrev Heap:=List Obj
mutual
def pureV:V→Bool
 | .ref .. | .sl .. | .map _ | .vs .. | .yf _=>false
 | .func _ fi ca=>pureL fi&&pureL ca
 | .iface _ v=>pureV v
 | .agg cs | .tup cs=>pureL cs
 | _=>true
def pureL:List V→Bool
 | []=>true
 | v :: vs=>pureV v&&pureL vs
end
mutual
def plainV:V→Bool
 | .bool _ | .int .. | .str _ | .nilp | .nils | .nilm | .nilf | .nili=>true
 | .iface _ v=>plainV v
 | .agg cs | .tup cs=>plainL cs
 | _=>false
def plainL:List V→Bool
 | []=>true
 | v :: vs=>plainV v&&plainL vs
end
def isCell:V→Bool
 | .agg _ | .tup _ | .undef=>false
 | _=>true
def cellsV:V→List V
 | .agg cs=>cs
 | v=>[v]
def isAggV:V→Bool
 | .agg _=>true
 | _=>false
def mkV (ag:Bool) (cs:List V):Option V :=
 if ag then some (.agg cs) else match cs with
  | [v]=>some v
  | _=>none
def splice (cs:List V) (off:Nat) (xs:List V):List V:=cs.take off++xs++cs.drop (off+xs.length)
inductive Opd where
 | s (i:Nat)
 | r (i:Nat)
 | c (v:V)
 | g (n:Nat)
inductive NK where
 | ptr | slice | map | func | iface
 deriving DecidableEq
inductive LK where
 | int | bool | str | ptr
 deriving DecidableEq
inductive POp where
 | mov (x:Opd)
 | pick (c a b:Opd)
 | part (x:Opd) (off size:Nat) (ag:Bool)
 | fadr (x:Opd) (off:Nat)
 | iadr (x i:Opd) (sz:Nat)
 | iadrA (x i:Opd) (n sz:Nat)
 | index (x i:Opd)
 | slc (x:Opd) (lo hi mx:Option Opd) (str:Bool) (sz:Nat)
 | bin (op:BinOp) (x y:Opd)
 | eqb (neg:Bool) (x y:Opd)
 | eqn (neg:Bool) (k:NK) (x y:Opd)
 | eqa (neg:Bool) (n:Nat) (x y:Opd)
 | not (x:Opd)
 | neg (x:Opd)
 | cpl (x:Opd)
 | conv (k:IntKind) (x:Opd)
 | nchk (x:Opd)
 | build (zero:List V) (parts:List (Nat×Nat×Opd))
 | bsl (len sz:Nat) (zero:List V) (parts:List (Nat×Opd))
 | mkf (fn:Fn) (fi ca:List Opd)
 | mki (t:Nat) (x:Opd)
 | tas (x:Opd) (t:Nat) (ok:Bool) (zero:V)
 | ext (x:Opd) (i:Nat)
 | lenS (str:Bool) (x:Opd)
 | maxI (x y:Opd)
 | minI (x y:Opd)
 | s2b (x:Opd)
 | mkz (n c:Opd) (sz bytes:Nat) (zero:List V)
 | ldp (a:Opd) (size:Nat) (ag:Bool)
 | bsv (len sz:Nat) (zero:List V) (parts:List (Nat×Opd))
 | eqs (neg:Bool) (ks:List LK) (x y:Opd)
inductive LOp where
 | load (a:Opd) (size:Nat) (ag:Bool)
 | b2s (x:Opd)
 | borrow (f:Opd) (args:List Opd)
 | ro (f:Opd) (args:List Opd)
 | look (st:Bool) (ks:List LK) (m k:Opd) (ok:Bool) (zero:V)
 | eqp (neg:Bool) (x y:Opd)
inductive EOp where
 | hnew (x:Opd)
 | own (sz:Nat)
 | store (a x:Opd) (size:Nat)
 | app (x y:Opd) (sz bytes:Nat) (fz:Bool)
 | frz (x:Opd)
 | mks (n c:Opd) (sz bytes:Nat) (zero:List V)
 | bslO (len sz:Nat) (zero:List V) (parts:List (Nat×Opd))
 | s2s (x:Opd) (fz:Bool)
 | call (f:Opd) (args:List Opd) (fz:Bool)
 | mkm
 | mset (st:Bool) (ks:List LK) (m k v:Opd)
 | ment (st:Bool) (ks:List LK) (m k:Opd) (zero:V)
 | mest (m i v:Opd)
 | inv (x:Opd) (tbl:List (Nat×Nat)) (args:List Opd) (fz:Bool)
 | cpy (x y:Opd) (sz:Nat)
 | hat (x:Opd)
 | mtv (t:Nat) (nm:String) (fn x:Opd) (tbl:List (Nat×Nat)) (args:List Opd) (fz:Bool)
 | hmk (k:Nat) (n c:Opd) (sz bytes:Nat) (zero:List V)
inductive AOp where
 | p (o:POp)
 | pc (f:Opd) (args:List Opd)
 | l (o:LOp)
 | e (o:EOp)
 | np (x:Opd)
 | pa (s:Nat) (b:Option Nat) (k:Nat) (ix:Option (Opd×Nat×Nat))
 | pl (s:Nat) (b:Option Nat) (size:Nat) (ag:Bool)
 | pu (s:Nat) (b:Option Nat) (size:Nat) (x:Opd)
 | pan (x:Opd)
 | dfr (f:Opd) (args:List Opd)
 | rcv
 | lz (o:LOp) (lo hi:Nat)
 | no
inductive Dst where
 | no | loc | slot (s:Nat)
structure AOper where
 dst:Dst
 op:AOp
 guard:Option (Nat×Bool):=none
inductive ACode where
 | skip
 | reg (draw:Bool) (fl:Option (Nat×Nat)) (pok:List Nat) (ops:List AOper)
 | seq (a b:ACode)
 | ite (t:Nat) (a b:ACode)
 | block (id:Nat) (a:ACode)
 | loop (a:ACode)
 | exit (id:Nat)
 | ret
 | scope (a:ACode)
 | its (s:Nat) (a b:ACode)   -- a test of a slot
 | range (f:Opd) (y:Nat) (cap:List Nat) (path:List Bool)   -- a range over a function: its round, the slots that it takes over
 | no   -- code that no run comes to
 | pre (sz:Nat) (a:ACode)   -- no step of the program: a place for an object
 | brt (fl:Option (Nat×Nat)) (deps:List (List Nat)) (ops:List AOper)   -- a region of any order: all orders are run
 | frz (s:Nat) (a:ACode)   -- no step of the program: the slice of a slot is written by nobody from here on
inductive ARes where
 | slot (s:Nat)
 | cell (s:Nat) (size:Nat) (ag:Bool)   -- a heap variable
 | prom (s:Nat) (size:Nat) (ag:Bool)   -- a promoted one
structure AFunc where
 slots:List Nat        -- the temporary of each slot
 prom:List Bool        -- is it a variable of its own?
 nparams:Nat
 body:ACode
 results:List ARes
 ins:List Nat:=[]   -- of a round: the temporaries of what it is given
 asg:ACode:=.skip   -- of a round: the assignment ahead of its body
def ev (gl:Nat→List V) (env slots:List V):Opd→V
 | .s i=>slots.getD i .undef
 | .r i=>env.getD i .undef
 | .c v=>v
 | .g n => .pv (gl n)
def intBin (op:BinOp) (k:IntKind) (a b:Int):Option V :=
 match op with
 | .add=>some (.int k (k.wrap (a+b)))
 | .sub=>some (.int k (k.wrap (a - b)))
 | .mul=>some (.int k (k.wrap (a * b)))
 | .quo=>if b=0 then none else some (.int k (k.wrap (a.tdiv b)))
 | .rem=>if b=0 then none else some (.int k (a.tmod b))
 | .and=>some (.int k (k.wrap (BitVec.ofInt k.bits a &&& BitVec.ofInt k.bits b).toNat))
 | .or=>some (.int k (k.wrap (BitVec.ofInt k.bits a ||| BitVec.ofInt k.bits b).toNat))
 | .xor=>some (.int k (k.wrap (BitVec.ofInt k.bits a ^^^ BitVec.ofInt k.bits b).toNat))
 | .andNot=>some (.int k (k.wrap (BitVec.ofInt k.bits a &&& ~~~ BitVec.ofInt k.bits b).toNat))
 | .eql=>some (.bool (a == b))
 | .neq=>some (.bool (a != b))
 | .lss=>some (.bool (a<b))
 | .leq=>some (.bool (a≤b))
 | .gtr=>some (.bool (a > b))
 | .geq=>some (.bool (a ≥ b))
 | _=>none
def shiftV (op:BinOp) (k:IntKind) (a b:Int):Option V :=
 if b<0 then none else
 match op with
 | .shl=>some (.int k (k.wrap (a * 2 ^ (min b.toNat k.bits))))
 | .shr=>some (.int k (a.fdiv (2 ^ (min b.toNat k.bits))))
 | _=>none
def strBin (op:BinOp) (a b:ByteArray):Option V :=
 match op with
 | .eql=>some (.bool (a.toList == b.toList))
 | .neq=>some (.bool !(a.toList == b.toList))
 | _=>none
def isNilV:NK→V→Option Bool
 | .ptr,.nilp=>some true
 | .ptr,.ref .. | .ptr,.pv _=>some false
 | .slice,.nils=>some true
 | .map,.nilm=>some true
 | .map,.map _=>some false
 | .func,.nilf=>some true
 | .func,.func .. => some false
 | .iface,.nili=>some true
 | .iface,.iface .. => some false
 | _,_=>none
def binV (op:BinOp) (x y:V):Option V :=
 match x,y with
 | .int k a,.int k' b=>match op with
  | .shl | .shr=>shiftV op k a b
  | _=>if k=k' then intBin op k a b else none
 | .str a,.str b=>strBin op a b
 | _,_=>none
def sameInts:List V→List V→Option Bool
 | [],[]=>some true
 | .int k a :: xs,.int k' b :: ys=>if k=k' then (if a == b then sameInts xs ys else some false) else none
 | _,_=>none
def partV (x:V) (off size:Nat) (ag:Bool):Option V :=
 match x with
 | .agg cs=>if off+size≤cs.length then mkV ag ((cs.drop off).take size) else none
 | _=>none
def fill (cells:List V):List (Nat×Nat×V)→Option (List V)
 | []=>some cells
 | (off,size,v) :: rest=>if (cellsV v).length=size∧off+size≤cells.length∧(cellsV v).all isCell then fill (splice cells off (cellsV v)) rest else none
def chunks (sz:Nat):Nat→List V→List (List V)
 | 0,_=>[]
 | n+1,l=>l.take sz :: chunks sz n (l.drop sz)
def optInt:Option V→Option (Option Int)
 | none=>some none
 | some (.int _ n)=>some (some n)
 | _=>none
def bnds (len:Nat) (lo hi mx:Option V):Option (Nat×Nat×Bool) :=
 match optInt lo,optInt hi,optInt mx with
 | some l,some h,some m =>
  let h':=h.getD len
  let l':=l.getD 0
  if 0≤l'∧l'≤h'∧h'≤len∧(m=none∨(m=h∧h≠none)) then some (l'.toNat,h'.toNat,m.isSome) else none
 | _,_,_=>none
def headSz (sz:Nat) (es:List (List V)):Bool :=
 match es.head? with
 | some e=>e.length == sz
 | none=>true
def slcV (x:V) (lo hi mx:Option V) (str:Bool) (sz:Nat):Option V :=
 match x with
 | .str s=>match bnds s.size lo hi mx with
  | some (l,h,false)=>if str then some (.str (s.extract l h)) else none
  | _=>none
 | .sv es ex=>match bnds es.length lo hi mx with
  | some (l,h,m)=>if !str&&headSz sz es then some (.sv ((es.take h).drop l) (m||(ex&&h == es.length))) else none
  | none=>none
 | .nils=>match bnds 0 lo hi mx with
  | some _=>if str then none else some .nils
  | none=>none
 | .sl b off len gen sz' ex=>match bnds len lo hi mx with
  | some (l,h,m)=>if !str&&sz' == sz then some (.sl b (off+l) (h - l) gen sz' (m||(ex&&h == len))) else none
  | none=>none
 | _=>none
def s2bV (s:ByteArray):V:=.sv (s.data.toList.map fun b=>[.int .u8 b.toNat]) false
def room:Nat:=2 ^ 47
def liveAt (h:Heap) (b o gen:Nat):Bool :=
 match h[b]? with
 | some (.cells n sz _)=>n == gen&&sz != 1&&decide (o<n * sz)
 | _=>false
def samePtr (h:Heap) (x y:V):Option Bool :=
 match x,y with
 | .ref b o g,.ref b' o' g'=>if liveAt h b o g&&liveAt h b' o' g' then some (b == b'&&o == o') else none
 | .nilp,.nilp=>some true
 | .nilp,.ref .. | .ref ..,.nilp=>some false
 | _,_=>none
def sameLK (h:Heap) (l:LK) (x y:V):Option Bool :=
 match l with
 | .int=>match x,y with
  | .int k a,.int k' b=>if k=k' then some (a == b) else none
  | _,_=>none
 | .bool=>match x,y with
  | .bool a,.bool b=>some (a == b)
  | _,_=>none
 | .str=>match x,y with
  | .str a,.str b=>some (a.toList == b.toList)
  | _,_=>none
 | .ptr=>samePtr h x y
def sameKs (h:Heap):List LK→List V→List V→Option Bool
 | [],[],[]=>some true
 | k :: ks,x :: xs,y :: ys=>match sameLK h k x y with
  | some true=>sameKs h ks xs ys
  | some false=>some false
  | none=>none
 | _,_,_=>none
def sameKey (h:Heap) (st:Bool) (ks:List LK) (x y:V):Option Bool :=
 if st then match x,y with
  | .agg xs,.agg ys=>sameKs h ks xs ys
  | _,_=>none
 else match ks with
  | [k]=>sameLK h k x y
  | _=>none
def popV (f:Opd→V):POp→Option V
 | .mov x=>some (f x)
 | .pick c a b=>match f c with
  | .bool t=>some (if t then f a else f b)
  | _=>none
 | .part x off size ag=>partV (f x) off size ag
 | .fadr x off=>match f x with
  | .ref b o gen=>some (.ref b (o+off) gen)
  | .pv cs=>if off≤cs.length then some (.pv (cs.drop off)) else none
  | _=>none
 | .iadr x i sz=>match f x,f i with
  | .sv es _,.int _ n=>if 0≤n then match es[n.toNat]? with
    | some e=>if e.length=sz then some (.pv e) else none
    | none=>none
   else none
  | .sl b off len gen sz' _,.int _ n=>if 0≤n∧n<len∧sz'=sz then some (.ref b ((off+n.toNat) * sz) gen) else none
  | _,_=>none
 | .iadrA x i n sz=>match f x,f i with
  | .ref b o gen,.int _ m=>if 0≤m∧m<n∧1<n then some (.ref b (o+m.toNat * sz) gen) else none
  | .pv cs,.int _ m=>if 0≤m∧m<n∧1<n∧m.toNat * sz≤cs.length then some (.pv (cs.drop (m.toNat * sz))) else none
  | _,_=>none
 | .index x i=>match f x,f i with
  | .str s,.int _ n=>if 0≤n then match s[n.toNat]? with
    | some b=>some (.int .u8 b.toNat)
    | none=>none
   else none
  | _,_=>none
 | .slc x lo hi mx str sz=>slcV (f x) (lo.map f) (hi.map f) (mx.map f) str sz
 | .bin op x y=>binV op (f x) (f y)
 | .eqb neg x y=>match f x,f y with
  | .bool a,.bool b=>some (.bool ((a == b) != neg))
  | _,_=>none
 | .eqn neg k x y=>match isNilV k (f x),isNilV k (f y) with
  | some true,some t=>some (.bool (t != neg))
  | some t,some true=>some (.bool (t != neg))
  | _,_=>none
 | .eqa neg n x y=>match f x,f y with
  | .agg a,.agg b=>if a.length=n∧b.length=n then (sameInts a b).map fun t => .bool (t != neg) else none
  | _,_=>none
 | .not x=>match f x with
  | .bool b=>some (.bool !b)
  | _=>none
 | .neg x=>match f x with
  | .int k n=>some (.int k (k.wrap (0 - n)))
  | _=>none
 | .cpl x=>match f x with
  | .int k n=>intBin .xor k (if k.signed then -1 else k.max) n
  | _=>none
 | .conv k x=>match f x with
  | .int _ n=>some (.int k (k.wrap n))
  | _=>none
 | .nchk x=>match f x with
  | .ref b o gen=>some (.ref b o gen)
  | .pv cs=>some (.pv cs)
  | .iface t v=>some (.iface t v)
  | .func (.func n) fi ca=>some (.func (.func n) fi ca)
  | _=>none
 | .build zero parts=>(fill zero (parts.map fun (o,n,x)=>(o,n,f x))).map .agg
 | .bsl len sz zero parts =>
  match fill ((List.replicate len zero).flatten) (parts.map fun (i,x)=>(i * sz,sz,f x)) with
  | some cs=>if pureL cs&&cs.all isCell then some (.sv (chunks sz len cs) true) else none
  | none=>none
 | .mkf fn fi ca=>some (.func fn (fi.map f) (ca.map f))
 | .mki t x=>some (.iface t (f x))
 | .tas x t ok zero=>match f x with
  | .nili=>if ok then some (.tup [zero,.bool false]) else none
  | .iface u v=>if u=t then some (if ok then .tup [v,.bool true] else v) else if ok then some (.tup [zero,.bool false]) else none
  | _=>none
 | .ext x i=>match f x with
  | .tup vs=>vs[i]?
  | _=>none
 | .lenS str x=>match f x with
  | .str s=>if str then some (.int .i64 s.size) else none
  | .nils=>if str then none else some (.int .i64 0)
  | .sv es _=>if str then none else some (.int .i64 es.length)
  | .sl _ _ len _ _ _=>if str then none else some (.int .i64 len)
  | _=>none
 | .maxI x y=>match f x,f y with
  | .int .i64 a,.int .i64 b=>some (.int .i64 (if a<b then b else a))
  | _,_=>none
 | .minI x y=>match f x,f y with
  | .int .i64 a,.int .i64 b=>some (.int .i64 (if b<a then b else a))
  | _,_=>none
 | .s2b x=>match f x with
  | .str s=>some (s2bV s)
  | _=>none
 | .ldp a size ag=>match f a with
  | .pv cs=>if size≤cs.length then mkV ag (cs.take size) else none
  | _=>none
 | .bsv len sz zero parts =>
  match fill ((List.replicate len zero).flatten) (parts.map fun (i,x)=>(i * sz,sz,f x)) with
  | some cs=>if cs.all isCell&&decide (0<len * sz) then some (.vs cs len sz) else none
  | none=>none
 | .eqs neg ks x y=>match f x,f y with
  | .agg a,.agg b=>(sameKs [] ks a b).map fun t => .bool (t != neg)
  | _,_=>none
 | .mkz n c sz bytes zero=>match f n,f c with
  | .int _ l,.int _ m=>if 0≤l∧l=m∧l * bytes≤room∧l≤9223372036854775807∧zero.length=sz∧pureL zero then some (.sv (List.replicate l.toNat zero) true) else none
  | _,_=>none
def objCells (h:Heap) (b:Nat):Option (Nat×Nat×List V) :=
 match h[b]? with
 | some (.cells n sz cs)=>some (n,sz,cs)
 | _=>none
def sliceCells (h:Heap):V→Option (List V)
 | .nils=>some []
 | .sv es _=>some es.flatten
 | .sl b off len gen sz' _=>match objCells h b with
  | some (n,sz,cs)=>if gen=n∧off+len≤n∧sz'=sz then some ((cs.drop (off * sz)).take (len * sz)) else none
  | none=>none
 | .str s=>some (s.data.toList.map fun b => .int .u8 b.toNat)
 | .vs cs _ _=>some cs
 | _=>none
def sliceLen:V→Option Nat
 | .nils=>some 0
 | .sv es _=>some es.length
 | .sl _ _ len _ _ _=>some len
 | .str s=>some s.size
 | .vs _ n _=>some n
 | _=>none
def asBytes:List V→Option (List UInt8)
 | []=>some []
 | .int .u8 n :: rest=>(asBytes rest).map (UInt8.ofNat n.toNat :: ·)
 | _=>none
def loadV (h:Heap) (a:V) (size:Nat) (ag:Bool):Option V :=
 match a with
 | .pv cs=>if size≤cs.length then mkV ag (cs.take size) else none
 | .ref b off gen=>match objCells h b with
  | some (n,_,cs)=>if gen=n∧off+size≤cs.length then mkV ag ((cs.drop off).take size) else none
  | none=>none
 | _=>none
mutual
def viewV (lo:Nat) (h:Heap):V→Option V
 | .sl b off len gen sz' ex=>match objCells h b with
  | some (n,sz,cs) =>
   if lo≤b∧gen=n∧off+len≤n∧sz'=sz∧pureL cs then some (.sv (chunks sz len (cs.drop (off * sz))) ex) else none
  | none=>none
 | .ref .. | .map _ | .vs .. | .yf _=>none
 | .func fn fi ca=>if pureL fi&&pureL ca then some (.func fn fi ca) else none
 | .iface t v=>(viewV lo h v).map (.iface t ·)
 | .agg cs=>(viewL lo h cs).map .agg
 | .tup cs=>(viewL lo h cs).map .tup
 | v=>some v
def viewL (lo:Nat) (h:Heap):List V→Option (List V)
 | []=>some []
 | v :: vs=>match viewV lo h v,viewL lo h vs with
  | some v,some vs=>some (v :: vs)
  | _,_=>none
end
def viewS (lo:Nat) (h:Heap):V→Option V
 | .sl b off len gen sz' ex=>match objCells h b with
  | some (n,sz,cs)=>if lo≤b∧gen=n∧off+len≤n∧sz'=sz then (viewL lo h cs).map fun cs' => .sv (chunks sz len (cs'.drop (off * sz))) ex else none
  | none=>none
 | _=>none
def view1 (lo:Nat) (h:Heap) (v:V):Option V:=(viewV lo h v).or (viewS lo h v)
def viewWL (lo:Nat) (h:Heap):List V→Option (List V)
 | []=>some []
 | v :: vs=>match view1 lo h v,viewWL lo h vs with
  | some v,some vs=>some (v :: vs)
  | _,_=>none
def viewW (lo:Nat) (h:Heap):V→Option V
 | .tup cs=>(viewWL lo h cs).map .tup
 | v=>view1 lo h v
inductive R where
 | ret (v:V)
 | pan (v:V)
inductive Out where
 | norm
 | exit (id:Nat)
 | ret
 | pan (v:V)
structure Cfg where
 slots:List V
 dfs:List (V×List V):=[]
 flag:Option (Nat×V):=none
 pn:Option (Option V):=none
 h:Heap:=[]
structure Rec where
 call:Nat→List V→Heap→Option (R×Heap)
 dcall:Nat→List V→Option V→Heap→Option (Option V×Heap)
 loop:ACode→Cfg→Option (Out×Cfg)
 ro:Nat→List V→Heap→Option R   -- a function that reads alone
 round:Nat→Nat→List V→Heap→Option (Out×Heap)   -- a round of a range over a function
def callee (f:V) (args:List V):Option (Nat×List V) :=
 match f with
 | .func (.func n) fi ca=>some (n,fi++args++ca)
 | _=>none
inductive Ref where
 | val (v:V)
 | pan (v:V)
def pcall (rec:Rec) (f:V) (args:List V):Option Ref :=
 match callee f args with
 | some (n,as) =>
  if pureL as then match rec.call n as [] with
   | some (.ret v,h)=>(viewW 0 h v).map .val
   | some (.pan v,h)=>if pureV v then some (.pan v) else none
   | none=>none
  else none
 | none=>none
def bcall (rec:Rec) (h:Heap) (f:V) (args:List V):Option Ref :=
 match callee f args with
 | some (n,as)=>match viewL 0 h as with
  | some as'=>match rec.call n as' [] with
   | some (.ret v,_)=>if plainV v then some (.val v) else none
   | some (.pan v,_)=>if plainV v then some (.pan v) else none
   | none=>none
  | none=>none
 | none=>none
def findK (h:Heap) (st:Bool) (ks:List LK) (k:V):List (V×V)→Nat→Option (Option (Nat×V))
 | [],_=>some none
 | (k',v) :: es,i=>match sameKey h st ks k k' with
  | some true=>some (some (i,v))
  | some false=>findK h st ks k es (i+1)
  | none=>none
def keyShape (st:Bool) (ks:List LK) (k:V):Bool :=
 !st||(match k with
  | .agg cs=>cs.length == ks.length
  | _=>false)
def mapEs (h:Heap) (m:V):Option (Nat×List (V×V)) :=
 match m with
 | .map b=>match h[b]? with
  | some (.map es)=>some (b,es)
  | _=>none
 | _=>none
def finV (ok:Bool) (v:V) (t:Bool):V:=if ok then .tup [v,.bool t] else v
def lookV (h:Heap) (st:Bool) (ks:List LK) (m k:V) (ok:Bool) (zero:V):Option V :=
 match m with
 | .nilm=>if keyShape st ks k then some (finV ok zero false) else none
 | m=>match mapEs h m with
  | some (_,es)=>if !keyShape st ks k then none else match findK h st ks k es 0 with
   | some (some (_,v))=>some (finV ok v true)
   | some none=>some (finV ok zero false)
   | none=>none
  | none=>none
def okVal (v:V):Bool:=isCell v||(match v with | .agg cs=>cs.all isCell | _=>false)
def msetV (h:Heap) (st:Bool) (ks:List LK) (m k v:V):Option Heap :=
 match mapEs h m with
 | some (b,es)=>if keyShape st ks k&&okVal v then match findK h st ks k es 0 with
   | some (some (i,_))=>some (h.set b (.map (es.set i (k,v))))
   | some none=>some (h.set b (.map (es++[(k,v)])))
   | none=>none
  else none
 | none=>none
def mentV (h:Heap) (st:Bool) (ks:List LK) (m k zero:V):Option (V×Heap) :=
 match mapEs h m with
 | some (b,es)=>if keyShape st ks k&&okVal zero then match findK h st ks k es 0 with
   | some (some (i,v))=>some (.tup [v,.int .i64 i],h.set b (.map (es.set i (k,v))))
   | some none=>some (.tup [zero,.int .i64 es.length],h.set b (.map (es++[(k,zero)])))
   | none=>none
  else none
 | none=>none
def mestV (h:Heap) (m i v:V):Option Heap :=
 match mapEs h m,i with
 | some (b,es),.int _ n=>if 0≤n∧okVal v then match es[n.toNat]? with
   | some (k,_)=>some (h.set b (.map (es.set n.toNat (k,v))))
   | none=>none
  else none
 | _,_=>none
def rocall (rec:Rec) (h:Heap) (f:V) (args:List V):Option Ref :=
 match callee f args with
 | some (n,as)=>match rec.ro n as h with
  | some (.ret v)=>some (.val v)
  | some (.pan v)=>some (.pan v)
  | none=>none
 | none=>none
def lopV (rec:Rec) (h:Heap) (f:Opd→V):LOp→Option Ref
 | .load a size ag=>(loadV h (f a) size ag).map .val
 | .b2s x=>match sliceLen (f x),sliceCells h (f x) with
  | some k,some cs=>match f x with
   | .str _=>none
   | _=>if cs.length=k then (asBytes cs).map fun l => .val (.str ⟨l.toArray⟩) else none
  | _,_=>none
 | .borrow fn args=>bcall rec h (f fn) (args.map f)
 | .ro fn args=>rocall rec h (f fn) (args.map f)
 | .look st ks m k ok zero=>(lookV h st ks (f m) (f k) ok zero).map .val
 | .eqp neg x y=>(samePtr h (f x) (f y)).map fun t => .val (.bool (t != neg))
def lzV (h:Heap) (f:Opd→V):LOp→Option V
 | .load a size ag=>loadV h (f a) size ag
 | .look st ks m k ok zero=>lookV h st ks (f m) (f k) ok zero
 | _=>none
def storeV (h:Heap) (a x:V) (size:Nat):Option Heap :=
 match a with
 | .ref b off gen=>match objCells h b with
  | some (n,sz,cs) =>
   if gen=n∧off+size≤cs.length∧(cellsV x).length=size∧(cellsV x).all isCell then some (h.set b (.cells n sz (splice cs off (cellsV x)))) else none
  | none=>none
 | _=>none
def appV (h:Heap) (x y:V) (sz bytes:Nat):Option (V×Heap) :=
 match sliceLen y,sliceCells h y with
 | some k,some ys =>
  if ys.length=k * sz then
   match x with
   | .nils=>if k * bytes≤room then some (if k=0 then (.nils,h) else (.sl h.length 0 k k sz false,h++[.cells k sz ys])) else none
   | .sv es true=>if (es.length+k) * bytes≤room∧es.all (fun e=>e.length == sz) then
     some (if k=0 then (.sv es true,h) else (.sl h.length 0 (es.length+k) (es.length+k) sz false,h++[.cells (es.length+k) sz (es.flatten++ys)])) else none
   | .sl b off len gen sz'' ex=>match objCells h b with
    | some (n,sz',cs) =>
     if gen=n∧sz'=sz∧sz''=sz∧(len+k) * bytes≤room∧off+len≤n then
      if k=0 then some (.sl b off len gen sz ex,h)
      else if off=0∧len=n then some (.sl b 0 (n+k) (n+k) sz false,h.set b (.cells (n+k) sz (cs++ys)))
      else if ex then some (.sl h.length 0 (len+k) (len+k) sz false,h++[.cells (len+k) sz ((cs.drop (off * sz)).take (len * sz)++ys)])
      else none
     else none
    | none=>none
   | _=>none
  else none
 | _,_=>none
inductive ERef where
 | val (v:V) (h:Heap)
 | pan (v:V) (h:Heap)
mutual
def belowV (n:Nat):V→Bool
 | .ref b _ _ | .sl b _ _ _ _ _ | .map b | .yf b=>b<n
 | .func _ fi ca=>belowL n fi&&belowL n ca
 | .iface _ v=>belowV n v
 | .agg cs | .tup cs | .vs cs _ _=>belowL n cs
 | _=>true
def belowL (n:Nat):List V→Bool
 | []=>true
 | v :: vs=>belowV n v&&belowL n vs
end
def closedTo (n:Nat) (h:Heap):Bool :=
 (h.take n).all fun o=>match o with
  | .cells _ _ cs=>cs.all (belowV n)
  | .map es=>es.all fun (k,v)=>belowV n k&&belowV n v
  | .loop _ fi _ _=>fi.all (belowV n)
  | .gone=>true
def ecallF (rec:Rec) (h:Heap) (fz:Bool) (f:V) (args:List V):Option ERef :=
 match callee f args with
 | some (n,as)=>match rec.call n as h with
  | some (.ret v,h') =>
   if fz then (if h.length≤h'.length∧closedTo h.length h' then (viewW h.length h' v).map fun v => .val v (h'.take h.length) else none)
   else some (.val v h')
  | some (.pan v,h')=>some (.pan v h')
  | none=>none
 | none=>none
def ycall (rec:Rec) (h:Heap) (b:Nat) (args:List V):Option ERef :=
 match h[b]? with
 | some (.loop y fi .ready _)=>match rec.round y b (fi++args) h with
  | some (.pan v,h')=>some (.pan v h')
  | some (.norm,h')=>some (.val (.bool true) h')
  | some (_,h')=>some (.val (.bool false) h')
  | none=>none
 | _=>none
def ecall (rec:Rec) (h:Heap) (fz:Bool) (f:V) (args:List V):Option ERef :=
 match f with
 | .yf b=>if fz then none else ycall rec h b args
 | f=>ecallF rec h fz f args
def lookN:List (Nat×Nat)→Nat→Option Nat
 | [],_=>none
 | (a,b) :: l,t=>if a=t then some b else lookN l t
def methV (tbl:List (Nat×Nat)) (x:V):Option V :=
 match x with
 | .iface t v=>(lookN tbl t).map fun n => .func (.func n) [v] []
 | _=>none
def holeG (sz:Nat):Heap→Nat→Option Nat
 | [],_=>none
 | o :: h,i=>match holeG sz h (i+1) with
  | some j=>some j
  | none=>match o with
   | .cells 0 s []=>if s=sz then some i else none
   | _=>none
def copyV (h:Heap) (x y:V) (sz:Nat):Option (V×Heap) :=
 match sliceLen y,sliceCells h y with
 | some k,some ys=>if ys.length=k * sz then match x with
   | .nils=>if k=0 then some (.int .i64 0,h) else none
   | .sl b off len gen sz' ex=>if k=0 then some (.int .i64 0,h) else match objCells h b with
    | some (n,sz0,cs)=>if gen=n∧sz0=sz∧sz'=sz∧off+len≤n∧k≤len∧0<sz∧0<k then some (.int .i64 k,h.set b (.cells n sz (splice cs (off * sz) ys))) else none
    | none=>none
   | _=>none
  else none
 | _,_=>none
def frzV (h:Heap) (v:V):Option (V×Heap) :=
 match v with
 | .sl b off len gen sz ex=>match viewV 0 h v with
  | some v'=>some (v',h.set b .gone)
  | none=>none
 | v=>if pureV v then some (v,h) else none
def frzL (h:Heap):List V→Option (List V×Heap)
 | []=>some ([],h)
 | v :: vs=>match frzV h v with
  | some (v',h1)=>(frzL h1 vs).map fun (vs',h2)=>(v' :: vs',h2)
  | none=>none
def frzA (h:Heap):V→Option (V×Heap)
 | .agg cs=>(frzL h cs).map fun (cs',h')=>(.agg cs',h')
 | v=>frzV h v
def eopV (rec:Rec) (h:Heap) (f:Opd→V):EOp→Option ERef
 | .hnew x=>if (cellsV (f x)).all isCell then some (.val (.ref h.length 0 1) (h++[.cells 1 (cellsV (f x)).length (cellsV (f x))])) else none
 | .own sz=>some (.val (.sl h.length 0 0 0 sz false) (h++[.cells 0 sz []]))
 | .store a x size=>(storeV h (f a) (f x) size).map fun h => .val .undef h
 | .app x y sz bytes fz=>match appV h (f x) (f y) sz bytes with
  | some (v,h')=>if fz then (frzV h' v).map fun (v,h) => .val v h else some (.val v h')
  | none=>none
 | .frz x=>(frzV h (f x)).map fun (v,h) => .val v h
 | .mks n c sz bytes zero=>match f n,f c with
  | .int _ l,.int _ m=>if 0≤l∧l≤m∧m * bytes≤room∧m≤9223372036854775807∧zero.length=sz then
    some (.val (.sl h.length 0 l.toNat l.toNat sz false) (h++[.cells l.toNat sz (List.replicate l.toNat zero).flatten])) else none
  | _,_=>none
 | .bslO len sz zero parts =>
  match fill ((List.replicate len zero).flatten) (parts.map fun (i,x)=>(i * sz,sz,f x)) with
  | some cs=>if cs.all isCell then some (.val (.sl h.length 0 len len sz false) (h++[.cells len sz cs])) else none
  | none=>none
 | .s2s x fz=>match f x with
  | .sl b off len gen sz ex=>match objCells h b with
   | some (n,_,_)=>if gen=n∧0<len∧sz=1 then
     if fz then (frzV h (.sl b off len gen sz ex)).map fun (v,h) => .val v h else some (.val (.sl b off len gen sz ex) h)
    else none
   | none=>none
  | _=>none
 | .call fn args fz=>ecall rec h fz (f fn) (args.map f)
 | .mkm=>some (.val (.map h.length) (h++[.map []]))
 | .mset st ks m k v=>(msetV h st ks (f m) (f k) (f v)).map fun h => .val .undef h
 | .ment st ks m k zero=>(mentV h st ks (f m) (f k) zero).map fun (v,h) => .val v h
 | .mest m i v=>(mestV h (f m) (f i) (f v)).map fun h => .val .undef h
 | .inv x tbl args fz=>match methV tbl (f x) with
  | some fv=>ecallF rec h fz fv (args.map f)
  | none=>none
 | .mtv t nm fn x tbl args fz=>match f fn with
  | .func (.methodOf t' nm') [] []=>if t'=t∧nm'=nm then match methV tbl (f x) with
    | some fv=>ecallF rec h fz fv (args.map f)
    | none=>none
   else none
  | _=>none
 | .cpy x y sz=>(copyV h (f x) (f y) sz).map fun (v,h) => .val v h
 | .hat x=>if (cellsV (f x)).all isCell then match holeG (cellsV (f x)).length h 0 with
   | some b=>some (.val (.ref b 0 1) (h.set b (.cells 1 (cellsV (f x)).length (cellsV (f x)))))
   | none=>none
  else none
 | .hmk k n c sz bytes zero=>match f n,f c with
  | .int _ l,.int _ m=>if 0<l∧l=m∧m * bytes≤room∧m≤9223372036854775807∧zero.length=sz then
    match h[h.length - 1 - k]? with
    | some (.cells 0 s [])=>if s=sz then some (.val (.sl (h.length - 1 - k) 0 l.toNat l.toNat sz false) (h.set (h.length - 1 - k) (.cells l.toNat sz (List.replicate l.toNat zero).flatten))) else none
    | _=>none
   else none
  | _,_=>none
inductive SR where
 | ok (v:V) (wr:Option (Nat×V)) (df:Option (V×List V)) (pn:Option (Option V)) (hp:Option Heap)
 | pan (v:V) (hp:Option Heap)
def pOff (env:List V):Option Nat→Option Nat
 | none=>some 0
 | some j=>match env[j]? with
  | some (.int _ n)=>some n.toNat
  | _=>none
def putSlot (dst:Dst) (v:V):SR :=
 match dst with
 | .slot s => .ok .undef (some (s,v)) none none none
 | _ => .ok v none none none none
def ofRef (dst:Dst):Ref→SR
 | .val v=>putSlot dst v
 | .pan v => .pan v none
def ofERef (dst:Dst):ERef→SR
 | .val v h=>match dst with
  | .slot s => .ok .undef (some (s,v)) none none (some h)
  | _ => .ok v none none none (some h)
 | .pan v h => .pan v (some h)
def defd (slots:List V) (s:Nat):Bool :=
 match slots[s]? with
 | none | some .undef=>false
 | _=>true
def stepOp (rec:Rec) (gl:Nat→List V) (o:AOper) (env slots:List V) (pn:Option (Option V)) (h:Heap):Option SR :=
 let f:=ev gl env slots
 match o.op with
 | .p op=>(popV f op).map (putSlot o.dst)
 | .pc fn args=>(pcall rec (f fn) (args.map f)).map (ofRef o.dst)
 | .l op=>(lopV rec h f op).map (ofRef o.dst)
 | .e op=>(eopV rec h f op).map (ofERef o.dst)
 | .np x=>match o.dst with
  | .slot s=>if (cellsV (f x)).all isCell then some (.ok .undef (some (s,f x)) none none none) else none
  | _=>none
 | .pa s b k ix=>if defd slots s then match pOff env b with
  | some n=>match ix with
   | none=>some (.ok (.int .i64 (n+k:Nat)) none none none none)
   | some (i,m,sz)=>match f i with
    | .int _ j=>if 0≤j∧j<m∧1<m then some (.ok (.int .i64 (n+k+j.toNat * sz:Nat)) none none none none) else none
    | _=>none
  | none=>none
  else none
 | .pl s b size ag=>if defd slots s then match pOff env b with
  | some n=>if n+size≤(cellsV (slots.getD s .undef)).length then (mkV ag (((cellsV (slots.getD s .undef)).drop n).take size)).map (putSlot o.dst) else none
  | none=>none
  else none
 | .pu s b size x=>if defd slots s then match pOff env b with
  | some n =>
   let old:=slots.getD s .undef
   if n+size≤(cellsV old).length∧(cellsV (f x)).length=size∧(cellsV (f x)).all isCell∧(isAggV old||size == 1) then
    some (.ok .undef (some (s,match old with
     | .agg cs => .agg (splice cs n (cellsV (f x)))
     | _=>f x)) none none none)
   else none
  | none=>none
  else none
 | .pan x=>match f x with
  | .iface t v=>some (.pan (.iface t v) none)
  | _=>none
 | .dfr fn args=>match callee (f fn) (args.map f) with
  | some _=>some (.ok .undef none (some (f fn,args.map f)) none none)
  | none=>none
 | .rcv=>match pn with
  | some (some v)=>match putSlot o.dst v with
   | .ok v wr _ _ _=>some (.ok v wr none (some none) none)
   | r=>some r
  | some none=>some (putSlot o.dst .nili)
  | none=>none
 | .lz l _ _=>(lzV h f l).map (putSlot o.dst)
 | .no=>none
def wanted (env:List V):Option (Nat×Bool)→Option Bool
 | none=>some true
 | some (j,want)=>match env[j]? with
  | some (.bool b)=>some (b == want)
  | some (.tup _)=>some false
  | _=>none
inductive ROut where
 | norm (env:List V) (c:Cfg)
 | pan (j:Nat) (v:V) (c:Cfg)
def setSlot (slots:List V):Option (Nat×V)→List V
 | none=>slots
 | some (s,v)=>slots.set s v
def slotOf:Dst→Option Nat
 | .slot s=>some s
 | _=>none
def AOper.writes (o:AOper):Option Nat :=
 match o.op with
 | .pu s .. => some s
 | _=>slotOf o.dst
def pushD (df:Option (V×List V)) (dfs:List (V×List V)):List (V×List V) :=
 match df with
 | some d=>d :: dfs
 | none=>dfs
def runOps (rec:Rec) (gl:Nat→List V):List AOper→List V→Cfg→Option ROut
 | [],env,c=>some (.norm env c)
 | o :: os,env,c =>
  match wanted env o.guard with
  | some true=>match stepOp rec gl o env c.slots c.pn c.h with
   | some (.ok v wr df pn hp)=>runOps rec gl os (env++[v]) { c with slots:=setSlot c.slots wr,dfs:=pushD df c.dfs,pn:=pn.or c.pn,h:=hp.getD c.h }
   | some (.pan v hp)=>some (.pan env.length v { c with h:=hp.getD c.h })
   | none=>none
  | some false=>runOps rec gl os (env++[.tup []]) { c with slots:=setSlot c.slots ((slotOf o.dst).map (·,.tup [])) }
  | none=>none
def forget (ops:List AOper) (slots:List V):List V :=
 ops.foldl (fun sl o=>match o.writes with
  | some s=>sl.set s .undef
  | none=>sl) slots
mutual
def eqV:V→V→Bool
 | .undef,.undef | .nilp,.nilp | .nils,.nils | .nilm,.nilm | .nilf,.nilf | .nili,.nili=>true
 | .bool a,.bool b=>a == b
 | .int k a,.int k' b=>decide (k=k')&&a == b
 | .str a,.str b=>a.data.toList == b.data.toList
 | .ref b o g,.ref b' o' g'=>b == b'&&o == o'&&g == g'
 | .pv cs,.pv cs'=>eqL cs cs'
 | .sl b o l g z e,.sl b' o' l' g' z' e'=>b == b'&&o == o'&&l == l'&&g == g'&&z == z'&&e == e'
 | .sv es e,.sv es' e'=>eqLL es es'&&e == e'
 | .map b,.map b' | .yf b,.yf b'=>b == b'
 | .func (.func n) fi ca,.func (.func n') fi' ca'=>n == n'&&eqL fi fi'&&eqL ca ca'
 | .iface t v,.iface t' v'=>t == t'&&eqV v v'
 | .agg cs,.agg cs' | .tup cs,.tup cs'=>eqL cs cs'
 | .vs cs n z,.vs cs' n' z'=>eqL cs cs'&&n == n'&&z == z'
 | _,_=>false
def eqL:List V→List V→Bool
 | [],[]=>true
 | a :: as,b :: bs=>eqV a b&&eqL as bs
 | _,_=>false
def eqLL:List (List V)→List (List V)→Bool
 | [],[]=>true
 | a :: as,b :: bs=>eqL a b&&eqLL as bs
 | _,_=>false
end
def eqO:Option V→Option V→Bool
 | some a,some b=>eqV a b
 | _,_=>false
def traceOps (rec:Rec) (gl:Nat→List V):List AOper→List V→Cfg→Option (List (List V×Cfg))
 | [],env,c=>some [(env,c)]
 | o :: os,env,c =>
  match wanted env o.guard with
  | some true=>match stepOp rec gl o env c.slots c.pn c.h with
   | some (.ok v wr df pn hp)=>(traceOps rec gl os (env++[v]) { c with slots:=setSlot c.slots wr,dfs:=pushD df c.dfs,pn:=pn.or c.pn,h:=hp.getD c.h }).map ((env,c) :: ·)
   | some (.pan _ _)=>some [(env,c)]
   | none=>none
  | some false=>(traceOps rec gl os (env++[.tup []]) { c with slots:=setSlot c.slots ((slotOf o.dst).map (·,.tup [])) }).map ((env,c) :: ·)
  | none=>none
def anyLz:List AOper→Bool
 | []=>false
 | ⟨_,.lz ..,_⟩ :: _=>true
 | _ :: os=>anyLz os
def lzP (gl:Nat→List V) (hs:List Heap):List AOper→List (List V×Cfg)→Bool
 | o :: os,(env,c) :: t=>(match o.op with
   | .lz l lo hi=>(match wanted env o.guard with
    | some true=>((hs.drop lo).take (hi+1 - lo)).all fun h=>eqO (lzV h (ev gl env c.slots) l) (lzV c.h (ev gl env c.slots) l)
    | _=>true)
   | _=>true)&&lzP gl hs os t
 | _,_=>true
def lzOK (gl:Nat→List V) (ops:List AOper):Option (List (List V×Cfg))→Bool
 | some t=>lzP gl (t.map (·.2.h)) ops t
 | none=>false
def liveIn (pok:List Nat) (j i:Nat):Bool:=pok.contains (1000 * (j+1)+i)
def lzT (gl:Nat→List V) (hs:List Heap) (o:AOper) (env:List V) (c:Cfg):Bool :=
 match o.op with
 | .lz l lo hi=>(match wanted env o.guard with
  | some true=>((hs.drop lo).take (hi+1 - lo)).all fun h=>eqO (lzV h (ev gl env c.slots) l) (lzV c.h (ev gl env c.slots) l)
  | _=>true)
 | _=>true
def tailOps (rec:Rec) (gl:Nat→List V) (hs:List Heap) (live:Nat→Bool):List AOper→Nat→List V→Cfg→Option (List V×Cfg)
 | [],_,env,c=>some (env,c)
 | o :: os,i,env,c=>if live i then if !lzT gl hs o env c then none else (match wanted env o.guard with
   | some true=>match stepOp rec gl o env c.slots c.pn c.h with
    | some (.ok v wr df pn hp)=>tailOps rec gl hs live os (i+1) (env++[v]) { c with slots:=setSlot c.slots wr,dfs:=pushD df c.dfs,pn:=pn.or c.pn,h:=hp.getD c.h }
    | _=>none
   | some false=>tailOps rec gl hs live os (i+1) (env++[.tup []]) { c with slots:=setSlot c.slots ((slotOf o.dst).map (·,.tup [])) }
   | none=>none)
  else tailOps rec gl hs live os (i+1) (env++[.undef]) c
def anyLive (pok:List Nat) (j:Nat):Bool:=pok.any fun x=>decide (1000 * (j+1)≤x)&&decide (x<1000 * (j+2))
def tailAt (rec:Rec) (gl:Nat→List V) (pok:List Nat) (j:Nat) (ops:List AOper) (hs:List Heap):Option (List V×Cfg)→Bool
 | some (env,c)=>(tailOps rec gl hs (liveIn pok j) (ops.drop (j+1)) (j+1) (env++[.undef]) c).isSome
 | none=>false
def tailOK (rec:Rec) (gl:Nat→List V) (pok:List Nat) (j:Nat) (ops:List AOper):Option (List (List V×Cfg))→Bool
 | some t=>tailAt rec gl pok j ops (t.map (·.2.h)) t.getLast?
 | none=>false
def eqPs:List (V×V)→List (V×V)→Bool
 | [],[]=>true
 | (a,b) :: x,(c,d) :: y=>eqV a c&&eqV b d&&eqPs x y
 | _,_=>false
def eqObj:Obj→Obj→Bool
 | .cells n z cs,.cells n' z' cs'=>n == n'&&z == z'&&eqL cs cs'
 | .map es,.map es'=>eqPs es es'
 | .loop y fi st pd,.loop y' fi' st' pd'=>y == y'&&eqL fi fi'&&decide (st=st')&&decide (pd=pd')
 | .gone,.gone=>true
 | _,_=>false
def eqH:Heap→Heap→Bool
 | [],[]=>true
 | a :: x,b :: y=>eqObj a b&&eqH x y
 | _,_=>false
def eqDs:List (V×List V)→List (V×List V)→Bool
 | [],[]=>true
 | (a,as) :: x,(b,bs) :: y=>eqV a b&&eqL as bs&&eqDs x y
 | _,_=>false
def sameC (c d:Cfg):Bool:=eqL c.slots d.slots&&eqDs c.dfs d.dfs&&eqH c.h d.h
def allO (F:Nat→Option Unit):List Nat→Option Unit
 | []=>some ()
 | j :: js=>match F j with
  | some _=>allO F js
  | none=>none
def readyL (deps:List (List Nat)) (l:List Bool):List Nat:=(List.range l.length).filter fun j => !l.getD j false&&(deps.getD j []).all fun i=>l.getD i false
def brtO (rec:Rec) (gl:Nat→List V) (ops:List AOper) (deps:List (List Nat)) (envF:List V) (cF:Cfg):Nat→List Bool→List V→Cfg→Option Unit
 | 0,l,env,c=>match readyL deps l with
  | []=>if eqL env envF&&sameC c cF then some () else none
  | _ :: _=>none
 | fuel+1,l,env,c=>match readyL deps l with
  | []=>if eqL env envF&&sameC c cF then some () else none
  | j :: js=>allO (fun j=>match ops[j]? with
   | some o=>match wanted env o.guard with
    | some true=>match stepOp rec gl o env c.slots c.pn c.h with
     | some (.ok v wr df pn hp)=>brtO rec gl ops deps envF cF fuel (l.set j true) (env.set j v) { c with slots:=setSlot c.slots wr,dfs:=pushD df c.dfs,pn:=pn.or c.pn,h:=hp.getD c.h }
     | _=>none
    | some false=>brtO rec gl ops deps envF cF fuel (l.set j true) (env.set j (.tup [])) { c with slots:=setSlot c.slots ((slotOf o.dst).map (·,.tup [])) }
    | none=>none
   | none=>none) (j :: js)
def traceR (rec:Rec) (gl:Nat→List V):List AOper→List V→Cfg→Option (List (List V×Cfg)×ROut)
 | [],env,c=>some ([(env,c)],.norm env c)
 | o :: os,env,c =>
  match wanted env o.guard with
  | some true=>match stepOp rec gl o env c.slots c.pn c.h with
   | some (.ok v wr df pn hp)=>match traceR rec gl os (env++[v]) { c with slots:=setSlot c.slots wr,dfs:=pushD df c.dfs,pn:=pn.or c.pn,h:=hp.getD c.h } with
    | some (t,r)=>some ((env,c) :: t,r)
    | none=>none
   | some (.pan v hp)=>some ([(env,c)],.pan env.length v { c with h:=hp.getD c.h })
   | none=>none
  | some false=>match traceR rec gl os (env++[.tup []]) { c with slots:=setSlot c.slots ((slotOf o.dst).map (·,.tup [])) } with
   | some (t,r)=>some ((env,c) :: t,r)
   | none=>none
  | none=>none
def outA (rec:Rec) (gl:Nat→List V) (draw:Bool) (fl:Option (Nat×Nat)) (pok:List Nat) (ops:List AOper) (t:Option (List (List V×Cfg))):ROut→Option (Out×Cfg)
 | .norm env c'=>some (.norm,{ c' with flag:=fl.map fun (t,j)=>(t,env.getD j .undef) })
 | .pan j v c'=>if draw && !pok.contains j then none else
  if draw&&anyLive pok j && !tailOK rec gl pok j ops t then none else some (.pan v,{ c' with slots:=if draw then forget ops c'.slots else c'.slots,flag:=none })
def regA (rec:Rec) (gl:Nat→List V) (draw:Bool) (fl:Option (Nat×Nat)) (pok:List Nat) (ops:List AOper) (c:Cfg):Option (Out×Cfg) :=
 if draw&&c.pn.isSome then none else
 if draw&&(anyLz ops || !pok.all fun x=>decide (x<1000)) then match traceR rec gl ops [] c with
  | some (t,ro)=>if anyLz ops && !lzOK gl ops (some t) then none else outA rec gl draw fl pok ops (some t) ro
  | none=>none
 else match runOps rec gl ops [] c with
  | some ro=>outA rec gl draw fl pok ops none ro
  | none=>none
theorem traceR_eq (rec:Rec) (gl:Nat→List V):∀ (ops:List AOper) (env:List V) (c:Cfg),traceR rec gl ops env c=match runOps rec gl ops env c with
  | some ro=>match traceOps rec gl ops env c with
   | some t=>some (t,ro)
   | none=>none
  | none=>none
 | [],env,c=>rfl
 | o :: os,env,c=>by
  simp only [traceR,runOps,traceOps]
  cases wanted env o.guard with
  | none=>rfl
  | some b =>
   cases b with
   | false =>
    simp only
    rw [traceR_eq rec gl os]
    cases runOps rec gl os (env++[.tup []]) { c with slots:=setSlot c.slots ((slotOf o.dst).map (·,.tup [])) } with
    | none=>rfl
    | some ro =>
     simp only
     cases traceOps rec gl os (env++[.tup []]) { c with slots:=setSlot c.slots ((slotOf o.dst).map (·,.tup [])) } <;> rfl
   | true =>
    simp only
    cases stepOp rec gl o env c.slots c.pn c.h with
    | none=>rfl
    | some r =>
     cases r with
     | pan v hp=>rfl
     | ok v wr df pn hp =>
      simp only
      rw [traceR_eq rec gl os]
      cases runOps rec gl os (env++[v]) { c with slots:=setSlot c.slots wr,dfs:=pushD df c.dfs,pn:=pn.or c.pn,h:=hp.getD c.h } with
      | none=>rfl
      | some ro =>
       simp only
       cases traceOps rec gl os (env++[v]) { c with slots:=setSlot c.slots wr,dfs:=pushD df c.dfs,pn:=pn.or c.pn,h:=hp.getD c.h } <;> rfl
theorem trace_some (rec:Rec) (gl:Nat→List V):∀ (ops:List AOper) (env:List V) (c:Cfg) (ro:ROut),runOps rec gl ops env c=some ro→∃ t,traceOps rec gl ops env c=some t
 | [],env,c,ro,h=>⟨_,rfl⟩
 | o :: os,env,c,ro,h=>by
  simp only [runOps] at h
  simp only [traceOps]
  cases hw:wanted env o.guard with
  | none=>simp [hw] at h
  | some b =>
   cases b with
   | false =>
    simp only [hw] at h
    obtain ⟨t,ht⟩:=trace_some rec gl os _ _ ro h
    exact ⟨_,by simp only [ht]; rfl⟩
   | true =>
    simp only [hw] at h
    cases hs:stepOp rec gl o env c.slots c.pn c.h with
    | none=>simp [hs] at h
    | some r =>
     cases r with
     | pan v hp=>exact ⟨_,rfl⟩
     | ok v wr df pn hp =>
      simp only [hs] at h
      obtain ⟨t,ht⟩:=trace_some rec gl os _ _ ro h
      exact ⟨_,by simp only [ht]; rfl⟩
theorem regA_def (rec:Rec) (gl:Nat→List V) (draw:Bool) (fl:Option (Nat×Nat)) (pok:List Nat) (ops:List AOper) (c:Cfg):regA rec gl draw fl pok ops c =
  if draw&&c.pn.isSome then none else
  if (draw&&anyLz ops) && !lzOK gl ops (traceOps rec gl ops [] c) then none else
  match runOps rec gl ops [] c with
  | some (.norm env c')=>some (.norm,{ c' with flag:=fl.map fun (t,j)=>(t,env.getD j .undef) })
  | some (.pan j v c')=>if draw && !pok.contains j then none else
   if draw&&anyLive pok j && !tailOK rec gl pok j ops (traceOps rec gl ops [] c) then none else some (.pan v,{ c' with slots:=if draw then forget ops c'.slots else c'.slots,flag:=none })
  | none=>none:=by
 unfold regA
 cases draw with
 | false =>
  simp only [Bool.false_and,Bool.false_eq_true,if_false]
  cases runOps rec gl ops [] c with
  | none=>rfl
  | some ro=>cases ro <;> simp [outA]
 | true =>
  simp only [Bool.true_and]
  by_cases hp:c.pn.isSome=true
  ·rw [if_pos hp,if_pos hp]
  rw [if_neg hp,if_neg hp]
  by_cases hn:(anyLz ops || !pok.all fun x=>decide (x<1000))=true
  ·rw [if_pos hn,traceR_eq]
   cases hro:runOps rec gl ops [] c with
   | none=>simp
   | some ro =>
    obtain ⟨t,ht⟩:=trace_some rec gl ops [] c ro hro
    simp only [ht]
    split
    ·rfl
    ·cases ro <;> simp [outA]
  ·rw [if_neg hn]
   simp only [Bool.or_eq_true,Bool.not_eq_true',not_or,Bool.not_eq_true,Bool.not_eq_false,List.all_eq_true,decide_eq_true_eq] at hn
   rw [hn.1]
   simp only [Bool.false_and,Bool.false_eq_true,if_false]
   cases runOps rec gl ops [] c with
   | none=>rfl
   | some ro =>
    cases ro with
    | norm env c'=>rfl
    | pan j v c' =>
     have hl:anyLive pok j=false:=by
      simp only [anyLive,List.any_eq_false,Bool.and_eq_true,decide_eq_true_eq,not_and,Nat.not_lt]
      intro x hx h1
      have:=hn.2 x hx
      omega
     simp [outA,hl]
def exec (rec:Rec) (gl:Nat→List V):ACode→Cfg→Option (Out×Cfg)
 | .skip,c=>some (.norm,c)
 | .reg draw fl pok ops,c=>regA rec gl draw fl pok ops c
 | .seq a b,c=>match exec rec gl a c with
  | some (.norm,c')=>exec rec gl b c'
  | r=>r
 | .ite t a b,c=>match c.flag with
  | some (u,.bool v)=>if u=t then (if v then exec rec gl a { c with flag:=none } else exec rec gl b { c with flag:=none }) else none
  | _=>none
 | .block id a,c=>match exec rec gl a c with
  | some (.exit i,c')=>if i=id then some (.norm,c') else some (.exit i,c')
  | r=>r
 | .loop a,c=>if c.pn.isSome then none else rec.loop a c
 | .exit id,c=>some (.exit id,c)
 | .ret,c=>some (.ret,c)
 | .scope a,c=>exec rec gl a c
 | .its s a b,c=>match c.slots.getD s .undef with
  | .bool v=>if v then exec rec gl a { c with flag:=none } else exec rec gl b { c with flag:=none }
  | _=>none
 | .range f y cap _,c=>if c.pn.isSome then none else
  match callee (ev gl [] c.slots f) [.yf c.h.length] with
  | some (n,as)=>match rec.call n as (c.h++[.loop y (cap.map fun s=>c.slots.getD s .undef) .ready none]) with
   | some (.pan v,h')=>some (.pan v,{ c with dfs:=(.undef,[]) :: c.dfs,flag:=none,h:=h' })
   | some (.ret _,h')=>match h'[c.h.length]? with
    | some (.loop y' fi st pd)=>if st = .busy then none else
     some ((match pd with | none => .norm | some none => .ret | some (some i) => .exit i),
      { c with dfs:=(.undef,[]) :: c.dfs,flag:=none,h:=h'.set c.h.length (.loop y' fi .exhausted pd) })
    | _=>none
   | none=>none
  | none=>none
 | .no,c=>none
 | .pre sz a,c=>exec rec gl a { c with h:=c.h++[.cells 0 sz []] }
 | .brt fl deps ops,c=>if c.pn.isSome then none else match runOps rec gl ops [] c with
  | some (.norm env c')=>match brtO rec gl ops deps env c' ops.length (List.replicate ops.length false) (List.replicate ops.length .undef) c with
   | some _=>some (.norm,{ c' with flag:=fl.map fun (t,j)=>(t,env.getD j .undef) })
   | none=>none
  | _=>none
 | .frz s a,c=>match frzA c.h (c.slots.getD s .undef) with
  | some (v,h)=>exec rec gl a { c with slots:=c.slots.set s v,h:=h }
  | none=>none
def initSlots (slots:List Nat) (args:List V):List V:=slots.map fun t=>args.getD t .undef
def resV (h:Heap) (slots:List V):ARes→Option V
 | .slot s=>some (slots.getD s .undef)
 | .cell s size ag=>loadV h (slots.getD s .undef) size ag
 | .prom s size ag=>if defd slots s∧(cellsV (slots.getD s .undef)).length=size then mkV ag (cellsV (slots.getD s .undef)) else none
def resL (h:Heap) (slots:List V):List ARes→Option (List V)
 | []=>some []
 | r :: rs=>match resV h slots r,resL h slots rs with
  | some v,some vs=>some (v :: vs)
  | _,_=>none
def resultV (h:Heap) (slots:List V) (rs:List ARes):Option V :=
 match resL h slots rs with
 | some [v]=>some v
 | some vs=>some (.tup vs)
 | none=>none
def leave (rec:Rec) (rs:List ARes) (slots:List V):List (V×List V)→Option V→Heap→Option (R×Heap)
 | [],none,h=>(resultV h slots rs).map fun v=>(.ret v,h)
 | [],some v,h=>some (.pan v,h)
 | (.undef,_) :: ds,u,h=>leave rec rs slots ds u h
 | (f,args) :: ds,u,h=>match callee f args with
  | some (n,as)=>match rec.dcall n as u h with
   | some (u',h')=>leave rec rs slots ds u' h'
   | none=>none
  | none=>none
def callF (rec:Rec) (gl:Nat→List V) (A:Nat→Option AFunc) (f:Nat) (args:List V) (h:Heap):Option (R×Heap) :=
 match A f with
 | some af=>if args.length=af.nparams∧af.ins.isEmpty=true then
   match exec rec gl af.body { slots:=initSlots af.slots args,h:=h } with
   | some (.norm,c) | some (.ret,c)=>leave rec af.results c.slots c.dfs none c.h
   | some (.pan v,c)=>leave rec af.results c.slots c.dfs (some v) c.h
   | _=>none
  else none
 | none=>none
def dcallF (rec:Rec) (gl:Nat→List V) (A:Nat→Option AFunc) (f:Nat) (args:List V) (u:Option V) (h:Heap):Option (Option V×Heap) :=
 match A f with
 | some af=>if args.length=af.nparams∧af.ins.isEmpty=true then
   match exec { rec with round:=fun _ _ _ _=>none } gl af.body { slots:=initSlots af.slots args,pn:=some u,h:=h } with
   | some (.norm,c) | some (.ret,c)=>match c.dfs,c.pn,resultV c.h c.slots af.results with
    | [],some u',some _=>some (u',c.h)
    | _,_,_=>none
   | _=>none
  else none
 | none=>none
def loopF (rec:Rec) (gl:Nat→List V) (a:ACode) (c:Cfg):Option (Out×Cfg) :=
 match exec rec gl a c with
 | some (.norm,c')=>rec.loop a c'
 | r=>r
def roC:ACode→Bool
 | .reg _ _ _ ops=>ops.all fun o=>match o.op with
  | .e _ | .dfr .. | .rcv=>false
  | _=>true
 | .seq a b | .ite _ a b | .its _ a b=>roC a&&roC b
 | .block _ a | .loop a | .scope a=>roC a
 | .skip | .exit _ | .ret | .no=>true
 | .frz .. | .range .. | .pre .. | .brt .. => false
def roF (rec:Rec) (gl:Nat→List V) (A:Nat→Option AFunc) (f:Nat) (args:List V) (h:Heap):Option R :=
 match A f with
 | some af=>if roC af.body then (callF rec gl A f args h).map (·.1) else none
 | none=>none
def find2 (t:Nat):List Nat→List V→V
 | i :: is,v :: vs=>if i=t then v else find2 t is vs
 | _,_ => .undef
def roundF (rec:Rec) (gl:Nat→List V) (A:Nat→Option AFunc) (y b:Nat) (args:List V) (h:Heap):Option (Out×Heap) :=
 match A y with
 | some af=>if args.length=af.ins.length∧af.ins.isEmpty=false then
   match exec rec gl af.asg { slots:=af.slots.map fun t=>find2 t af.ins args,h:=h } with
   | some (.norm,c)=>match c.h[b]? with
    | some (.loop y' fi .ready pd)=>if y'=y then match exec rec gl af.body { c with flag:=none,h:=c.h.set b (.loop y' fi .busy pd) } with
     | some (out,c')=>match c'.dfs,c'.h[b]?,out with
      | [],_,.pan v=>some (.pan v,c'.h)
      | [],some (.loop y2 fi2 _ _),.norm=>some (.norm,c'.h.set b (.loop y2 fi2 .ready none))
      | [],some (.loop y2 fi2 _ _),.ret=>some (.ret,c'.h.set b (.loop y2 fi2 .done (some none)))
      | [],some (.loop y2 fi2 _ _),.exit i=>some (.exit i,c'.h.set b (.loop y2 fi2 .done (some (some i))))
      | _,_,_=>none
     | none=>none
     else none
    | _=>none
   | _=>none
  else none
 | none=>none
def run (gl:Nat→List V) (A:Nat→Option AFunc):Nat→Rec
 | 0=>⟨fun _ _ _=>none,fun _ _ _ _=>none,fun _ _=>none,fun _ _ _=>none,fun _ _ _ _=>none⟩
 | n+1=>⟨callF (run gl A n) gl A,dcallF (run gl A n) gl A,loopF (run gl A n) gl,roF (run gl A n) gl A,roundF (run gl A n) gl A⟩
mutual
theorem eqV_sound:∀ {a b:V},eqV a b=true→a=b
 | .undef,b,h=>by cases b <;> simp_all [eqV]
 | .nilp,b,h=>by cases b <;> simp_all [eqV]
 | .nils,b,h=>by cases b <;> simp_all [eqV]
 | .nilm,b,h=>by cases b <;> simp_all [eqV]
 | .nilf,b,h=>by cases b <;> simp_all [eqV]
 | .nili,b,h=>by cases b <;> simp_all [eqV]
 | .bool a,b,h=>by cases b <;> simp_all [eqV]
 | .int k a,b,h=>by cases b <;> simp_all [eqV]
 | .str a,b,h=>by
  cases b <;> simp only [eqV,Bool.false_eq_true,beq_iff_eq] at h
  rename_i b
  have:a=b:=by
   cases a; cases b
   simp only at h
   congr 1
   exact Array.toList_inj.1 h
  rw [this]
 | .ref b o g,b',h=>by cases b' <;> simp_all [eqV]
 | .pv cs,b,h=>by
  cases b <;> simp only [eqV,Bool.false_eq_true] at h
  rw [eqL_sound h]
 | .sl b o l g z e,b',h=>by cases b' <;> simp_all [eqV]
 | .sv es e,b,h=>by
  cases b <;> simp only [eqV,Bool.false_eq_true,Bool.and_eq_true,beq_iff_eq] at h
  rw [eqLL_sound h.1,h.2]
 | .map b,b',h=>by cases b' <;> simp_all [eqV]
 | .yf b,b',h=>by cases b' <;> simp_all [eqV]
 | .func f fi ca,b,h=>by
  cases b <;> first | (simp only [eqV,Bool.false_eq_true] at h; done) | (cases f <;> simp only [eqV,Bool.false_eq_true] at h; done) | skip
  rename_i f' fi' ca'
  cases f <;> first | (simp only [eqV,Bool.false_eq_true] at h; done) | skip
  cases f' <;> first | (simp only [eqV,Bool.false_eq_true] at h; done) | skip
  simp only [eqV,Bool.and_eq_true,beq_iff_eq] at h
  rw [h.1.1,eqL_sound h.1.2,eqL_sound h.2]
 | .iface t v,b,h=>by
  cases b <;> simp only [eqV,Bool.false_eq_true,Bool.and_eq_true,beq_iff_eq] at h
  rw [h.1,eqV_sound h.2]
 | .agg cs,b,h=>by
  cases b <;> simp only [eqV,Bool.false_eq_true] at h
  rw [eqL_sound h]
 | .tup cs,b,h=>by
  cases b <;> simp only [eqV,Bool.false_eq_true] at h
  rw [eqL_sound h]
 | .vs cs n z,b,h=>by
  cases b <;> simp only [eqV,Bool.false_eq_true,Bool.and_eq_true,beq_iff_eq] at h
  rw [eqL_sound h.1.1,h.1.2,h.2]
theorem eqL_sound:∀ {a b:List V},eqL a b=true→a=b
 | [],b,h=>by cases b <;> simp_all [eqL]
 | a :: as,b,h=>by
  cases b <;> simp only [eqL,Bool.false_eq_true,Bool.and_eq_true] at h
  rw [eqV_sound h.1,eqL_sound h.2]
theorem eqLL_sound:∀ {a b:List (List V)},eqLL a b=true→a=b
 | [],b,h=>by cases b <;> simp_all [eqLL]
 | a :: as,b,h=>by
  cases b <;> simp only [eqLL,Bool.false_eq_true,Bool.and_eq_true] at h
  rw [eqL_sound h.1,eqLL_sound h.2]
end
theorem eqPs_sound:∀ {a b:List (V×V)},eqPs a b=true→a=b
 | [],b,h=>by cases b <;> simp_all [eqPs]
 | (x,y) :: as,b,h=>by
  cases b with
  | nil=>simp [eqPs] at h
  | cons p bs =>
   obtain ⟨u,v⟩:=p
   simp only [eqPs,Bool.and_eq_true] at h
   rw [eqV_sound h.1.1,eqV_sound h.1.2,eqPs_sound h.2]
theorem eqObj_sound {a b:Obj} (h:eqObj a b=true):a=b:=by
 cases a <;> cases b <;> simp only [eqObj,Bool.false_eq_true,Bool.and_eq_true,beq_iff_eq,decide_eq_true_eq] at h
 ·rw [h.1.1,h.1.2,eqL_sound h.2]
 ·rw [eqPs_sound h]
 ·rw [h.1.1.1,eqL_sound h.1.1.2,h.1.2,h.2]
 ·rfl
theorem eqH_sound:∀ {a b:Heap},eqH a b=true→a=b
 | [],b,h=>by cases b <;> simp_all [eqH]
 | x :: as,b,h=>by
  cases b with
  | nil=>simp [eqH] at h
  | cons y bs =>
   simp only [eqH,Bool.and_eq_true] at h
   rw [eqObj_sound h.1,eqH_sound h.2]
theorem eqDs_sound:∀ {a b:List (V×List V)},eqDs a b=true→a=b
 | [],b,h=>by cases b <;> simp_all [eqDs]
 | (x,y) :: as,b,h=>by
  cases b with
  | nil=>simp [eqDs] at h
  | cons p bs =>
   obtain ⟨u,v⟩:=p
   simp only [eqDs,Bool.and_eq_true] at h
   rw [eqV_sound h.1.1,eqL_sound h.1.2,eqDs_sound h.2]
@[simp] def vi (n:Int):V:=.int .i64 n
@[simp] def ci (n:Int):Opd:=.c (.int .i64 n)
@[simp] def cT:Opd:=.c (.bool true)
@[simp] def cF:Opd:=.c (.bool false)
@[simp] def cf (n:Nat):Opd:=.c (.func (.func n) [] [])
@[simp] def rF (ops:List AOper):ACode:=.reg false none [] ops
@[simp] def rT (ops:List AOper):ACode:=.reg true none [] ops
@[simp] def qF (t j:Nat) (ops:List AOper):ACode:=.reg false (some (t,j)) [] ops
@[simp] def qT (t j:Nat) (ops:List AOper):ACode:=.reg true (some (t,j)) [] ops
@[simp] def olp (o:POp):AOper:=⟨.loc,.p o,none⟩
@[simp] def onp (o:POp):AOper:=⟨.no,.p o,none⟩
@[simp] def osp (s:Nat) (o:POp):AOper:=⟨.slot s,.p o,none⟩
@[simp] def olm (x:Opd):AOper:=⟨.loc,.p (.mov x),none⟩
@[simp] def onm (x:Opd):AOper:=⟨.no,.p (.mov x),none⟩
@[simp] def osm (s:Nat) (x:Opd):AOper:=⟨.slot s,.p (.mov x),none⟩
@[simp] def olf (f:Nat) (as:List Opd):AOper:=⟨.loc,.pc (.c (.func (.func f) [] [])) as,none⟩
@[simp] def onf (f:Nat) (as:List Opd):AOper:=⟨.no,.pc (.c (.func (.func f) [] [])) as,none⟩
@[simp] def osf (s f:Nat) (as:List Opd):AOper:=⟨.slot s,.pc (.c (.func (.func f) [] [])) as,none⟩
@[simp] def olpc (f:Opd) (as:List Opd):AOper:=⟨.loc,.pc f as,none⟩
@[simp] def onpc (f:Opd) (as:List Opd):AOper:=⟨.no,.pc f as,none⟩
@[simp] def ospc (s:Nat) (f:Opd) (as:List Opd):AOper:=⟨.slot s,.pc f as,none⟩
@[simp] def oll (o:LOp):AOper:=⟨.loc,.l o,none⟩
@[simp] def onl (o:LOp):AOper:=⟨.no,.l o,none⟩
@[simp] def osl (s:Nat) (o:LOp):AOper:=⟨.slot s,.l o,none⟩
@[simp] def ole (o:EOp):AOper:=⟨.loc,.e o,none⟩
@[simp] def one (o:EOp):AOper:=⟨.no,.e o,none⟩
@[simp] def ose (s:Nat) (o:EOp):AOper:=⟨.slot s,.e o,none⟩
@[simp] def olx (o:AOp):AOper:=⟨.loc,o,none⟩
@[simp] def onx (o:AOp):AOper:=⟨.no,o,none⟩
@[simp] def osx (s:Nat) (o:AOp):AOper:=⟨.slot s,o,none⟩
@[simp] def og (d:Dst) (o:AOp) (j:Nat) (b:Bool):AOper:=⟨d,o,some (j,b)⟩
def pm (n:Nat) (l:List Nat):List Bool:=(List.range n).map fun i=>l.contains i
abbrev Mem:=Nat→Option (Array Value)
mutual
inductive RD (M:Mem):V→Value→Prop
 | undef (v:Value):RD M .undef v
 | bool (b:Bool):RD M (.bool b) (.bool b)
 | int (k:IntKind) (n:Int):RD M (.int k n) (.int k n)
 | str (s:ByteArray):RD M (.str s) (.string s)
 | nilp:RD M .nilp (.pointer none)
 | nils:RD M .nils (.slice none 0 0)
 | nilm:RD M .nilm (.map none)
 | nilf:RD M .nilf .nilFunc
 | nili:RD M .nili .nilIface
 | pv (cs:List V) (xs:List Value) (a:Addr) (arr:Array Value) (hs:a.spot=none) (hM:M a.block=some arr)
   (hx:xs=(arr.toList.drop a.off).take xs.length) (hr:RDs M cs xs):RD M (.pv cs) (.pointer (some a))
 | sv (es:List (List V)) (ex:Bool) (a:Option Addr) (len cap:Nat) (hl:es.length=len) (hc:len≤cap) (he:ex=true→cap=len)
   (hp:0<len→∃ ad arr,a=some ad∧ad.spot=none∧M ad.block=some arr) (sz:Nat)
   (xs:List Value) (hx:∀ ad arr,0<len→a=some ad→M ad.block=some arr→xs=(arr.toList.drop ad.off).take xs.length) (h1:∀ u∈xs,Value.oneCell' u=true) (hr:RDe M sz es xs) :
   RD M (.sv es ex) (.slice a len cap)
 | func (fn:Fn) (fi ca:List V) (fi' ca':Array Value) (h1:RDs M fi fi'.toList) (h2:RDs M ca ca'.toList):RD M (.func fn fi ca) (.func fn fi' ca')
 | iface (t:Nat) (v:V) (v':Value) (h:RD M v v'):RD M (.iface t v) (.iface t v')
 | agg (cs:List V) (cs':Array Value) (h:RDs M cs cs'.toList):RD M (.agg cs) (.agg cs')
 | tup (cs:List V) (cs':Array Value) (h:RDs M cs cs'.toList):RD M (.tup cs) (.tuple cs')
inductive RDs (M:Mem):List V→List Value→Prop
 | nil:RDs M [] []
 | cons (v:V) (vs:List V) (x:Value) (xs:List Value) (h:RD M v x) (hs:RDs M vs xs):RDs M (v :: vs) (x :: xs)
inductive RDe (M:Mem):Nat→List (List V)→List Value→Prop
 | nil (sz:Nat):RDe M sz [] []
 | cons (sz:Nat) (e:List V) (es:List (List V)) (xs ys:List Value) (hl:xs.length=sz) (h:RDs M e xs) (hs:RDe M sz es ys):RDe M sz (e :: es) (xs++ys)
end
def Mem.le (M M':Mem):Prop:=∀ b arr,M b=some arr→M' b=some arr
theorem Mem.le_refl (M:Mem):M.le M:=fun _ _ h=>h
theorem Mem.le_trans {M M' M'':Mem} (h:M.le M') (h':M'.le M''):M.le M'':=fun b arr x=>h' b arr (h b arr x)
mutual
theorem RD.mono {M M':Mem} (hM:M.le M'):∀ {v:V} {x:Value},RD M v x→RD M' v x
 | _,_,.undef v => .undef v
 | _,_,.bool b => .bool b
 | _,_,.int k n => .int k n
 | _,_,.str s => .str s
 | _,_,.nilp => .nilp
 | _,_,.nils => .nils
 | _,_,.nilm => .nilm
 | _,_,.nilf => .nilf
 | _,_,.nili => .nili
 | _,_,.pv cs xs a arr hs hm hx hr => .pv cs xs a arr hs (hM _ _ hm) hx (RDs.mono hM hr)
 | _,_,.sv es ex a len cap hl hc he hp sz xs hx h1 hr =>
  .sv es ex a len cap hl hc he (fun h=>let ⟨ad,arr,h1,h2,h3⟩:=hp h; ⟨ad,arr,h1,h2,hM _ _ h3⟩) sz xs
   (fun ad arr h h1 h2=>by
    obtain ⟨ad',arr',e1,_,e3⟩:=hp h
    rw [e1] at h1; obtain rfl:=Option.some.inj h1
    have:=hM _ _ e3
    rw [this] at h2; obtain rfl:=Option.some.inj h2
    exact hx _ _ h e1 e3) h1 (RDe.mono hM hr)
 | _,_,.func fn fi ca fi' ca' h1 h2 => .func fn fi ca fi' ca' (RDs.mono hM h1) (RDs.mono hM h2)
 | _,_,.iface t v v' h => .iface t v v' (RD.mono hM h)
 | _,_,.agg cs cs' h => .agg cs cs' (RDs.mono hM h)
 | _,_,.tup cs cs' h => .tup cs cs' (RDs.mono hM h)
theorem RDs.mono {M M':Mem} (hM:M.le M'):∀ {vs:List V} {xs:List Value},RDs M vs xs→RDs M' vs xs
 | _,_,.nil => .nil
 | _,_,.cons v vs x xs h hs => .cons v vs x xs (RD.mono hM h) (RDs.mono hM hs)
theorem RDe.mono {M M':Mem} (hM:M.le M'):∀ {sz:Nat} {es:List (List V)} {xs:List Value},RDe M sz es xs→RDe M' sz es xs
 | _,_,_,.nil sz => .nil sz
 | _,_,_,.cons sz e es xs ys hl h hs => .cons sz e es xs ys hl (RDs.mono hM h) (RDe.mono hM hs)
end
theorem RDs.length {M:Mem} {vs:List V} {xs:List Value} (h:RDs M vs xs):vs.length=xs.length:=by
 induction vs generalizing xs with
 | nil=>cases h; rfl
 | cons v vs ih=>cases h with | cons _ _ x xs h hs=>simp [ih hs]
structure Place where
 blk:Nat
 room:Nat
 sz:Nat
structure YInfo where
 ok:FuncId→Prop
 nt:Nat
 params:Array Tmp
 assign:Code
 body:Code
 caps:List Nat
structure G where
 M:Mem
 β:Nat→Nat→Option Place
 Y:Nat→Option YInfo
structure G.le (g g':G):Prop where
 m:g.M.le g'.M
 b:∀ b n p,g.β b n=some p→g'.β b n=some p
 y:g'.Y=g.Y
theorem G.le_refl (g:G):g.le g:=⟨Mem.le_refl _,fun _ _ _ h=>h,rfl⟩
theorem G.le_trans {g g' g'':G} (h:g.le g') (h':g'.le g''):g.le g'':=⟨Mem.le_trans h.1 h'.1,fun b n p x=>h'.2 b n p (h.2 b n p x),h'.3.trans h.3⟩
mutual
inductive RV (g:G):V→Value→Prop
 | d (v:V) (x:Value) (h:RD g.M v x):RV g v x
 | ref (b off gen:Nat) (p:Place) (h:g.β b gen=some p):RV g (.ref b off gen) (.pointer (some ⟨p.blk,off,none⟩))
 | sl (b off len gen sz:Nat) (ex:Bool) (p:Place) (a:Option Addr) (cap:Nat) (h:g.β b gen=some p) (hs:p.sz=sz) (hle:off+len≤gen) (hc:len≤cap)
   (he:ex=true→cap=len) (hcr:off+cap≤p.room) (ha:0<cap→a=some ⟨p.blk,off * sz,none⟩) :
   RV g (.sl b off len gen sz ex) (.slice a len cap)
 | map (b:Nat) (p:Place) (h:g.β b 0=some p):RV g (.map b) (.map (some p.blk))
 | yf (b:Nat) (p:Place) (h:g.β b 0=some p):RV g (.yf b) (.func (.yield p.blk) #[] #[])
 | vs (cs:List V) (n sz:Nat) (a:Addr) (arr:Array Value) (hs:a.spot=none) (hM:g.M a.block=some arr) (hn:0<n) (hl:cs.length=n * sz) (h1:∀ u∈(arr.toList.drop a.off).take (n * sz),Value.oneCell' u=true)
   (h:RVs g cs ((arr.toList.drop a.off).take (n * sz))):RV g (.vs cs n sz) (.slice (some a) n n)
 | func (fn:Fn) (fi ca:List V) (fi' ca':Array Value) (h1:RVs g fi fi'.toList) (h2:RVs g ca ca'.toList):RV g (.func fn fi ca) (.func fn fi' ca')
 | iface (t:Nat) (v:V) (v':Value) (h:RV g v v'):RV g (.iface t v) (.iface t v')
 | agg (cs:List V) (cs':Array Value) (h:RVs g cs cs'.toList):RV g (.agg cs) (.agg cs')
 | tup (cs:List V) (cs':Array Value) (h:RVs g cs cs'.toList):RV g (.tup cs) (.tuple cs')
inductive RVs (g:G):List V→List Value→Prop
 | nil:RVs g [] []
 | cons (v:V) (vs:List V) (x:Value) (xs:List Value) (h:RV g v x) (hs:RVs g vs xs):RVs g (v :: vs) (x :: xs)
end
mutual
theorem RV.mono {g g':G} (hg:g.le g'):∀ {v:V} {x:Value},RV g v x→RV g' v x
 | _,_,.d v x h => .d v x (h.mono hg.1)
 | _,_,.ref b off gen p h => .ref b off gen p (hg.2 _ _ _ h)
 | _,_,.sl b off len gen sz ex p a cap h hs hle hc he hcr ha => .sl b off len gen sz ex p a cap (hg.2 _ _ _ h) hs hle hc he hcr ha
 | _,_,.map b p h => .map b p (hg.2 _ _ _ h)
 | _,_,.yf b p h => .yf b p (hg.2 _ _ _ h)
 | _,_,.vs cs n sz a arr hs hM hn hl h1 h => .vs cs n sz a arr hs (hg.1 _ _ hM) hn hl h1 (RVs.mono hg h)
 | _,_,.func fn fi ca fi' ca' h1 h2 => .func fn fi ca fi' ca' (RVs.mono hg h1) (RVs.mono hg h2)
 | _,_,.iface t v v' h => .iface t v v' (RV.mono hg h)
 | _,_,.agg cs cs' h => .agg cs cs' (RVs.mono hg h)
 | _,_,.tup cs cs' h => .tup cs cs' (RVs.mono hg h)
theorem RVs.mono {g g':G} (hg:g.le g'):∀ {vs:List V} {xs:List Value},RVs g vs xs→RVs g' vs xs
 | _,_,.nil => .nil
 | _,_,.cons v vs x xs h hs => .cons v vs x xs (RV.mono hg h) (RVs.mono hg hs)
end
theorem RVs.length {g:G} {vs:List V} {xs:List Value} (h:RVs g vs xs):vs.length=xs.length:=by
 induction vs generalizing xs with
 | nil=>cases h; rfl
 | cons v vs ih=>cases h with | cons _ _ x xs h hs=>simp [ih hs]
theorem RDs.rvs {g:G} {vs:List V} {xs:List Value} (h:RDs g.M vs xs):RVs g vs xs:=by
 induction vs generalizing xs with
 | nil=>cases h; exact .nil
 | cons v vs ih=>cases h with | cons _ _ x xs h hs=>exact .cons _ _ _ _ (.d _ _ h) (ih hs)
theorem RV.bool_inv {g:G} {b:Bool} {x:Value} (h:RV g (.bool b) x):x = .bool b:=by
 cases h with | d _ _ h=>cases h; rfl
theorem RV.int_inv {g:G} {k:IntKind} {n:Int} {x:Value} (h:RV g (.int k n) x):x = .int k n:=by
 cases h with | d _ _ h=>cases h; rfl
theorem RV.str_inv {g:G} {s:ByteArray} {x:Value} (h:RV g (.str s) x):x = .string s:=by
 cases h with | d _ _ h=>cases h; rfl
theorem RV.nilp_inv {g:G} {x:Value} (h:RV g .nilp x):x = .pointer none:=by
 cases h with | d _ _ h=>cases h; rfl
theorem RV.nils_inv {g:G} {x:Value} (h:RV g .nils x):x = .slice none 0 0:=by
 cases h with | d _ _ h=>cases h; rfl
theorem RV.nilm_inv {g:G} {x:Value} (h:RV g .nilm x):x = .map none:=by
 cases h with | d _ _ h=>cases h; rfl
theorem RV.nilf_inv {g:G} {x:Value} (h:RV g .nilf x):x = .nilFunc:=by
 cases h with | d _ _ h=>cases h; rfl
theorem RV.nili_inv {g:G} {x:Value} (h:RV g .nili x):x = .nilIface:=by
 cases h with | d _ _ h=>cases h; rfl
theorem RV.agg_inv {g:G} {cs:List V} {x:Value} (h:RV g (.agg cs) x):∃ cs':Array Value,x = .agg cs'∧RVs g cs cs'.toList:=by
 cases h with
 | d _ _ h=>cases h with | agg _ cs' h=>exact ⟨cs',rfl,h.rvs⟩
 | agg _ cs' h=>exact ⟨cs',rfl,h⟩
theorem RV.tup_inv {g:G} {cs:List V} {x:Value} (h:RV g (.tup cs) x):∃ cs':Array Value,x = .tuple cs'∧RVs g cs cs'.toList:=by
 cases h with
 | d _ _ h=>cases h with | tup _ cs' h=>exact ⟨cs',rfl,h.rvs⟩
 | tup _ cs' h=>exact ⟨cs',rfl,h⟩
theorem RV.iface_inv {g:G} {t:Nat} {v:V} {x:Value} (h:RV g (.iface t v) x):∃ v',x = .iface t v'∧RV g v v':=by
 cases h with
 | d _ _ h=>cases h with | iface _ _ v' h=>exact ⟨v',rfl,.d _ _ h⟩
 | iface _ _ v' h=>exact ⟨v',rfl,h⟩
theorem RV.func_inv {g:G} {fn:Fn} {fi ca:List V} {x:Value} (h:RV g (.func fn fi ca) x) :
  ∃ fi' ca':Array Value,x = .func fn fi' ca'∧RVs g fi fi'.toList∧RVs g ca ca'.toList:=by
 cases h with
 | d _ _ h=>cases h with | func _ _ _ fi' ca' h1 h2=>exact ⟨fi',ca',rfl,h1.rvs,h2.rvs⟩
 | func _ _ _ fi' ca' h1 h2=>exact ⟨fi',ca',rfl,h1,h2⟩
theorem RV.ref_inv {g:G} {b off gen:Nat} {x:Value} (h:RV g (.ref b off gen) x):∃ p,g.β b gen=some p∧x = .pointer (some ⟨p.blk,off,none⟩):=by
 cases h with
 | d _ _ h=>cases h
 | ref _ _ _ p h=>exact ⟨p,h,rfl⟩
theorem RV.pv_inv {g:G} {cs:List V} {x:Value} (h:RV g (.pv cs) x):∃ blk off arr xs,x = .pointer (some ⟨blk,off,none⟩)∧g.M blk=some arr ∧
  xs=(arr.toList.drop off).take xs.length∧RDs g.M cs xs:=by
 cases h with
 | d _ _ h =>
  cases h with
  | pv _ xs a arr hs hM hx hr =>
   obtain ⟨b,o,s⟩:=a
   simp only at hs; subst hs
   exact ⟨b,o,arr,xs,rfl,hM,hx,hr⟩
theorem RV.sv_inv {g:G} {es:List (List V)} {ex:Bool} {x:Value} (h:RV g (.sv es ex) x):∃ a cap sz xs,x = .slice a es.length cap∧es.length≤cap∧(ex=true→cap=es.length) ∧
  RDe g.M sz es xs∧(∀ u∈xs,Value.oneCell' u=true)∧(0<es.length→∃ blk off arr,a=some ⟨blk,off,none⟩∧g.M blk=some arr∧xs=(arr.toList.drop off).take xs.length):=by
 cases h with
 | d _ _ h =>
  cases h with
  | sv _ _ a len cap hl hc he hp sz xs hx h1 hr =>
   subst hl
   refine ⟨a,cap,sz,xs,rfl,hc,he,hr,h1,fun h0 => ?_⟩
   obtain ⟨ad,arr,ha,hs,hM⟩:=hp h0
   have hx':=hx ad arr h0 ha hM
   obtain ⟨b,o,s⟩:=ad
   simp only at hs; subst hs
   exact ⟨b,o,arr,ha,hM,hx'⟩
theorem RV.sl_inv {g:G} {b off len gen sz:Nat} {ex:Bool} {x:Value} (h:RV g (.sl b off len gen sz ex) x):∃ p a cap,x = .slice a len cap∧g.β b gen=some p∧p.sz=sz∧off+len≤gen∧len≤cap ∧
  (ex=true→cap=len)∧off+cap≤p.room∧(0<cap→a=some ⟨p.blk,off * sz,none⟩):=by
 cases h with
 | d _ _ h=>cases h
 | sl _ _ _ _ _ _ p a cap h hs hle hc he hcr ha=>exact ⟨p,a,cap,rfl,h,hs,hle,hc,he,hcr,ha⟩
theorem RV.map_inv {g:G} {b:Nat} {x:Value} (h:RV g (.map b) x):∃ p,x = .map (some p.blk)∧g.β b 0=some p:=by
 cases h with
 | d _ _ h=>cases h
 | map _ p h=>exact ⟨p,rfl,h⟩
theorem RV.yf_inv {g:G} {b:Nat} {x:Value} (h:RV g (.yf b) x):∃ p,x = .func (.yield p.blk) #[] #[]∧g.β b 0=some p:=by
 cases h with
 | d _ _ h=>cases h
 | yf _ p h=>exact ⟨p,rfl,h⟩
theorem RV.vs_inv {g:G} {cs:List V} {n sz:Nat} {x:Value} (h:RV g (.vs cs n sz) x):∃ (a:Addr) (arr:Array Value),x = .slice (some a) n n∧a.spot=none∧g.M a.block=some arr∧0<n∧cs.length=n * sz ∧
  (∀ u∈(arr.toList.drop a.off).take (n * sz),Value.oneCell' u=true)∧RVs g cs ((arr.toList.drop a.off).take (n * sz)):=by
 cases h with
 | d _ _ h=>cases h
 | vs _ _ _ a arr hs hM hn hl h1 h=>exact ⟨a,arr,rfl,hs,hM,hn,hl,h1,h⟩
theorem RVs.get {g:G} {vs:List V} {xs:List Value} (h:RVs g vs xs):∀ {i:Nat} {v:V},vs[i]?=some v→∃ x,xs[i]?=some x∧RV g v x:=by
 induction vs generalizing xs with
 | nil=>intro i v e; simp at e
 | cons u vs ih =>
  cases h with
  | cons _ _ x xs h hs =>
   intro i v e
   cases i with
   | zero=>simp at e; subst e; exact ⟨x,rfl,h⟩
   | succ i=>simpa using ih hs (by simpa using e)
theorem RVs.drop {g:G} {vs:List V} {xs:List Value} (h:RVs g vs xs) (k:Nat):RVs g (vs.drop k) (xs.drop k):=by
 induction k generalizing vs xs with
 | zero=>simpa using h
 | succ k ih =>
  cases h with
  | nil=>simpa using RVs.nil
  | cons _ _ _ _ _ hs=>simpa using ih hs
theorem RVs.take {g:G} {vs:List V} {xs:List Value} (h:RVs g vs xs) (k:Nat):RVs g (vs.take k) (xs.take k):=by
 induction k generalizing vs xs with
 | zero=>simpa using RVs.nil
 | succ k ih =>
  cases h with
  | nil=>simpa using RVs.nil
  | cons _ _ _ _ h hs=>simpa using RVs.cons _ _ _ _ h (ih hs)
theorem RVs.append {g:G} {vs us:List V} {xs ys:List Value} (h:RVs g vs xs) (h':RVs g us ys):RVs g (vs++us) (xs++ys):=by
 induction vs generalizing xs with
 | nil=>cases h; simpa using h'
 | cons v vs ih=>cases h with | cons _ _ _ _ h hs=>exact .cons _ _ _ _ h (ih hs)
theorem RVs.set {g:G} {vs:List V} {xs:List Value} (h:RVs g vs xs) {v:V} {x:Value} (hv:RV g v x) (i:Nat):RVs g (vs.set i v) (xs.set i x):=by
 induction vs generalizing xs i with
 | nil=>cases h; simpa using RVs.nil
 | cons u vs ih =>
  cases h with
  | cons _ _ _ _ h hs =>
   cases i with
   | zero=>exact .cons _ _ _ _ hv hs
   | succ i=>exact .cons _ _ _ _ h (ih hs i)
theorem RDs.drop {M:Mem} {vs:List V} {xs:List Value} (h:RDs M vs xs) (k:Nat):RDs M (vs.drop k) (xs.drop k):=by
 induction k generalizing vs xs with
 | zero=>simpa using h
 | succ k ih =>
  cases h with
  | nil=>simpa using RDs.nil
  | cons _ _ _ _ _ hs=>simpa using ih hs
theorem RDs.take {M:Mem} {vs:List V} {xs:List Value} (h:RDs M vs xs) (k:Nat):RDs M (vs.take k) (xs.take k):=by
 induction k generalizing vs xs with
 | zero=>simpa using RDs.nil
 | succ k ih =>
  cases h with
  | nil=>simpa using RDs.nil
  | cons _ _ _ _ h hs=>simpa using RDs.cons _ _ _ _ h (ih hs)
theorem RDs.append {M:Mem} {vs us:List V} {xs ys:List Value} (h:RDs M vs xs) (h':RDs M us ys):RDs M (vs++us) (xs++ys):=by
 induction vs generalizing xs with
 | nil=>cases h; simpa using h'
 | cons v vs ih=>cases h with | cons _ _ _ _ h hs=>exact .cons _ _ _ _ h (ih hs)
theorem RDe.length {M:Mem} {sz:Nat} {es:List (List V)} {xs:List Value} (h:RDe M sz es xs):xs.length=es.length * sz:=by
 induction es generalizing xs with
 | nil=>cases h; simp
 | cons e es ih =>
  cases h with
  | cons _ _ _ xs ys hl h hs=>simp [ih hs,hl,Nat.add_mul,Nat.add_comm]
theorem RDe.elem {M:Mem} {sz:Nat} {es:List (List V)} {xs:List Value} (h:RDe M sz es xs):∀ e∈es,e.length=sz:=by
 induction es generalizing xs with
 | nil=>simp
 | cons e es ih =>
  cases h with
  | cons _ _ _ xs ys hl h hs =>
   intro e' he
   rcases List.mem_cons.1 he with rfl | he
   ·rw [h.length,hl]
   ·exact ih hs e' he
theorem RDe.flatten {M:Mem} {sz:Nat} {es:List (List V)} {xs:List Value} (h:RDe M sz es xs):RDs M es.flatten xs:=by
 induction es generalizing xs with
 | nil=>cases h; exact .nil
 | cons e es ih =>
  cases h with
  | cons _ _ _ xs ys hl h hs=>simpa using h.append (ih hs)
theorem RDe.drop {M:Mem} {sz:Nat} {es:List (List V)} {xs:List Value} (h:RDe M sz es xs) (k:Nat):RDe M sz (es.drop k) (xs.drop (k * sz)):=by
 induction k generalizing es xs with
 | zero=>simpa using h
 | succ k ih =>
  cases h with
  | nil=>simpa using RDe.nil sz
  | cons _ e es xs ys hl h hs =>
   have:=ih hs
   have e1:(xs++ys).drop ((k+1) * sz)=ys.drop (k * sz):=by
    rw [show (k+1) * sz=sz+k * sz by rw [Nat.add_mul]; omega,← List.drop_drop,List.drop_left' hl]
   rw [e1]
   simpa using this
theorem RDe.take {M:Mem} {sz:Nat} {es:List (List V)} {xs:List Value} (h:RDe M sz es xs) (k:Nat):RDe M sz (es.take k) (xs.take (k * sz)):=by
 induction k generalizing es xs with
 | zero=>simpa using RDe.nil sz
 | succ k ih =>
  cases h with
  | nil=>simpa using RDe.nil sz
  | cons _ e es xs ys hl h hs =>
   have:=ih hs
   have e1:(xs++ys).take ((k+1) * sz)=xs++ys.take (k * sz):=by
    rw [Nat.add_mul,Nat.one_mul,Nat.add_comm,List.take_append,hl]
    simp [List.take_of_length_le (show xs.length≤sz+k * sz by omega)]
   rw [e1]
   simpa using RDe.cons sz e _ xs _ hl h this
theorem RDe.get {M:Mem} {sz:Nat} {es:List (List V)} {xs:List Value} (h:RDe M sz es xs):∀ {i:Nat} {e:List V},es[i]?=some e →
  RDs M e ((xs.drop (i * sz)).take sz)∧e.length=sz∧i * sz+sz≤xs.length:=by
 induction es generalizing xs with
 | nil=>intro i e he; simp at he
 | cons u es ih =>
  cases h with
  | cons _ _ _ xs ys hl h hs =>
   intro i e he
   cases i with
   | zero =>
    simp at he; subst he
    simp only [Nat.zero_mul,List.drop_zero,Nat.zero_add]
    rw [List.take_left' hl]
    exact ⟨h,by rw [h.length,hl],by simp [hl]⟩
   | succ i =>
    obtain ⟨h1,h2,h3⟩:=ih hs (by simpa using he)
    have e1:(i+1) * sz=sz+i * sz:=by rw [Nat.add_mul]; omega
    have e2:(xs++ys).drop ((i+1) * sz)=ys.drop (i * sz):=by rw [e1,← List.drop_drop,List.drop_left' hl]
    rw [e2]
    exact ⟨h1,h2,by simp [hl]; omega⟩
def fzx (sz:Nat):Nat:=if sz=1 then 0 else 1
def EntsR (g:G):Nat→List (V×V)→List MapEntry→Prop
 | _,[],[]=>True
 | i,(k,v) :: es,e :: xs=>RV g k e.key∧RV g v e.val∧e.born=i∧EntsR g (i+1) es xs
 | _,_,_=>False
def jumpC:Option (Option Nat)→Option Code
 | none=>none
 | some none=>some .ret
 | some (some i)=>some (.exit i)
def LoopR (g:G) (y:Nat) (fi:List V) (st:LoopState) (pd:Option (Option Nat)) (l:Loop):Prop :=
 ∃ yi,g.Y y=some yi∧yi.ok l.fn∧l.params=yi.params∧l.assign=yi.assign∧l.body=yi.body∧l.tmps.size=yi.nt∧l.state=st∧l.pending=jumpC pd ∧
  RVs g fi (yi.caps.map fun t=>l.tmps.getD t undef)
def ObjR (g:G) (w:World) (b:Nat):Obj→Prop
 | .cells n sz cs=>cs.length=n * sz∧∃ p,g.β b n=some p∧p.sz=sz∧n≤p.room ∧
   (0<p.room→g.M p.blk=none∧∃ arr e lo hi,w.heap[p.blk]?=some (.cells arr e (lo,hi))∧arr.size=p.room * sz∧(lo≤hi∧∀ i,i<arr.size+fzx sz→¬ (lo≤i∧i<hi))∧(∀ u∈arr.toList.take (n * sz),Value.oneCell' u=true)∧RVs g cs (arr.toList.take (n * sz)))
 | .map es=>∃ p,g.β b 0=some p∧g.M p.blk=none∧∃ ents clock,w.heap[p.blk]?=some (.map ents clock)∧clock=es.length∧EntsR g 0 es ents.toList
 | .loop y fi st pd=>∃ p,g.β b 0=some p∧g.M p.blk=none∧∃ l,w.heap[p.blk]?=some (.loop l)∧LoopR g y fi st pd l
 | .gone=>True
def atB (g:G) (b:Nat):Obj→Nat→Prop
 | .cells n _ _,blk=>∃ p,g.β b n=some p∧0<p.room∧p.blk=blk
 | .map _,blk | .loop ..,blk=>∃ p,g.β b 0=some p∧p.blk=blk
 | .gone,_=>False
def Live (g:G) (h:Heap) (blk:Nat):Prop:=∃ b o,h[b]?=some o∧atB g b o blk
structure Rep (g:G) (h:Heap) (w:World):Prop where
 mem:∀ blk arr,g.M blk=some arr→∃ e fz,w.heap[blk]?=some (.cells arr e fz)
 obj:∀ b o,h[b]?=some o→ObjR g w b o
 one:∀ b b' o o' blk,h[b]?=some o→h[b']?=some o'→atB g b o blk→atB g b' o' blk→b=b'
 old:∀ b n p,g.β b n=some p→b<h.length
 top:∀ b n sz cs m p,h[b]?=some (.cells n sz cs)→g.β b m=some p→m≤n
structure Frame (L:Nat→Prop) (w w':World):Prop where
 os:w'.os=w.os
 tape:w'.tape=w.tape
 output:w'.output=w.output
 size:w.heap.size≤w'.heap.size
 block:∀ i,i<w.heap.size→¬ L i→w'.heap[i]?=w.heap[i]?
theorem Frame.refl (L:Nat→Prop) (w:World):Frame L w w:=⟨rfl,rfl,rfl,Nat.le_refl _,fun _ _ _=>rfl⟩
theorem am_new (w:World) (o:Go.Obj):(w.alloc o).heap[w.heap.size]?=some o:=by
 show (w.heap.push o)[w.heap.size]?=some o
 simp
theorem am_old (w:World) (o:Go.Obj) (i:Nat) (h:i<w.heap.size):(w.alloc o).heap[i]?=w.heap[i]?:=by
 show (w.heap.push o)[i]?=w.heap[i]?
 rw [Array.getElem?_push_lt h,Array.getElem?_eq_getElem h]
theorem cell_blk {w:World} {blk:Nat} {arr:Array Value} {e:TypeId} {fz:Nat×Nat} (h:w.heap[blk]?=some (.cells arr e fz)) (i:Nat) :
  w.cell? ⟨blk,i,none⟩=arr[i]?:=by simp [World.cell?,h]
theorem add_none (b o n:Nat):(⟨b,o,none⟩:Addr).add n=⟨b,o+n,none⟩:=by
 unfold Addr.add
 split
 ·subst_vars; rfl
 ·rfl
theorem run_loadCells_blk {P:Program} {w:World} {blk off n:Nat} {arr:Array Value} {e:TypeId} {fz:Nat×Nat}
  (h:w.heap[blk]?=some (.cells arr e fz)) (hn:off+n≤arr.size) :
  (loadCells ⟨blk,off,none⟩ n).run P w = .ok ((arr.toList.drop off).take n).toArray w:=by
 have hl:((arr.toList.drop off).take n).length=n:=by simp; omega
 have:=run_loadCells_list (P:=P) w ⟨blk,off,none⟩ ((arr.toList.drop off).take n) (fun j v hj=>by
  rw [add_none,cell_blk h]
  simp only [List.getElem?_take,List.getElem?_drop] at hj
  split at hj
  ·simpa using hj
  ·cases hj)
 rwa [hl] at this
def aggB (P:Program) (t:TypeId):Option Bool :=
 match P.underlying t with
 | some (.struct _) | some (.array _ _)=>some true
 | some _=>some false
 | none=>none
def tyOk (P:Program) (t:TypeId) (size:Nat) (ag:Bool):Bool :=
 (match P.info? t with
  | some i=>i.size == size
  | none=>false)&&aggB P t == some ag
theorem tyOk_size {P:Program} {t size ag} (h:tyOk P t size ag=true):(P.info? t).map (·.size)=some size:=by
 simp only [tyOk,Bool.and_eq_true] at h
 cases hi:P.info? t <;> simp_all
theorem run_isAgg {P:Program} {t:TypeId} {ag:Bool} (h:aggB P t=some ag) (w:World):(isAgg t).run P w = .ok ag w:=by
 unfold aggB at h
 cases hu:P.underlying t with
 | none=>simp [hu] at h
 | some d =>
  rw [hu] at h
  simp only [isAgg,Sem.run_bind,run_underlying hu,Result.andThen_ok]
  cases d <;> simp_all
theorem run_sizeOf {P:Program} {t:TypeId} {n:Nat} (h:(P.info? t).map (·.size)=some n) (w:World):(sizeOf t).run P w = .ok n w:=by
 cases hi:P.info? t with
 | none=>simp [hi] at h
 | some i=>simp [hi] at h; simp [sizeOf,typeInfo,hi,h]
theorem run_loadVar_blk {P:Program} {w:World} {t:TypeId} {size:Nat} {ag:Bool} (ht:tyOk P t size ag=true) {blk off:Nat} {arr:Array Value} {e:TypeId} {fz:Nat×Nat}
  (h:w.heap[blk]?=some (.cells arr e fz)) (hn:off+size≤arr.size) (h1:ag=false→size=1) :
  ∃ v,(loadVar t ⟨blk,off,none⟩).run P w = .ok v w∧(if ag then v = .agg ((arr.toList.drop off).take size).toArray else arr.toList[off]?=some v):=by
 have hs:=tyOk_size ht
 have ha:aggB P t=some ag:=by simp only [tyOk,Bool.and_eq_true] at ht; simpa using ht.2
 cases ag with
 | true =>
  exact ⟨.agg ((arr.toList.drop off).take size).toArray,by simp [loadVar,run_isAgg ha,run_sizeOf hs,run_loadCells_blk h hn],by simp⟩
 | false =>
  obtain rfl:=h1 rfl
  have hlt:off<arr.size:=by omega
  refine ⟨arr[off],?_,by simp [hlt]⟩
  simp [loadVar,run_isAgg ha,cell_blk h,hlt]
structure Grow (g:G) (w:World) (g':G) (w':World):Prop where
 le:g.le g'
 beta:g'.β=g.β
 mem:∀ blk arr,g'.M blk=some arr→g.M blk=some arr∨(w.heap.size≤blk∧∃ e fz,w'.heap[blk]?=some (.cells arr e fz))
 fr:Frame (fun _=>False) w w'
theorem Grow.refl (g:G) (w:World):Grow g w g w:=⟨G.le_refl g,rfl,fun _ _ h => .inl h,Frame.refl _ _⟩
def PGood (P:Program) (g:G) (w:World) (s:Sem Next) (v:V):Prop :=
 ∃ vv w' g',s.run P w = .ok (.value vv) w'∧RV g' v vv∧Grow g w g' w'
theorem PGood.quiet {P:Program} {g:G} {w:World} {s:Sem Next} {v:V} {vv:Value} (h:s.run P w = .ok (.value vv) w) (hv:RV g v vv):PGood P g w s v :=
 ⟨vv,w,g,h,hv,Grow.refl g w⟩
theorem Grow.block (g:G) (w:World) (hM:∀ blk arr,g.M blk=some arr→blk<w.heap.size) (arr:Array Value) (e:TypeId) (fz:Nat×Nat) (n:Nat) :
  Grow g w { g with M:=fun b=>if b=w.heap.size then some arr else g.M b } { (w.alloc (.cells arr e fz)) with drawn:=n }:=by
 refine ⟨⟨fun b a h => ?_,fun _ _ _ h=>h,rfl⟩,rfl,fun blk a h => ?_,⟨rfl,rfl,rfl,by simp,fun i hi _=>am_old w _ i hi⟩⟩
 ·have:=hM b a h
  simp only
  rw [if_neg (by omega)]; exact h
 ·simp only at h
  split at h
  ·rename_i hb
   subst hb
   cases h
   exact .inr ⟨Nat.le_refl _,e,fz,am_new w _⟩
  ·exact .inl h
mutual
def constOk:V→Value→Bool
 | .bool b,.bool b'=>b == b'
 | .int k n,.int k' n'=>k == k'&&n == n'
 | .str s,.string s'=>s.data.toList == s'.data.toList
 | .nilp,.pointer none=>true
 | .nils,.slice none 0 0=>true
 | .nilm,.map none=>true
 | .nilf,.nilFunc=>true
 | .nili,.nilIface=>true
 | .agg cs,.agg cs'=>constOkL cs cs'.toList
 | .tup cs,.tuple cs'=>constOkL cs cs'.toList
 | _,_=>false
def constOkL:List V→List Value→Bool
 | [],[]=>true
 | v :: vs,x :: xs=>constOk v x&&constOkL vs xs
 | _,_=>false
end
theorem bytes_ext {a b:ByteArray} (h:a.data=b.data):a=b:=by
 cases a; cases b
 simp only at h
 rw [h]
mutual
theorem constOk_rd (M:Mem):∀ (v:V) (x:Value),constOk v x=true→RD M v x:=by
 intro v x h
 cases v <;> cases x <;> first
  | (simp [constOk] at h; done)
  | (simp [constOk] at h; subst h; constructor)
  | skip
 case int.int k n k' n'=>simp [constOk] at h; obtain ⟨rfl,rfl⟩:=h; constructor
 case str.string s s'=>simp [constOk] at h; rw [bytes_ext h]; constructor
 case nilp.pointer a=>cases a <;> simp [constOk] at h; constructor
 case nils.slice a n c =>
  unfold constOk at h
  split at h <;> simp_all
  constructor
 case nilm.map a=>cases a <;> simp [constOk] at h; constructor
 case nilf.nilFunc=>constructor
 case nili.nilIface=>constructor
 case agg.agg cs cs'=>simp only [constOk] at h; exact .agg _ _ (constOk_rds M cs cs'.toList h)
 case tup.tuple cs cs'=>simp only [constOk] at h; exact .tup _ _ (constOk_rds M cs cs'.toList h)
theorem constOk_rds (M:Mem):∀ (vs:List V) (xs:List Value),constOkL vs xs=true→RDs M vs xs:=by
 intro vs xs h
 cases vs with
 | nil=>cases xs with
  | nil=>exact .nil
  | cons x xs=>simp [constOkL] at h
 | cons v vs=>cases xs with
  | nil=>simp [constOkL] at h
  | cons x xs =>
   simp only [constOkL,Bool.and_eq_true] at h
   exact .cons _ _ _ _ (constOk_rd M v x h.1) (constOk_rds M vs xs h.2)
end
def sizeIs (P:Program) (t:TypeId) (n:Nat):Bool :=
 match P.info? t with
 | some i=>i.size == n
 | none=>false
theorem sizeIs_map {P:Program} {t n} (h:sizeIs P t n=true):(P.info? t).map (·.size)=some n:=by
 unfold sizeIs at h
 cases hi:P.info? t <;> simp_all
def zeroIs (P:Program) (t:TypeId) (zero:V):Bool :=
 match P.info? t with
 | some i=>match i.zero with
  | some z=>constOk zero z
  | none=>false
 | none=>false
def zeroCellsIs (P:Program) (t:TypeId) (zero:List V):Bool :=
 match P.info? t with
 | some i=>match i.zero with
  | some z=>constOkL zero z.cells.toList
  | none=>false
 | none=>false
def fieldIs (P:Program) (t:TypeId) (fi off:Nat):Option TypeId :=
 match P.underlying t with
 | some (.struct fs)=>match fs[fi]? with
  | some fd=>if fd.offset=off then some fd.type else none
  | none=>none
 | _=>none
def okL (okO:Operand→Opd→Bool):List Operand→List Opd→Bool
 | [],[]=>true
 | x :: xs,y :: ys=>okO x y&&okL okO xs ys
 | _,_=>false
def okM (okO:Operand→Opd→Bool):Option Operand→Option Opd→Bool
 | none,none=>true
 | some x,some y=>okO x y
 | _,_=>false
def okParts (P:Program) (okO:Operand→Opd→Bool) (t:TypeId):List (Nat×Operand)→List (Nat×Nat×Opd)→Bool
 | [],[]=>true
 | (i,x) :: xs,(off,size,y) :: ys =>
  (match fieldIs P t i off with
   | some ft=>sizeIs P ft size
   | none=>false)&&okO x y&&okParts P okO t xs ys
 | _,_=>false
def okPartsA (okO:Operand→Opd→Bool) (sz:Nat):List (Nat×Operand)→List (Nat×Nat×Opd)→Bool
 | [],[]=>true
 | (i,x) :: xs,(off,size,y) :: ys=>off == i * sz&&size == sz&&okO x y&&okPartsA okO sz xs ys
 | _,_=>false
def okPartsS (okO:Operand→Opd→Bool):List (Nat×Operand)→List (Nat×Opd)→Bool
 | [],[]=>true
 | (i,x) :: xs,(j,y) :: ys=>i == j&&okO x y&&okPartsS okO xs ys
 | _,_=>false
def isConst:Operand→Bool
 | .const _=>true
 | _=>false
def nkOk (P:Program) (t:TypeId):NK→Bool
 | .ptr=>match P.underlying t with | some (.pointer _)=>true | _=>false
 | .slice=>match P.underlying t with | some (.slice _)=>true | _=>false
 | .map=>match P.underlying t with | some (.map _ _)=>true | _=>false
 | .func=>match P.underlying t with | some (.func _ _ _)=>true | _=>false
 | .iface=>match P.underlying t with | some (.interface _)=>true | _=>false
def leafTy (P:Program) (k:LK) (t:TypeId):Bool :=
 match P.underlying t,k with
 | some (.int _),.int | some .string,.str | some .bool,.bool=>true
 | some (.pointer e),.ptr=>(match P.info? e with | some i=>i.size != 0 | none=>false)
 | _,_=>false
def flatOk (P:Program):Nat→List Field→List LK→Bool
 | _,[],[]=>true
 | i,f :: fs,k :: ks=>f.name != "_" && f.offset == i&&leafTy P k f.type&&flatOk P (i+1) fs ks
 | _,_,_=>false
def flatStruct (P:Program) (ks:List LK) (t:TypeId):Bool :=
 match P.underlying t with
 | some (.struct fs) => !P.stoodInHeld t&&flatOk P 0 fs.toList ks
 | _=>false
def keyTy (P:Program) (st:Bool) (ks:List LK) (t:TypeId):Bool :=
 if st then flatStruct P ks t else match ks with
  | [k]=>leafTy P k t
  | _=>false
def chkP (P:Program) (okO:Operand→Opd→Bool):Op→POp→Bool
 | .move x,.mov y=>okO x y
 | .assign x,.mov y=>okO x y
 | .convert s d x,.mov y=>okO x y&&(match P.underlying s,P.underlying d,x with | some .string,some .string,.const (.string _)=>true | _,_,_=>false)
 | .pick c a b,.pick c' a' b'=>okO c c'&&okO a a'&&okO b b'
 | .field t x fi,.part y off size ag=>okO x y&&(match fieldIs P t fi off with | some ft=>tyOk P ft size ag | none=>false)
 | .fieldAddr t x fi,.fadr y off=>okO x y&&(match fieldIs P t fi off with | some ft=>(match P.info? ft with | some i=>i.size != 0 | none=>false) | none=>false)
 | .indexAddr t x i,.iadr y j sz=>okO x y&&okO i j&&(match P.underlying t with | some (.slice e)=>sizeIs P e sz | _=>false)
 | .indexAddr t x i,.iadrA y j n sz=>okO x y&&okO i j&&(match P.underlying t with | some (.array n' e)=>n' == n&&sizeIs P e sz | _=>false)
 | .index t x i,.index y j=>okO x y&&okO i j&&(match P.underlying t with | some .string=>true | _=>false)
 | .slice t x lo hi mx,.slc y lo' hi' mx' str sz=>okO x y&&okM okO lo lo'&&okM okO hi hi'&&okM okO mx mx' &&
   (match P.underlying t with | some .string=>mx.isNone&&str | some (.slice e)=>sizeIs P e sz && !str | _=>false)
 | .binOp op t x y _,.bin op' x' y'=>op == op'&&okO x x'&&okO y y'
 | .binOp op t x y _,.eqb neg x' y'=>(op == if neg then .neq else .eql)&&okO x x'&&okO y y'&&(match P.underlying t with | some .bool=>true | _=>false)
 | .binOp op t x y _,.eqn neg k x' y'=>(op == if neg then .neq else .eql)&&okO x x'&&okO y y'&&nkOk P t k&&(isConst x||isConst y)
 | .binOp op t x y _,.eqa neg n x' y'=>(op == if neg then .neq else .eql)&&okO x x'&&okO y y' &&
   (match P.underlying t with | some (.array n' e)=>n' == n&&sizeIs P e 1&&aggB P e == some false&&(match P.underlying e with | some (.int _)=>true | _=>false) | _=>false)&&P.eqGuardType P.depth t == false
 | .unOp .not t x,.not y=>okO x y
 | .unOp .neg t x,.neg y=>okO x y
 | .unOp .xor t x,.cpl y=>okO x y
 | .convert s d x,.conv k y=>okO x y&&(P.underlying s).isSome&&(match P.underlying d with | some (.int k')=>k' == k | _=>false)
 | .nilCheck x,.nchk y=>okO x y
 | .build t ps,.build zero ps'=>zeroCellsIs P t zero&&(match P.underlying t with
   | some (.struct fs)=>okParts P okO t ps.toList ps'&&fs.all (fun f=>(P.info? f.type).isSome)
   | some (.array _ e)=>(match P.info? e with | some i=>okPartsA okO i.size ps.toList ps' | none=>false)
   | _=>false)
 | .buildSlice t n ps,.bsl n' sz zero ps'=>n == n'&&decide (n * sz≤2 ^ 24)&&okPartsS okO ps.toList ps'&&zero.length == sz &&
   (match P.underlying t with | some (.slice e)=>sizeIs P e sz&&zeroCellsIs P e zero | _=>false)
 | .makeFunc fn fi ca,.mkf fn' fi' ca'=>decide (fn=fn')&&okL okO fi.toList fi'&&okL okO ca.toList ca'
 | .makeInterface t x,.mki t' y=>t == t'&&okO x y&&(match P.underlying t with | some (.interface _)=>false | some _=>true | none=>false)
 | .typeAssert x xt at_ ok,.tas y t ok' zero=>at_ == t&&ok == ok'&&okO x y&&zeroIs P at_ zero&&(match P.underlying at_ with | some (.interface _)=>false | some _=>true | none=>false)
 | .extract x i,.ext y j=>i == j&&okO x y
 | .call ⟨.builtin .len,args,ts⟩,.lenS str y=>(match args.toList,ts.toList with
   | [x],[t]=>okO x y&&(match P.underlying t with | some .string=>str | some (.slice _) => !str | _=>false)
   | _,_=>false)
 | .call ⟨.builtin .max,args,ts⟩,.maxI x' y'=>(match args.toList with | [x,y]=>okO x x'&&okO y y' | _=>false)
 | .call ⟨.builtin .min,args,ts⟩,.minI x' y'=>(match args.toList with | [x,y]=>okO x x'&&okO y y' | _=>false)
 | .convert s d x,.s2b y=>okO x y&&(match P.underlying s,P.underlying d with | some .string,some (.slice e)=>(match P.underlying e with | some (.int .u8)=>true | _=>false) | _,_=>false)
 | .makeSlice t l c,.mkz l' c' sz bytes zero=>okO l l'&&okO c c'&&(match P.underlying t with
   | some (.slice e)=>sizeIs P e sz&&(match P.info? e with | some i=>i.bytes == bytes | none=>false)&&zeroCellsIs P e zero&&zero.all isCell
   | _=>false)
 | .load t a,.ldp a' size ag=>okO a a'&&tyOk P t size ag
 | .buildSlice t n ps,.bsv n' sz zero ps'=>n == n'&&decide (n * sz≤2 ^ 24)&&okPartsS okO ps.toList ps'&&zero.length == sz &&
   (match P.underlying t with | some (.slice e)=>sizeIs P e sz&&zeroCellsIs P e zero | _=>false)
 | .binOp op t x y _,.eqs neg ks x' y'=>(op == if neg then .neq else .eql)&&okO x x'&&okO y y'&&flatStruct P ks t&&P.eqGuardType P.depth t == false
 | _,_=>false
section
variable {P:Program} {g:G} {w:World} {okO:Operand→Opd→Bool} {f:Opd→V} {ρ:Operand→Value}
theorem okL_rvs (hρ:∀ x y,okO x y=true→RV g (f y) (ρ x)):∀ (xs:List Operand) (ys:List Opd),okL okO xs ys=true→RVs g (ys.map f) (xs.map ρ)
 | [],[],_ => .nil
 | x :: xs,y :: ys,h=>by
  simp only [okL,Bool.and_eq_true] at h
  exact .cons _ _ _ _ (hρ _ _ h.1) (okL_rvs hρ xs ys h.2)
 | [],y :: ys,h=>by simp [okL] at h
 | x :: xs,[],h=>by simp [okL] at h
theorem zeroIs_rv {t:TypeId} {zero:V} (h:zeroIs P t zero=true):∃ z,(∀ w,(zeroValue t).run P w = .ok z w)∧RV g zero z:=by
 unfold zeroIs at h
 cases hi:P.info? t with
 | none=>simp [hi] at h
 | some i =>
  cases hz:i.zero with
  | none=>simp [hi,hz] at h
  | some z =>
   simp only [hi,hz] at h
   exact ⟨z,fun w=>by simp [zeroValue,typeInfo,hi,hz],.d _ _ (constOk_rd _ _ _ h)⟩
theorem zeroCellsIs_rvs {t:TypeId} {zero:List V} (h:zeroCellsIs P t zero=true):∃ z,(∀ w,(zeroValue t).run P w = .ok z w)∧RDs g.M zero z.cells.toList:=by
 unfold zeroCellsIs at h
 cases hi:P.info? t with
 | none=>simp [hi] at h
 | some i =>
  cases hz:i.zero with
  | none=>simp [hi,hz] at h
  | some z =>
   simp only [hi,hz] at h
   exact ⟨z,fun w=>by simp [zeroValue,typeInfo,hi,hz],constOk_rds _ _ _ h⟩
theorem RV.cells {v:V} {x:Value} (h:RV g v x) (hc:(cellsV v).all isCell=true):RVs g (cellsV v) x.cells.toList∧∀ u∈x.cells.toList,u.oneCell'=true:=by
 have one:∀ {v:V} {x:Value},RV g v x→isCell v=true→x.oneCell'=true∧x.cells = #[x]:=by
  intro v x h hc
  cases h with
  | d _ _ h=>cases h <;> first | (simp [isCell] at hc; done) | exact ⟨rfl,rfl⟩
  | agg _ _ _=>simp [isCell] at hc
  | tup _ _ _=>simp [isCell] at hc
  | _=>exact ⟨rfl,rfl⟩
 cases v with
 | agg cs =>
  obtain ⟨cs',rfl,hs⟩:=h.agg_inv
  simp only [cellsV] at hc ⊢
  refine ⟨hs,?_⟩
  simp only [Value.cells]
  have:∀ (vs:List V) (xs:List Value),RVs g vs xs→vs.all isCell=true→∀ u∈xs,u.oneCell'=true:=by
   intro vs
   induction vs with
   | nil=>intro xs h _; cases h; simp
   | cons v vs ih =>
    intro xs h hc
    cases h with
    | cons _ _ x xs h hs =>
     simp only [List.all_cons,Bool.and_eq_true] at hc
     intro u hu
     rcases List.mem_cons.1 hu with rfl | hu
     ·exact (one h hc.1).1
     ·exact ih _ hs hc.2 u hu
  exact this _ _ hs hc
 | _ =>
  simp only [cellsV,List.all_cons,List.all_nil,Bool.and_true] at hc ⊢
  obtain ⟨h1,h2⟩:=one h hc
  rw [h2]
  exact ⟨.cons _ _ _ _ h .nil,by simpa using h1⟩
theorem RVs.getD {vs:List V} {xs:List Value} (h:RVs g vs xs) (i:Nat) (hi:i<vs.length):∃ x,xs[i]?=some x∧RV g vs[i] x:=by
 exact h.get (List.getElem?_eq_getElem hi)
theorem mkV_rv {ag:Bool} {cs:List V} {v:V} {xs:List Value} (hs:RVs g cs xs) (h:mkV ag cs=some v) (x:Value)
  (hx:if ag then x = .agg xs.toArray else xs[0]?=some x):RV g v x:=by
 unfold mkV at h
 cases ag with
 | true =>
  simp only [if_true,Option.some.injEq] at h hx
  subst h hx
  exact .agg _ _ (by simpa using hs)
 | false =>
  simp only [Bool.false_eq_true,if_false] at h hx
  split at h
  ·cases h
   cases hs with
   | cons _ _ y ys h1 h2=>simp at hx; subst hx; exact h1
  ·cases h
theorem mkV_one {ag:Bool} {cs:List V} {v:V} (h:mkV ag cs=some v):ag=false→cs.length=1:=by
 intro ha
 subst ha
 simp only [mkV,Bool.false_eq_true,if_false] at h
 split at h
 ·rfl
 ·cases h
theorem run_part {ft:TypeId} {size off:Nat} {ag:Bool} (ht:tyOk P ft size ag=true) {cs:List V} {cs':Array Value} (hs:RVs g cs cs'.toList) {v:V}
  (hle:off+size≤cs.length) (h:mkV ag ((cs.drop off).take size)=some v):∃ x,(part ft cs' off).run P w = .ok x w∧RV g v x:=by
 have hsz:=tyOk_size ht
 have ha:aggB P ft=some ag:=by simp only [tyOk,Bool.and_eq_true] at ht; simpa using ht.2
 have hlen:=hs.length
 have hpart:RVs g ((cs.drop off).take size) ((cs'.toList.drop off).take size):=(hs.drop off).take size
 cases ag with
 | true =>
  refine ⟨.agg (cs'.extract off (off+size)),by simp [part,run_isAgg ha,run_sizeOf hsz],?_⟩
  refine mkV_rv hpart h _ ?_
  simp only [if_true]
  congr 1
  apply Array.toList_inj.1
  simp [Array.toList_extract,List.take_drop]
 | false =>
  have h1:=mkV_one h rfl
  simp at h1
  have hsz1:size=1:=by omega
  subst hsz1
  have hlt:off<cs'.size:=by simp at hlen; omega
  refine ⟨cs'[off],by simp [part,run_isAgg ha,hlt],?_⟩
  refine mkV_rv hpart h _ ?_
  simp [hlt]
end
section
variable {P:Program} {g:G} {w:World} {okO:Operand→Opd→Bool} {f:Opd→V} {ρ:Operand→Value} {o:Oper} {v:V}
theorem pop_mov (hρ:∀ x y,okO x y=true→RV g (f y) (ρ x)) (hk:∀ c,ρ (.const c)=c) {y:Opd} (hc:chkP P okO o.op (.mov y)=true) (hv:popV f (.mov y)=some v):PGood P g w (execOp ρ o) v:=by
 simp only [popV,Option.some.injEq] at hv
 subst hv
 cases ho:o.op <;> simp [chkP,ho] at hc
 case move x=>exact .quiet (by simp [execOp,ho]) (hρ _ _ hc)
 case assign x=>exact .quiet (by simp [execOp,ho]) (hρ _ _ hc)
 case convert s d x =>
  obtain ⟨h1,h2⟩:=hc
  split at h2
  ·rename_i s' hs hd
   refine .quiet (vv:=.string s') ?_ ?_
   ·simp [execOp,ho,convert,run_underlying hs,run_underlying hd,hk]
   ·have:=hρ _ _ h1
    rwa [hk] at this
  ·cases h2
theorem pop_pick (hρ:∀ x y,okO x y=true→RV g (f y) (ρ x)) {c a b:Opd} (hc:chkP P okO o.op (.pick c a b)=true) (hv:popV f (.pick c a b)=some v):PGood P g w (execOp ρ o) v:=by
 cases ho:o.op <;> simp [chkP,ho] at hc
 case pick c' a' b' =>
  obtain ⟨⟨h1,h2⟩,h3⟩:=hc
  simp only [popV] at hv
  split at hv
  ·rename_i t ht
   cases hv
   have hb:=(ht ▸ hρ _ _ h1).bool_inv
   refine .quiet (vv:=if t then ρ a' else ρ b') (by simp [execOp,ho,hb,asBool]) ?_
   cases t
   ·exact hρ _ _ h3
   ·exact hρ _ _ h2
  ·cases hv
theorem fieldIs_run {t:TypeId} {fi off:Nat} {ft:TypeId} (h:fieldIs P t fi off=some ft) :
  ∃ fs fd,P.underlying t=some (.struct fs)∧fs[fi]?=some fd∧fd.offset=off∧fd.type=ft:=by
 unfold fieldIs at h
 split at h
 ·rename_i fs hu
  split at h
  ·rename_i fd hf
   split at h
   ·rename_i ho
    exact ⟨fs,fd,hu,hf,ho,by simpa using h⟩
   ·cases h
  ·cases h
 ·cases h
theorem pop_part (hρ:∀ x y,okO x y=true→RV g (f y) (ρ x)) {y:Opd} {off size:Nat} {ag:Bool} (hc:chkP P okO o.op (.part y off size ag)=true) (hv:popV f (.part y off size ag)=some v):PGood P g w (execOp ρ o) v:=by
 cases ho:o.op <;> simp [chkP,ho] at hc
 case field t x fi =>
  obtain ⟨h1,h2⟩:=hc
  split at h2
  ·rename_i ft hft
   obtain ⟨fs,fd,hu,hf,hoff,hty⟩:=fieldIs_run hft
   subst hoff hty
   simp only [popV,partV] at hv
   split at hv
   ·rename_i cs hcs
    split at hv
    ·rename_i hle
     obtain ⟨cs',hx,hs⟩:=(hcs ▸ hρ _ _ h1).agg_inv
     obtain ⟨u,hr,hu'⟩:=run_part (w:=w) h2 hs hle hv
     exact .quiet (vv:=u) (by simp [execOp,ho,hx,Instr.field,run_underlying hu,hf,asAgg,hr]) hu'
    ·cases hv
   ·cases hv
  ·cases h2
theorem pop_fadr (hρ:∀ x y,okO x y=true→RV g (f y) (ρ x)) {y:Opd} {off:Nat} (hc:chkP P okO o.op (.fadr y off)=true) (hv:popV f (.fadr y off)=some v):PGood P g w (execOp ρ o) v:=by
 cases ho:o.op <;> simp [chkP,ho] at hc
 case fieldAddr t x fi =>
  obtain ⟨h1,h2⟩:=hc
  split at h2
  ·rename_i ft hft
   obtain ⟨fs,fd,hu,hf,hoff,hty⟩:=fieldIs_run hft
   subst hoff hty
   cases hi:P.info? fd.type with
   | none=>simp [hi] at h2
   | some i =>
    simp only [hi,bne_iff_ne,ne_eq] at h2
    simp only [popV] at hv
    split at hv
    ·rename_i b o' gen hy
     cases hv
     obtain ⟨p,hp,hx⟩:=(hy ▸ hρ _ _ h1).ref_inv
     refine .quiet (vv:=.pointer (some ⟨p.blk,o'+fd.offset,none⟩)) ?_ (.ref _ _ _ p hp)
     simp [execOp,ho,hx,Instr.fieldAt,run_underlying hu,hf,Instr.sureAddr,fieldPlace,sizeOf,typeInfo,hi,h2,add_none]
    ·rename_i cs hy
     split at hv
     ·rename_i hle
      cases hv
      obtain ⟨ab,ao,arr,xs,hxx,hM,hx,hr⟩:=(hy ▸ hρ _ _ h1).pv_inv
      refine .quiet (vv:=.pointer (some ⟨ab,ao+fd.offset,none⟩)) ?_ ?_
      ·simp [execOp,ho,hxx,Instr.fieldAt,run_underlying hu,hf,Instr.sureAddr,fieldPlace,sizeOf,typeInfo,hi,h2,add_none]
      ·have hlen:=hr.length
       refine .d _ _ (.pv _ (xs.drop fd.offset) _ arr rfl hM ?_ (hr.drop _))
       have:=congrArg List.length hx
       simp at this
       have hz:arr.toList.length=arr.size:=Array.length_toList
       rw [hx]
       simp only [List.drop_take,List.drop_drop,List.length_take,List.length_drop]
       congr 1
       omega
     ·cases hv
    ·cases hv
  ·cases h2
theorem pop_iadr (hρ:∀ x y,okO x y=true→RV g (f y) (ρ x)) {y j:Opd} {sz:Nat} (hc:chkP P okO o.op (.iadr y j sz)=true) (hv:popV f (.iadr y j sz)=some v):PGood P g w (execOp ρ o) v:=by
 cases ho:o.op <;> simp [chkP,ho] at hc
 case indexAddr t x i =>
  obtain ⟨⟨h1,h2⟩,h3⟩:=hc
  split at h3
  ·rename_i e hu
   have hsz:=sizeIs_map h3
   simp only [popV] at hv
   split at hv
   ·rename_i es ex k n hy hj
    have hi:=(hj ▸ hρ _ _ h2).int_inv
    split at hv
    ·rename_i h0
     split at hv
     ·rename_i el hel
      split at hv
      ·rename_i hlen
       cases hv
       obtain ⟨a,cap,sz',xs,hxx,hcap,he,hr,hone,hp⟩:=(hy ▸ hρ _ _ h1).sv_inv
       have hlt:n.toNat<es.length:=(List.getElem?_eq_some_iff.1 hel).1
       obtain ⟨ab,ao,arr,ha,hM,hxs⟩:=hp (by omega)
       subst ha
       obtain ⟨r1,r2,r3⟩:=hr.get hel
       have hss:sz'=sz:=by omega
       subst hss
       refine .quiet (vv:=.pointer (some ⟨ab,ao+n.toNat * sz',none⟩)) ?_ ?_
       ·have hn:n<(es.length:Int):=by omega
        simp [execOp,ho,hxx,hi,Instr.indexAt,asIntOf,run_underlying hu,h0,hn,run_sizeOf hsz,add_none]
       ·refine .d _ _ (.pv _ ((xs.drop (n.toNat * sz')).take sz') _ arr rfl hM ?_ r1)
        have hlx:((xs.drop (n.toNat * sz')).take sz').length=sz':=by simp; omega
        rw [hlx]
        have:=congrArg List.length hxs
        simp at this
        rw [hxs]
        simp only [List.drop_take,List.drop_drop,List.take_take]
        congr 1
        omega
      ·cases hv
     ·cases hv
    ·cases hv
   ·rename_i b off len gen sz' ex k n hy hj
    have hi:=(hj ▸ hρ _ _ h2).int_inv
    split at hv
    ·rename_i h0
     obtain ⟨h0,hlt,rfl⟩:=h0
     cases hv
     obtain ⟨p,a,cap,hxx,hp,hps,hle,hcap,he,hcr,ha⟩:=(hy ▸ hρ _ _ h1).sl_inv
     obtain rfl:=ha (by omega)
     refine .quiet (vv:=.pointer (some ⟨p.blk,(off+n.toNat) * sz',none⟩)) ?_ (.ref _ _ _ p hp)
     simp [execOp,ho,hxx,hi,Instr.indexAt,asIntOf,run_underlying hu,h0,hlt,run_sizeOf hsz,add_none,Nat.add_mul]
    ·cases hv
   ·cases hv
  ·cases h3
theorem pop_iadrA (hρ:∀ x y,okO x y=true→RV g (f y) (ρ x)) {y j:Opd} {n sz:Nat} (hc:chkP P okO o.op (.iadrA y j n sz)=true) (hv:popV f (.iadrA y j n sz)=some v):PGood P g w (execOp ρ o) v:=by
 cases ho:o.op <;> simp [chkP,ho] at hc
 case indexAddr t x i =>
  obtain ⟨⟨h1,h2⟩,h3⟩:=hc
  split at h3
  ·rename_i n' e hu
   simp only [Bool.and_eq_true,beq_iff_eq] at h3
   obtain ⟨rfl,h3⟩:=h3
   have hsz:=sizeIs_map h3
   simp only [popV] at hv
   split at hv
   ·rename_i b off gen k m hy hj
    have hi:=(hj ▸ hρ _ _ h2).int_inv
    split at hv
    ·rename_i h0
     obtain ⟨h0,hm,h1n⟩:=h0
     cases hv
     obtain ⟨p,hp,hx⟩:=(hy ▸ hρ _ _ h1).ref_inv
     refine .quiet (vv:=.pointer (some ⟨p.blk,off+m.toNat * sz,none⟩)) ?_ (.ref _ _ _ p hp)
     simp [execOp,ho,hx,hi,Instr.indexAt,asIntOf,run_underlying hu,Instr.sureAddr,h0,hm,run_sizeOf hsz,add_none]
    ·cases hv
   ·rename_i cs k m hy hj
    have hi:=(hj ▸ hρ _ _ h2).int_inv
    split at hv
    ·rename_i h0
     obtain ⟨h0,hm,h1n,hle⟩:=h0
     cases hv
     obtain ⟨ab,ao,arr,xs,hxx,hM,hx,hr⟩:=(hy ▸ hρ _ _ h1).pv_inv
     have hlen:=hr.length
     refine .quiet (vv:=.pointer (some ⟨ab,ao+m.toNat * sz,none⟩)) ?_ ?_
     ·simp [execOp,ho,hxx,hi,Instr.indexAt,asIntOf,run_underlying hu,Instr.sureAddr,h0,hm,run_sizeOf hsz,add_none]
     ·refine .d _ _ (.pv _ (xs.drop (m.toNat * sz)) _ arr rfl hM ?_ (hr.drop _))
      have:=congrArg List.length hx
      simp at this
      have hz:arr.toList.length=arr.size:=Array.length_toList
      rw [hx]
      simp only [List.drop_take,List.drop_drop,List.length_take,List.length_drop]
      congr 1
      omega
    ·cases hv
   ·cases hv
  ·cases h3
theorem pop_index (hρ:∀ x y,okO x y=true→RV g (f y) (ρ x)) {y j:Opd} (hc:chkP P okO o.op (.index y j)=true) (hv:popV f (.index y j)=some v):PGood P g w (execOp ρ o) v:=by
 cases ho:o.op <;> simp [chkP,ho] at hc
 case index t x i =>
  obtain ⟨⟨h1,h2⟩,h3⟩:=hc
  split at h3
  ·rename_i hu
   simp only [popV] at hv
   split at hv
   ·rename_i s k n hy hj
    have hi:=(hj ▸ hρ _ _ h2).int_inv
    have hx:=(hy ▸ hρ _ _ h1).str_inv
    split at hv
    ·rename_i h0
     split at hv
     ·rename_i b hb
      cases hv
      exact .quiet (vv:=.int .u8 b.toNat) (by simp [execOp,ho,hx,hi,Instr.index,asIntOf,run_underlying hu,h0,hb]) (.d _ _ (.int _ _))
     ·cases hv
    ·cases hv
   ·cases hv
  ·cases h3
theorem okM_rv (hρ:∀ x y,okO x y=true→RV g (f y) (ρ x)) {x:Option Operand} {y:Option Opd} (h:okM okO x y=true) :
  (x=none∧y=none)∨∃ a b,x=some a∧y=some b∧RV g (f b) (ρ a):=by
 cases x <;> cases y <;> simp [okM] at h
 ·exact .inl ⟨rfl,rfl⟩
 ·exact .inr ⟨_,_,rfl,rfl,hρ _ _ h⟩
theorem optInt_rv {x:Option Value} {y:Option V} {r:Option Int} (h:(x=none∧y=none)∨∃ a b,x=some a∧y=some b∧RV g b a) (hr:optInt y=some r) :
  (x=none∧r=none)∨∃ k n,x=some (.int k n)∧r=some n:=by
 rcases h with ⟨rfl,rfl⟩ | ⟨a,b,rfl,rfl,hv⟩
 ·simp [optInt] at hr; exact .inl ⟨rfl,hr.symm⟩
 ·unfold optInt at hr
  split at hr
  ·rename_i e; cases e
  ·rename_i e
   cases e
   obtain rfl:=hv.int_inv
   exact .inr ⟨_,_,rfl,by simpa using hr.symm⟩
  ·cases hr
theorem run_sliceBound {k:IntKind} {n:Int} {y:Nat} {code:BoundsCode} (h0:0≤n) (h1:n≤y):(Instr.sliceBound (.int k n) y code).run P w = .ok n.toNat w:=by
 simp [Instr.sliceBound,asIntOf,h0,h1]
theorem run_bnds {isS:Bool} {len cap:Nat} (hcap:len≤cap) {lo hi mx:Option Value} {lo' hi' mx':Option V} {l h:Nat} {m:Bool}
  (hl:(lo=none∧lo'=none)∨∃ a b,lo=some a∧lo'=some b∧RV g b a)
  (hh:(hi=none∧hi'=none)∨∃ a b,hi=some a∧hi'=some b∧RV g b a)
  (hm:(mx=none∧mx'=none)∨∃ a b,mx=some a∧mx'=some b∧RV g b a)
  (hb:bnds len lo' hi' mx'=some (l,h,m)) :
  (Instr.sliceBounds isS len cap lo hi mx).run P w = .ok (l,h,if m then h else cap) w∧l≤h∧h≤len:=by
 unfold bnds at hb
 split at hb
 ·rename_i lr hr mr e1 e2 e3
  dsimp only at hb
  split at hb
  ·rename_i hc
   simp only [Option.some.injEq,Prod.mk.injEq] at hb
   obtain ⟨rfl,rfl,rfl⟩:=hb
   obtain ⟨c1,c2,c3,c4⟩:=hc
   rcases optInt_rv hl e1 with ⟨rfl,rfl⟩ | ⟨k1,n1,rfl,rfl⟩ <;> rcases optInt_rv hh e2 with ⟨rfl,rfl⟩ | ⟨k2,n2,rfl,rfl⟩ <;>
    rcases optInt_rv hm e3 with ⟨rfl,rfl⟩ | ⟨k3,n3,rfl,rfl⟩ <;>
    simp only [Option.getD_some,Option.getD_none,reduceCtorEq,false_or,or_false,true_or,Option.some.injEq,ne_eq,not_false_eq_true,and_true,not_true_eq_false,and_false,false_and] at c1 c2 c3 c4
   ·simp [Instr.sliceBounds]
   ·have h2:n2≤(cap:Int):=by omega
    simp [Instr.sliceBounds,run_sliceBound c2 h2]; omega
   ·subst c4
    have h2:n3≤(cap:Int):=by omega
    have h3:n3≤(n3.toNat:Int):=by omega
    simp [Instr.sliceBounds,run_sliceBound c2 h2,run_sliceBound c2 h3]; omega
   ·have h2:n1≤(len:Int):=by omega
    simp [Instr.sliceBounds,run_sliceBound c1 h2]; omega
   ·have h2:n2≤(cap:Int):=by omega
    have h1:n1≤(n2.toNat:Int):=by omega
    have h0:0≤n2:=by omega
    simp [Instr.sliceBounds,run_sliceBound h0 h2,run_sliceBound c1 h1]; omega
   ·subst c4
    have h2:n3≤(cap:Int):=by omega
    have h1:n1≤(n3.toNat:Int):=by omega
    have h0:0≤n3:=by omega
    have h3:n3≤(n3.toNat:Int):=by omega
    simp [Instr.sliceBounds,run_sliceBound h0 h2,run_sliceBound h0 h3,run_sliceBound c1 h1]; omega
  ·cases hb
 ·cases hb
theorem pop_slc (hρ:∀ x y,okO x y=true→RV g (f y) (ρ x)) {y:Opd} {lo hi mx:Option Opd} {str:Bool} {sz:Nat} (hc:chkP P okO o.op (.slc y lo hi mx str sz)=true) (hv:popV f (.slc y lo hi mx str sz)=some v):PGood P g w (execOp ρ o) v:=by
 cases ho:o.op <;> simp [chkP,ho] at hc
 case slice t x lo' hi' mx' =>
  obtain ⟨⟨⟨⟨h1,h2⟩,h3⟩,h4⟩,h5⟩:=hc
  have conv:∀ {a:Option Operand} {b:Option Opd},okM okO a b=true→(a.map ρ=none∧b.map f=none)∨∃ c d,a.map ρ=some c∧b.map f=some d∧RV g d c:=by
   intro a b h
   rcases okM_rv hρ h with ⟨rfl,rfl⟩ | ⟨c,d,rfl,rfl,hv⟩
   ·exact .inl ⟨rfl,rfl⟩
   ·exact .inr ⟨_,_,rfl,rfl,hv⟩
  have b2:=conv h2
  have b3:=conv h3
  have b4:=conv h4
  have hx:=hρ _ _ h1
  simp only [popV] at hv
  unfold slcV at hv
  split at hv
  ·rename_i s hs
   split at hv
   ·rename_i l h hb
    split at hv
    ·rename_i hstr
     subst hstr
     cases hv
     rw [hs] at hx
     have hx:=hx.str_inv
     split at h5
     ·rename_i hu
      simp only [Bool.and_eq_true,Option.isNone_iff_eq_none,and_true] at h5
      subst h5
      obtain ⟨hr,hle,hle2⟩:=run_bnds (P:=P) (w:=w) (isS:=false) (Nat.le_refl s.size) b2 b3 b4 hb
      refine .quiet (vv:=.string (s.extract l h)) ?_ (.d _ _ (.str _))
      simp only [Option.map_none] at hr
      simp [execOp,ho,Instr.sliceAt,run_underlying hu,Instr.slice,hx,hr]
     ·simp at h5
     ·cases h5
    ·cases hv
   ·cases hv
  ·rename_i es ex hs
   split at hv
   ·rename_i l h m hb
    split at hv
    ·rename_i hstr
     simp only [Bool.and_eq_true,Bool.not_eq_true'] at hstr
     obtain ⟨rfl,hhd⟩:=hstr
     cases hv
     rw [hs] at hx
     obtain ⟨a,cap,sz',xs,hxx,hcap,he,hr,hone,hp⟩:=hx.sv_inv
     obtain ⟨hrn,hle,hle2⟩:=run_bnds (P:=P) (w:=w) (isS:=true) hcap b2 b3 b4 hb
     split at h5
     ·simp at h5
     ·rename_i e hu
      simp only [Bool.not_false,Bool.and_true] at h5
      have hsz:=sizeIs_map h5
      have hrun:(execOp ρ o).run P w = .ok (.value (.slice (if (if m then h else cap)=l then a else a.map (·.add (l * sz))) (h - l) ((if m then h else cap) - l))) w:=by
       simp [execOp,ho,Instr.sliceAt,run_underlying hu,Instr.slice,hxx,hrn,run_sizeOf hsz]
      refine .quiet hrun (.d _ _ ?_)
      have hlen:((es.take h).drop l).length=h - l:=by simp; omega
      have hss:0<es.length→sz'=sz:=by
       intro h0
       cases es with
       | nil=>simp at h0
       | cons e0 es =>
        have:=hr.elem e0 (by simp)
        simp [headSz] at hhd
        omega
      refine .sv _ _ _ _ _ hlen ?_ ?_ ?_ sz' ((xs.take (h * sz')).drop (l * sz')) ?_ (fun u hu=>hone u (List.mem_of_mem_take (List.mem_of_mem_drop hu))) ((hr.take h).drop l)
      ·cases m <;> simp <;> omega
      ·intro hex
       cases m with
       | true=>simp
       | false =>
        simp only [Bool.false_or,Bool.and_eq_true,beq_iff_eq] at hex
        have:=he hex.1
        simp; omega
      ·intro hpos
       obtain ⟨blk,off,arr,ha,hM,hxs⟩:=hp (by omega)
       subst ha
       by_cases hcl:(if m then h else cap)=l
       ·exfalso
        cases m <;> simp at hcl <;> omega
       ·rw [if_neg hcl]
        exact ⟨⟨blk,off+l * sz,none⟩,arr,by simp [add_none],rfl,hM⟩
      ·intro ad arr' hpos had hM'
       obtain ⟨blk,off,arr,ha,hM,hxs⟩:=hp (by omega)
       subst ha
       have hcl:¬ (if m then h else cap)=l:=by
        intro hcl
        cases m <;> simp at hcl <;> omega
       rw [if_neg hcl] at had
       simp only [Option.map_some,Option.some.injEq,add_none] at had
       subst had
       simp only at hM'
       rw [hM] at hM'
       obtain rfl:=Option.some.inj hM'
       have hss:=hss (by omega)
       subst hss
       have hxl:=hr.length
       have:=congrArg List.length hxs
       simp at this
       have hz:arr.toList.length=arr.size:=Array.length_toList
       have e1:h * sz'≤xs.length:=by rw [hxl]; exact Nat.mul_le_mul_right _ hle2
       have e2:l * sz'≤h * sz':=Nat.mul_le_mul_right _ hle
       have e3:((xs.take (h * sz')).drop (l * sz')).length=h * sz' - l * sz':=by simp; omega
       rw [e3]
       conv=>lhs; rw [hxs]
       simp only [List.drop_take,List.drop_drop,List.take_take]
       congr 1
       omega
     ·cases h5
    ·cases hv
   ·cases hv
  ·rename_i hs
   split at hv
   ·rename_i r hb
    split at hv
    ·cases hv
    ·rename_i hstr
     cases hv
     rw [hs] at hx
     have hxx:=hx.nils_inv
     obtain ⟨l,h,m⟩:=r
     obtain ⟨hrn,hle,hle2⟩:=run_bnds (P:=P) (w:=w) (isS:=true) (Nat.le_refl 0) b2 b3 b4 hb
     obtain rfl:h=0:=by omega
     obtain rfl:l=0:=by omega
     split at h5
     ·simp [hstr] at h5
     ·rename_i e hu
      simp only [Bool.and_eq_true] at h5
      have hsz:=sizeIs_map h5.1
      refine .quiet (vv:=.slice none 0 0) ?_ (.d _ _ .nils)
      cases m <;> simp [execOp,ho,Instr.sliceAt,run_underlying hu,Instr.slice,hxx,hrn,run_sizeOf hsz]
     ·cases h5
   ·cases hv
  ·rename_i b off len gen sz' ex hs
   split at hv
   ·rename_i l h m hb
    split at hv
    ·rename_i hstr
     simp only [Bool.and_eq_true,Bool.not_eq_true',beq_iff_eq] at hstr
     obtain ⟨rfl,rfl⟩:=hstr
     cases hv
     rw [hs] at hx
     obtain ⟨p,a,cap,hxx,hp,hps,hle0,hcap,he,hcr,ha⟩:=hx.sl_inv
     obtain ⟨hrn,hle,hle2⟩:=run_bnds (P:=P) (w:=w) (isS:=true) hcap b2 b3 b4 hb
     split at h5
     ·simp at h5
     ·rename_i e hu
      simp only [Bool.not_false,Bool.and_true] at h5
      have hsz:=sizeIs_map h5
      have hrun:(execOp ρ o).run P w = .ok (.value (.slice (if (if m then h else cap)=l then a else a.map (·.add (l * sz'))) (h - l) ((if m then h else cap) - l))) w:=by
       simp [execOp,ho,Instr.sliceAt,run_underlying hu,Instr.slice,hxx,hrn,run_sizeOf hsz]
      refine .quiet hrun (.sl _ _ _ _ _ _ p _ _ hp hps (by omega) ?_ ?_ ?_ ?_)
      ·cases m <;> simp <;> omega
      ·intro hex
       cases m with
       | true=>simp
       | false =>
        simp only [Bool.false_or,Bool.and_eq_true,beq_iff_eq] at hex
        have:=he hex.1
        simp; omega
      ·cases m <;> simp <;> omega
      ·intro hpos
       have hcl:¬ (if m then h else cap)=l:=by omega
       have hcp:0<cap:=by cases m <;> simp at hpos <;> omega
       rw [if_neg hcl,ha hcp]
       simp [add_none,Nat.add_mul]
     ·cases h5
    ·cases hv
   ·cases hv
  ·cases hv
end
section
variable {P:Program} {g:G} {w:World} {okO:Operand→Opd→Bool} {f:Opd→V} {ρ:Operand→Value} {o:Oper} {v:V}
theorem run_eqGuard_int {op:BinOp} {t:TypeId} {x y:Operand} {k k':IntKind} {a b:Int}:(eqGuard op t x y (.int k a) (.int k' b)).run P w = .ok () w:=by
 unfold eqGuard
 simp only [Sem.run_bind]
 cases op <;> simp
theorem run_eqGuard_str {op:BinOp} {t:TypeId} {x y:Operand} {a b:ByteArray}:(eqGuard op t x y (.string a) (.string b)).run P w = .ok () w:=by
 unfold eqGuard
 simp only [Sem.run_bind]
 cases op <;> simp
theorem run_eqGuard_bool {op:BinOp} {t:TypeId} {x y:Operand} {a b:Bool}:(eqGuard op t x y (.bool a) (.bool b)).run P w = .ok () w:=by
 unfold eqGuard
 simp only [Sem.run_bind]
 cases op <;> simp
theorem intBin_run {op:BinOp} {t:TypeId} {k:IntKind} {a b:Int} {v:V} (h:intBin op k a b=some v) (hs:op ≠ .shl) (hr:op ≠ .shr) :
  ∃ x,(binOp op t (.int k a) (.int k b)).run P w = .ok x w∧RV g v x:=by
 cases op <;> simp [intBin] at h <;> (try (simp at hs; done)) <;> (try (simp at hr; done))
 case quo=>obtain ⟨hb,rfl⟩:=h; exact ⟨.int k (k.wrap (a.tdiv b)),by simp [binOp,Op.intDiv,hb],.d _ _ (.int _ _)⟩
 case rem=>obtain ⟨hb,rfl⟩:=h; exact ⟨.int k (a.tmod b),by simp [binOp,Op.intDiv,hb],.d _ _ (.int _ _)⟩
 all_goals
  subst h
  refine ⟨_,?_,.d _ _ (by constructor)⟩
  simp [binOp,Op.intArith,Op.intBits,Op.intCmp]
theorem pop_bin (hρ:∀ x y,okO x y=true→RV g (f y) (ρ x)) {op:BinOp} {x' y':Opd} (hc:chkP P okO o.op (.bin op x' y')=true) (hv:popV f (.bin op x' y')=some v):PGood P g w (execOp ρ o) v:=by
 cases ho:o.op <;> simp [chkP,ho] at hc
 case binOp op' t x y yt =>
  obtain ⟨⟨rfl,h1⟩,h2⟩:=hc
  simp only [popV] at hv
  unfold binV at hv
  split at hv
  ·rename_i k a k' b hx hy
   have ex:=(hx ▸ hρ _ _ h1).int_inv
   have ey:=(hy ▸ hρ _ _ h2).int_inv
   split at hv
   ·simp only [shiftV] at hv
    split at hv
    ·cases hv
    ·rename_i hb
     cases hv
     exact .quiet (by simp [execOp,ho,ex,ey,run_eqGuard_int,binOp,Op.shift,hb]) (.d _ _ (.int _ _))
   ·simp only [shiftV] at hv
    split at hv
    ·cases hv
    ·rename_i hb
     cases hv
     exact .quiet (by simp [execOp,ho,ex,ey,run_eqGuard_int,binOp,Op.shift,hb]) (.d _ _ (.int _ _))
   ·rename_i n1 n2
    split at hv
    ·rename_i hk
     subst hk
     obtain ⟨u,hu,hr⟩:=intBin_run (P:=P) (g:=g) (w:=w) (t:=t) hv (fun h=>n1 h) (fun h=>n2 h)
     exact .quiet (by simp [execOp,ho,ex,ey,run_eqGuard_int,hu]) hr
    ·cases hv
  ·rename_i a b hx hy
   have ex:=(hx ▸ hρ _ _ h1).str_inv
   have ey:=(hy ▸ hρ _ _ h2).str_inv
   unfold strBin at hv
   split at hv
   ·cases hv
    exact .quiet (by simp [execOp,ho,ex,ey,run_eqGuard_str,binOp,Op.stringOp]) (.d _ _ (.bool _))
   ·cases hv
    exact .quiet (by simp [execOp,ho,ex,ey,run_eqGuard_str,binOp,Op.stringOp]) (.d _ _ (.bool _))
   ·cases hv
  ·cases hv
theorem pop_eqb (hρ:∀ x y,okO x y=true→RV g (f y) (ρ x)) {neg:Bool} {x' y':Opd} (hc:chkP P okO o.op (.eqb neg x' y')=true) (hv:popV f (.eqb neg x' y')=some v):PGood P g w (execOp ρ o) v:=by
 cases ho:o.op <;> simp [chkP,ho] at hc
 case binOp op t x y yt =>
  obtain ⟨⟨⟨rfl,h1⟩,h2⟩,h3⟩:=hc
  split at h3
  ·rename_i hu
   simp only [popV] at hv
   split at hv
   ·rename_i a b hx hy
    cases hv
    have ex:=(hx ▸ hρ _ _ h1).bool_inv
    have ey:=(hy ▸ hρ _ _ h2).bool_inv
    refine .quiet (vv:=.bool ((a == b) != neg)) ?_ (.d _ _ (.bool _))
    cases neg
    ·simp [execOp,ho,ex,ey,run_eqGuard_bool,run_eql_bool _ _ _ _ hu]
    ·simp [execOp,ho,ex,ey,run_eqGuard_bool,run_neq_bool _ _ _ _ hu]
   ·cases hv
  ·cases h3
theorem pop_not (hρ:∀ x y,okO x y=true→RV g (f y) (ρ x)) {y:Opd} (hc:chkP P okO o.op (.not y)=true) (hv:popV f (.not y)=some v):PGood P g w (execOp ρ o) v:=by
 cases ho:o.op <;> simp [chkP,ho] at hc
 case unOp u t x =>
  cases u <;> simp [chkP] at hc
  simp only [popV] at hv
  split at hv
  ·rename_i b hx
   cases hv
   have ex:=(hx ▸ hρ _ _ hc).bool_inv
   exact .quiet (vv:=.bool !b) (by simp [execOp,ho,ex,Op.unary]) (.d _ _ (.bool _))
  ·cases hv
theorem pop_neg (hρ:∀ x y,okO x y=true→RV g (f y) (ρ x)) {y:Opd} (hc:chkP P okO o.op (.neg y)=true) (hv:popV f (.neg y)=some v):PGood P g w (execOp ρ o) v:=by
 cases ho:o.op <;> simp [chkP,ho] at hc
 case unOp u t x =>
  cases u <;> simp [chkP] at hc
  simp only [popV] at hv
  split at hv
  ·rename_i k n hx
   cases hv
   have ex:=(hx ▸ hρ _ _ hc).int_inv
   exact .quiet (by simp [execOp,ho,ex,Op.unary,Op.intArith]) (.d _ _ (.int _ _))
  ·cases hv
theorem pop_cpl (hρ:∀ x y,okO x y=true→RV g (f y) (ρ x)) {y:Opd} (hc:chkP P okO o.op (.cpl y)=true) (hv:popV f (.cpl y)=some v):PGood P g w (execOp ρ o) v:=by
 cases ho:o.op <;> simp [chkP,ho] at hc
 case unOp u t x =>
  cases u <;> simp [chkP] at hc
  simp only [popV] at hv
  split at hv
  ·rename_i k n hx
   simp only [intBin,Option.some.injEq] at hv
   subst hv
   have ex:=(hx ▸ hρ _ _ hc).int_inv
   exact .quiet (by simp [execOp,ho,ex,Op.unary,Op.intBits]) (.d _ _ (.int _ _))
  ·cases hv
theorem pop_conv (hρ:∀ x y,okO x y=true→RV g (f y) (ρ x)) {k:IntKind} {y:Opd} (hc:chkP P okO o.op (.conv k y)=true) (hv:popV f (.conv k y)=some v):PGood P g w (execOp ρ o) v:=by
 cases ho:o.op <;> simp [chkP,ho] at hc
 case convert s d x =>
  obtain ⟨⟨h1,h2⟩,h3⟩:=hc
  split at h3
  ·rename_i k' hu
   simp at h3
   subst h3
   obtain ⟨ds,hs⟩:=Option.isSome_iff_exists.1 h2
   simp only [popV] at hv
   split at hv
   ·rename_i k0 n hx
    cases hv
    have ex:=(hx ▸ hρ _ _ h1).int_inv
    exact .quiet (by simp [execOp,ho,ex,convert,run_underlying hu,run_underlying hs,Conv.intToInt]) (.d _ _ (.int _ _))
   ·cases hv
  ·cases h3
theorem pop_nchk (hρ:∀ x y,okO x y=true→RV g (f y) (ρ x)) {y:Opd} (hc:chkP P okO o.op (.nchk y)=true) (hv:popV f (.nchk y)=some v):PGood P g w (execOp ρ o) v:=by
 cases ho:o.op <;> simp [chkP,ho] at hc
 case nilCheck x =>
  simp only [popV] at hv
  have hx:=hρ _ _ hc
  split at hv
  ·rename_i b off gen hy
   cases hv
   rw [hy] at hx
   obtain ⟨p,hp,ex⟩:=hx.ref_inv
   rw [ex] at hx
   exact .quiet (by simp [execOp,ho,ex]) hx
  ·rename_i cs hy
   cases hv
   rw [hy] at hx
   obtain ⟨blk,off,arr,xs,ex,_⟩:=hx.pv_inv
   rw [ex] at hx
   exact .quiet (by simp [execOp,ho,ex]) hx
  ·rename_i t u hy
   cases hv
   rw [hy] at hx
   obtain ⟨u',ex,_⟩:=hx.iface_inv
   rw [ex] at hx
   exact .quiet (by simp [execOp,ho,ex]) hx
  ·rename_i n fi ca hy
   cases hv
   rw [hy] at hx
   obtain ⟨a,b,ex,_⟩:=hx.func_inv
   rw [ex] at hx
   exact .quiet (by simp [execOp,ho,ex]) hx
  ·cases hv
theorem pop_mkf (hρ:∀ x y,okO x y=true→RV g (f y) (ρ x)) {fn:Fn} {fi ca:List Opd} (hc:chkP P okO o.op (.mkf fn fi ca)=true) (hv:popV f (.mkf fn fi ca)=some v):PGood P g w (execOp ρ o) v:=by
 cases ho:o.op <;> simp [chkP,ho] at hc
 case makeFunc fn' fi' ca' =>
  obtain ⟨⟨rfl,h1⟩,h2⟩:=hc
  simp only [popV,Option.some.injEq] at hv
  subst hv
  exact .quiet (vv:=.func fn' (fi'.map ρ) (ca'.map ρ)) (by simp [execOp,ho,Instr.makeFunc]) (.func _ _ _ _ _ (by simpa using okL_rvs hρ _ _ h1) (by simpa using okL_rvs hρ _ _ h2))
theorem pop_mki (hρ:∀ x y,okO x y=true→RV g (f y) (ρ x)) {t:Nat} {y:Opd} (hc:chkP P okO o.op (.mki t y)=true) (hv:popV f (.mki t y)=some v):PGood P g w (execOp ρ o) v:=by
 cases ho:o.op <;> simp [chkP,ho] at hc
 case makeInterface t' x =>
  obtain ⟨⟨rfl,h1⟩,h2⟩:=hc
  simp only [popV,Option.some.injEq] at hv
  subst hv
  cases hu:P.underlying t' with
  | none=>simp [hu] at h2
  | some d =>
   refine .quiet (vv:=.iface t' (ρ x)) ?_ (.iface _ _ _ (hρ _ _ h1))
   simp only [hu] at h2
   simp only [execOp,ho,Instr.makeInterface,Sem.run_bind,run_underlying hu,Result.andThen_ok]
   cases d <;> simp at h2 <;> simp
theorem pop_tas (hρ:∀ x y,okO x y=true→RV g (f y) (ρ x)) {y:Opd} {t:Nat} {ok:Bool} {zero:V} (hc:chkP P okO o.op (.tas y t ok zero)=true) (hv:popV f (.tas y t ok zero)=some v):PGood P g w (execOp ρ o) v:=by
 cases ho:o.op <;> simp [chkP,ho] at hc
 case typeAssert x xt at_ ok' =>
  obtain ⟨⟨⟨⟨rfl,rfl⟩,h1⟩,h2⟩,h3⟩:=hc
  cases hu:P.underlying at_ with
  | none=>simp [hu] at h3
  | some d =>
   obtain ⟨z,hz,hzr⟩:=zeroIs_rv (g:=g) h2
   have hx:=hρ _ _ h1
   simp only [popV] at hv
   simp only [hu] at h3
   split at hv
   ·rename_i hy
    rw [hy] at hx
    have ex:=hx.nili_inv
    split at hv
    ·rename_i hok
     subst hok
     cases hv
     refine .quiet (vv:=.tuple #[z,.bool false]) ?_ (.tup _ _ (.cons _ _ _ _ hzr (.cons _ _ _ _ (.d _ _ (.bool _)) .nil)))
     simp only [execOp,ho,ex,Instr.typeAssert,Sem.run_bind,run_underlying hu,Result.andThen_ok]
     cases d <;> simp at h3 <;> simp [hz]
    ·cases hv
   ·rename_i u v' hy
    rw [hy] at hx
    obtain ⟨x',ex,hx'⟩:=hx.iface_inv
    split at hv
    ·rename_i hut
     subst hut
     cases hv
     cases ok' with
     | true =>
      refine .quiet (vv:=.tuple #[x',.bool true]) ?_ (.tup _ _ (.cons _ _ _ _ hx' (.cons _ _ _ _ (.d _ _ (.bool _)) .nil)))
      simp only [execOp,ho,ex,Instr.typeAssert,Sem.run_bind,run_underlying hu,Result.andThen_ok]
      cases d <;> simp at h3 <;> simp
     | false =>
      refine .quiet (vv:=x') ?_ (by simpa using hx')
      simp only [execOp,ho,ex,Instr.typeAssert,Sem.run_bind,run_underlying hu,Result.andThen_ok]
      cases d <;> simp at h3 <;> simp
    ·rename_i hut
     split at hv
     ·rename_i hok
      subst hok
      cases hv
      refine .quiet (vv:=.tuple #[z,.bool false]) ?_ (.tup _ _ (.cons _ _ _ _ hzr (.cons _ _ _ _ (.d _ _ (.bool _)) .nil)))
      simp only [execOp,ho,ex,Instr.typeAssert,Sem.run_bind,run_underlying hu,Result.andThen_ok]
      cases d <;> simp at h3 <;> simp [hz,hut]
     ·cases hv
   ·cases hv
theorem pop_ext (hρ:∀ x y,okO x y=true→RV g (f y) (ρ x)) {y:Opd} {i:Nat} (hc:chkP P okO o.op (.ext y i)=true) (hv:popV f (.ext y i)=some v):PGood P g w (execOp ρ o) v:=by
 cases ho:o.op <;> simp [chkP,ho] at hc
 case extract x j =>
  obtain ⟨rfl,h1⟩:=hc
  simp only [popV] at hv
  split at hv
  ·rename_i vs hy
   obtain ⟨vs',ex,hs⟩:=(hy ▸ hρ _ _ h1).tup_inv
   obtain ⟨u,hu,hr⟩:=hs.get hv
   refine .quiet (vv:=u) ?_ hr
   have:vs'[j]?=some u:=by simpa using hu
   simp [execOp,ho,ex,Instr.extract,this]
  ·cases hv
theorem pop_lenS (hρ:∀ x y,okO x y=true→RV g (f y) (ρ x)) {str:Bool} {y:Opd} (hc:chkP P okO o.op (.lenS str y)=true) (hv:popV f (.lenS str y)=some v):PGood P g w (execOp ρ o) v:=by
 cases ho:o.op <;> simp [chkP,ho] at hc
 case call c =>
  obtain ⟨cal,args,ts⟩:=c
  cases cal <;> first | (simp [chkP] at hc; done) | skip
  rename_i b
  cases b <;> first | (simp [chkP] at hc; done) | skip
  simp only [chkP] at hc
  split at hc
  ·rename_i x t hargs hts
   simp only [Bool.and_eq_true] at hc
   obtain ⟨h1,h2⟩:=hc
   have ha:args = #[x]:=by apply Array.toList_inj.1; simpa using hargs
   have ht:ts = #[t]:=by apply Array.toList_inj.1; simpa using hts
   subst ha ht
   have hx:=hρ _ _ h1
   have hrun:(execOp ρ o).run P w=((Builtin.len_ #[t] o.type #[ρ x]).run P w).andThen fun v w' => .ok (.value v) w':=by
    simp [execOp,ho,resolve,invoke,builtin]
   have key:∃ n:Nat,(Builtin.len_ #[t] o.type #[ρ x]).run P w = .ok (goInt n) w∧v = .int .i64 n:=by
    simp only [popV] at hv
    split at hv
    ·rename_i s hy
     rw [hy] at hx
     have ex:=hx.str_inv
     split at hv
     ·rename_i hstr
      cases hv
      subst hstr
      split at h2
      ·rename_i hu
       exact ⟨s.size,by simp [Builtin.len_,run_underlying hu,ex],rfl⟩
      ·simp at h2
      ·cases h2
     ·cases hv
    ·rename_i hy
     rw [hy] at hx
     split at hv
     ·cases hv
     ·rename_i hstr
      cases hv
      split at h2
      ·exact absurd h2 hstr
      ·rename_i e hu
       have ex:=hx.nils_inv
       exact ⟨0,by simp [Builtin.len_,run_underlying hu,ex],rfl⟩
      ·cases h2
    ·rename_i hy
     rw [hy] at hx
     split at hv
     ·cases hv
     ·rename_i hstr
      cases hv
      split at h2
      ·exact absurd h2 hstr
      ·rename_i e hu
       obtain ⟨a,cap,sz',xs,ex,_⟩:=hx.sv_inv
       exact ⟨_,by simp [Builtin.len_,run_underlying hu,ex],rfl⟩
      ·cases h2
    ·rename_i hy
     rw [hy] at hx
     split at hv
     ·cases hv
     ·rename_i hstr
      cases hv
      split at h2
      ·exact absurd h2 hstr
      ·rename_i e hu
       obtain ⟨p,a,cap,ex,_⟩:=hx.sl_inv
       exact ⟨_,by simp [Builtin.len_,run_underlying hu,ex],rfl⟩
      ·cases h2
    ·cases hv
   obtain ⟨n,hr,rfl⟩:=key
   exact .quiet (vv:=.int .i64 n) (by rw [hrun,hr]; rfl) (.d _ _ (.int _ _))
  ·cases hc
theorem pop_maxI (hρ:∀ x y,okO x y=true→RV g (f y) (ρ x)) {x' y':Opd} (hc:chkP P okO o.op (.maxI x' y')=true) (hv:popV f (.maxI x' y')=some v):PGood P g w (execOp ρ o) v:=by
 cases ho:o.op <;> simp [chkP,ho] at hc
 case call c =>
  obtain ⟨cal,args,ts⟩:=c
  cases cal <;> first | (simp [chkP] at hc; done) | skip
  rename_i b
  cases b <;> first | (simp [chkP] at hc; done) | skip
  simp only [chkP] at hc
  split at hc
  ·rename_i x y hargs
   simp only [Bool.and_eq_true] at hc
   have ha:args = #[x,y]:=by apply Array.toList_inj.1; simpa using hargs
   subst ha
   simp only [popV] at hv
   split at hv
   ·rename_i a b hx hy
    cases hv
    have ex:=(hx ▸ hρ _ _ hc.1).int_inv
    have ey:=(hy ▸ hρ _ _ hc.2).int_inv
    refine .quiet (vv:=.int .i64 (if a<b then b else a)) ?_ (.d _ _ (.int _ _))
    simp [execOp,ho,resolve,invoke,builtin,ex,ey,run_max_int2]
   ·cases hv
  ·cases hc
theorem pop_minI (hρ:∀ x y,okO x y=true→RV g (f y) (ρ x)) {x' y':Opd} (hc:chkP P okO o.op (.minI x' y')=true) (hv:popV f (.minI x' y')=some v):PGood P g w (execOp ρ o) v:=by
 cases ho:o.op <;> simp [chkP,ho] at hc
 case call c =>
  obtain ⟨cal,args,ts⟩:=c
  cases cal <;> first | (simp [chkP] at hc; done) | skip
  rename_i b
  cases b <;> first | (simp [chkP] at hc; done) | skip
  simp only [chkP] at hc
  split at hc
  ·rename_i x y hargs
   simp only [Bool.and_eq_true] at hc
   have ha:args = #[x,y]:=by apply Array.toList_inj.1; simpa using hargs
   subst ha
   simp only [popV] at hv
   split at hv
   ·rename_i a b hx hy
    cases hv
    have ex:=(hx ▸ hρ _ _ hc.1).int_inv
    have ey:=(hy ▸ hρ _ _ hc.2).int_inv
    refine .quiet (vv:=.int .i64 (if b<a then b else a)) ?_ (.d _ _ (.int _ _))
    simp [execOp,ho,resolve,invoke,builtin,ex,ey,run_min_int2]
   ·cases hv
  ·cases hc
theorem eqv_run {op:BinOp} {neg:Bool} {t:TypeId} {x y:Value} {b:Bool} (hop:op=if neg then .neq else .eql) (h:(Op.equal t x y).run P w = .ok b w)
  (hbin:binOp .eql t x y=(do pure (.bool (← Op.equal t x y)))∧binOp .neq t x y=(do pure (.bool (!(← Op.equal t x y))))) :
  (binOp op t x y).run P w = .ok (.bool (b != neg)) w:=by
 subst hop
 cases neg
 ·simp only [Bool.false_eq_true,if_false]
  rw [hbin.1]
  simp [h]
 ·simp only [if_true]
  rw [hbin.2]
  simp [h]
theorem isNilV_rv {k:NK} {u:V} {b:Bool} {x:Value} (h:isNilV k u=some b) (hx:RV g u x) :
  (k = .ptr∧(b=true∧x = .pointer none∨b=false∧∃ a,x = .pointer (some a))) ∨
  (k = .slice∧b=true∧x = .slice none 0 0) ∨
  (k = .map∧(b=true∧x = .map none∨b=false∧∃ a,x = .map (some a))) ∨
  (k = .func∧(b=true∧x = .nilFunc∨b=false∧∃ a c d,x = .func a c d)) ∨
  (k = .iface∧(b=true∧x = .nilIface∨b=false∧∃ a c,x = .iface a c)):=by
 cases k <;> cases u <;> simp [isNilV] at h <;> subst h
 ·exact .inl ⟨rfl,.inl ⟨rfl,hx.nilp_inv⟩⟩
 ·obtain ⟨p,_,e⟩:=hx.ref_inv; exact .inl ⟨rfl,.inr ⟨rfl,_,e⟩⟩
 ·obtain ⟨_,_,_,_,e,_⟩:=hx.pv_inv; exact .inl ⟨rfl,.inr ⟨rfl,_,e⟩⟩
 ·exact .inr (.inl ⟨rfl,rfl,hx.nils_inv⟩)
 ·exact .inr (.inr (.inl ⟨rfl,.inl ⟨rfl,hx.nilm_inv⟩⟩))
 ·obtain ⟨p,e,_⟩:=hx.map_inv; exact .inr (.inr (.inl ⟨rfl,.inr ⟨rfl,_,e⟩⟩))
 ·exact .inr (.inr (.inr (.inl ⟨rfl,.inl ⟨rfl,hx.nilf_inv⟩⟩)))
 ·obtain ⟨_,_,e,_⟩:=hx.func_inv; exact .inr (.inr (.inr (.inl ⟨rfl,.inr ⟨rfl,_,_,_,e⟩⟩)))
 ·exact .inr (.inr (.inr (.inr ⟨rfl,.inl ⟨rfl,hx.nili_inv⟩⟩)))
 ·obtain ⟨_,e,_⟩:=hx.iface_inv; exact .inr (.inr (.inr (.inr ⟨rfl,.inr ⟨rfl,_,_,e⟩⟩)))
theorem nil_equalIn (d:Nat) {k:NK} {t:TypeId} (hk:nkOk P t k=true) {u v':V} {a b:Bool} {x y:Value} (hu:isNilV k u=some a) (hv:isNilV k v'=some b) (hx:RV g u x) (hy:RV g v' y)
  (hab:a=true∨b=true):(Op.equalIn (d+1) t x y).run P w = .ok (a&&b) w∧(binOp .eql t x y=(do pure (.bool (← Op.equal t x y)))∧binOp .neq t x y=(do pure (.bool (!(← Op.equal t x y))))):=by
 rcases isNilV_rv hu hx with ⟨rfl,h1⟩ | ⟨rfl,h1⟩ | ⟨rfl,h1⟩ | ⟨rfl,h1⟩ | ⟨rfl,h1⟩ <;>
  rcases isNilV_rv hv hy with ⟨hk2,h2⟩ | ⟨hk2,h2⟩ | ⟨hk2,h2⟩ | ⟨hk2,h2⟩ | ⟨hk2,h2⟩ <;> (try (cases hk2; done)) <;> simp only [nkOk] at hk <;> split at hk <;> (try (cases hk; done))
 all_goals rename_i hu'
 ·rcases h1 with ⟨rfl,rfl⟩ | ⟨rfl,p,rfl⟩ <;> rcases h2 with ⟨rfl,rfl⟩ | ⟨rfl,q,rfl⟩ <;> (try (simp at hab; done)) <;>
   exact ⟨by simp [Op.equalIn,run_underlying hu'],rfl,rfl⟩
 ·obtain ⟨rfl,rfl⟩:=h1
  obtain ⟨rfl,rfl⟩:=h2
  exact ⟨by simp [Op.equalIn,run_underlying hu'],rfl,rfl⟩
 ·rcases h1 with ⟨rfl,rfl⟩ | ⟨rfl,p,rfl⟩ <;> rcases h2 with ⟨rfl,rfl⟩ | ⟨rfl,q,rfl⟩ <;> (try (simp at hab; done)) <;>
   exact ⟨by simp [Op.equalIn,run_underlying hu'],rfl,rfl⟩
 ·rcases h1 with ⟨rfl,rfl⟩ | ⟨rfl,p,p',p'',rfl⟩ <;> rcases h2 with ⟨rfl,rfl⟩ | ⟨rfl,q,q',q'',rfl⟩ <;> (try (simp at hab; done)) <;>
   exact ⟨by simp [Op.equalIn,run_underlying hu'],rfl,rfl⟩
 ·rcases h1 with ⟨rfl,rfl⟩ | ⟨rfl,p,p',rfl⟩ <;> rcases h2 with ⟨rfl,rfl⟩ | ⟨rfl,q,q',rfl⟩ <;> (try (simp at hab; done)) <;>
   exact ⟨by simp [Op.equalIn,run_underlying hu'],rfl,rfl⟩
theorem nil_equal {k:NK} {t:TypeId} (hk:nkOk P t k=true) {u v':V} {a b:Bool} {x y:Value} (hu:isNilV k u=some a) (hv:isNilV k v'=some b) (hx:RV g u x) (hy:RV g v' y)
  (hab:a=true∨b=true):(Op.equal t x y).run P w = .ok (a&&b) w∧(binOp .eql t x y=(do pure (.bool (← Op.equal t x y)))∧binOp .neq t x y=(do pure (.bool (!(← Op.equal t x y))))) :=
 nil_equalIn 9999 hk hu hv hx hy hab
theorem run_eqGuard_nil {op:BinOp} {t:TypeId} {x y:Operand} {a b:Value} (hc:isConst x=true∨isConst y=true) (h:∀ cs,a ≠ .agg cs):(eqGuard op t x y a b).run P w = .ok () w:=by
 have hq:∀ z:Operand,isConst z=true→∃ c,z = .const c:=by
  intro z hz
  cases z <;> simp [isConst] at hz
  exact ⟨_,rfl⟩
 unfold eqGuard
 cases op <;> cases a <;> cases b <;> simp
 all_goals first
  | (exact absurd rfl (h _))
  | (rcases hc with hc | hc <;> obtain ⟨c,rfl⟩:=hq _ hc <;> simp)
theorem pop_eqn (hρ:∀ x y,okO x y=true→RV g (f y) (ρ x)) {neg:Bool} {k:NK} {x' y':Opd} (hc:chkP P okO o.op (.eqn neg k x' y')=true) (hv:popV f (.eqn neg k x' y')=some v):PGood P g w (execOp ρ o) v:=by
 cases ho:o.op <;> simp [chkP,ho] at hc
 case binOp op t x y yt =>
  obtain ⟨⟨⟨⟨hop,h1⟩,h2⟩,h3⟩,h4⟩:=hc
  simp only [popV] at hv
  have key:∀ a b,isNilV k (f x')=some a→isNilV k (f y')=some b→(a=true∨b=true)→PGood P g w (execOp ρ o) (.bool ((a&&b) != neg)):=by
   intro a b ha hb hab
   obtain ⟨e1,e2⟩:=nil_equal (w:=w) h3 ha hb (hρ _ _ h1) (hρ _ _ h2) hab
   refine .quiet (vv:=.bool ((a&&b) != neg)) ?_ (.d _ _ (.bool _))
   have hg:(eqGuard op t x y (ρ x) (ρ y)).run P w = .ok () w:=by
    refine run_eqGuard_nil (by simpa using h4) ?_
    intro cs hcs
    rcases isNilV_rv ha (hρ _ _ h1) with ⟨_,h⟩ | ⟨_,h⟩ | ⟨_,h⟩ | ⟨_,h⟩ | ⟨_,h⟩ <;> rw [hcs] at h <;> simp at h
   simp [execOp,ho,hg,eqv_run hop e1 e2]
  split at hv
  ·rename_i t' ha hb
   cases hv
   have:=key _ _ ha hb (.inl rfl)
   simpa using this
  ·rename_i t' hn ha hb
   cases hv
   have:=key _ _ ha hb (.inr rfl)
   simpa using this
  ·cases hv
end
section
variable {P:Program} {g:G} {w:World} {okO:Operand→Opd→Bool} {f:Opd→V} {ρ:Operand→Value} {o:Oper} {v:V}
theorem run_part_one {e:TypeId} (he:aggB P e=some false) {xs:Array Value} {i:Nat} {x:Value} (hx:xs.toList[i]?=some x):(part e xs i).run P w = .ok x w:=by
 have:xs[i]?=some x:=by simpa using hx
 simp [part,run_isAgg he,this]
theorem eqItems_ints (d:Nat) {e:TypeId} {k0:IntKind} (he:P.underlying e=some (.int k0)) (hag:aggB P e=some false) (xs ys:Array Value) :
  ∀ (m k:Nat) (as bs:List V) (b:Bool),RVs g as (xs.toList.drop k)→RVs g bs (ys.toList.drop k)→as.length=m→bs.length=m→sameInts as bs=some b →
   (Op.eqItems (d+1) e 1 xs ys (List.range' k m)).run P w = .ok b w:=by
 intro m
 induction m with
 | zero =>
  intro k as bs b ha hb hal hbl hs
  obtain rfl:=List.length_eq_zero_iff.1 hal
  obtain rfl:=List.length_eq_zero_iff.1 hbl
  simp [sameInts] at hs
  simp [Op.eqItems,← hs]
 | succ m ih =>
  intro k as bs b ha hb hal hbl hs
  cases as with
  | nil=>simp at hal
  | cons a as =>
   cases bs with
   | nil=>simp at hbl
   | cons c bs =>
    unfold sameInts at hs
    split at hs
    ·simp at *
    ·rename_i k1 a' as' k2 c' bs' e1 e2
     cases e1
     cases e2
     split at hs
     ·rename_i hk
      subst hk
      generalize hX:xs.toList.drop k=X at ha
      generalize hY:ys.toList.drop k=Y at hb
      cases ha with
      | cons _ _ x X' hx hxs =>
       cases hb with
       | cons _ _ y Y' hy hys =>
        obtain rfl:=hx.int_inv
        obtain rfl:=hy.int_inv
        have px:xs.toList[k * 1]?=some (.int k1 a'):=by
         have:=congrArg (·[0]?) hX
         simpa using this
        have py:ys.toList[k * 1]?=some (.int k1 c'):=by
         have:=congrArg (·[0]?) hY
         simpa using this
        have tx:xs.toList.drop (k+1)=X':=by rw [← List.drop_drop,hX]; rfl
        have ty:ys.toList.drop (k+1)=Y':=by rw [← List.drop_drop,hY]; rfl
        rw [List.range'_succ]
        simp only [Op.eqItems,Sem.run_bind,run_part_one (w:=w) hag px,run_part_one (w:=w) hag py,Result.andThen_ok,run_equalIn_int w d e k1 k0 a' c' he]
        split at hs
        ·rename_i hac
         rw [hac]
         simp only [Bool.not_true,Bool.false_eq_true,if_false]
         exact ih (k+1) _ _ b (tx ▸ hxs) (ty ▸ hys) (by simpa using hal) (by simpa using hbl) hs
        ·rename_i hac
         cases hs
         have:(a' == c')=false:=by simpa using hac
         rw [this]
         simp
     ·cases hs
    ·cases hs
theorem pop_eqa (hρ:∀ x y,okO x y=true→RV g (f y) (ρ x)) {neg:Bool} {n:Nat} {x' y':Opd} (hc:chkP P okO o.op (.eqa neg n x' y')=true) (hv:popV f (.eqa neg n x' y')=some v):PGood P g w (execOp ρ o) v:=by
 cases ho:o.op <;> simp [chkP,ho] at hc
 case binOp op t x y yt =>
  obtain ⟨⟨⟨⟨hop,h1⟩,h2⟩,h3⟩,h4⟩:=hc
  simp only [popV] at hv
  split at hv
  ·rename_i a b ha hb
   split at hv
   ·rename_i hl
    cases hs:sameInts a b with
    | none=>simp [hs] at hv
    | some r =>
     simp only [hs,Option.map_some,Option.some.injEq] at hv
     subst hv
     obtain ⟨xs,ex,hxs⟩:=(ha ▸ hρ _ _ h1).agg_inv
     obtain ⟨ys,ey,hys⟩:=(hb ▸ hρ _ _ h2).agg_inv
     split at h3
     ·rename_i n' e hu
      simp only [Bool.and_eq_true,beq_iff_eq] at h3
      obtain ⟨⟨⟨rfl,h3⟩,h5⟩,h6⟩:=h3
      split at h6
      ·rename_i k0 hu'
       have hsz:=sizeIs_map h3
       cases hi:P.info? e with
       | none=>simp [hi] at hsz
       | some i =>
        have hcell:P.cellsOf e=1:=by simp [Program.cellsOf,hsz]
        have heq:(Op.equalIn (9999+1) t (.agg xs) (.agg ys)).run P w = .ok r w:=by
         rw [run_equalIn_array (w:=w) 9999 xs ys hu hi,hcell,List.range_eq_range']
         exact eqItems_ints 9998 hu' h5 xs ys n' 0 a b r (by simpa using hxs) (by simpa using hys) hl.1 hl.2 hs
        refine .quiet (vv:=.bool (r != neg)) ?_ (.d _ _ (.bool _))
        have hg:(eqGuard op t x y (.agg xs) (.agg ys)).run P w = .ok () w:=run_eqGuard_agg w op t x y xs ys h4
        simp only [execOp,ho,Sem.run_bind,hg,Result.andThen_ok,ex,ey,eqv_run hop heq ⟨rfl,rfl⟩,Sem.run_pure]
      ·cases h6
     ·cases h3
   ·cases hv
  ·cases hv
theorem setAll_toList (off:Nat):∀ (l:List Value) (j:Nat) (arr:Array Value),off+j+l.length≤arr.size →
  ((l.zipIdx j).foldl (fun cs (p:Value×Nat)=>cs.setIfInBounds (off+p.2) p.1) arr).toList=arr.toList.take (off+j)++l++arr.toList.drop (off+j+l.length)
 | [],j,arr,h=>by simp
 | x :: l,j,arr,h=>by
  simp only [List.zipIdx_cons,List.foldl_cons]
  simp only [List.length_cons] at h
  rw [setAll_toList off l (j+1) (arr.setIfInBounds (off+j) x) (by simp; omega)]
  simp only [Array.toList_setIfInBounds,List.length_cons]
  have e1:(arr.toList.set (off+j) x).take (off+(j+1))=arr.toList.take (off+j)++[x]:=by
   rw [show off+(j+1)=(off+j)+1 by omega,List.take_succ_eq_append_getElem (by simp; omega)]
   simp [List.take_set_of_le]
  have e2:(arr.toList.set (off+j) x).drop (off+(j+1)+l.length)=arr.toList.drop (off+j+(l.length+1)):=by
   rw [List.drop_set_of_lt (by omega)]
   congr 1
   omega
  rw [e1,e2]
  simp
inductive PartsR (g:G) (place:Nat→Option (Nat×Nat)):List (Nat×Value)→List (Nat×Nat×V)→Prop
 | nil:PartsR g place [] []
 | cons (i off size:Nat) (x:Value) (v:V) (ps:List (Nat×Value)) (qs:List (Nat×Nat×V)) (hp:place i=some (off,size)) (hv:RV g v x) (hs:PartsR g place ps qs) :
   PartsR g place ((i,x) :: ps) ((off,size,v) :: qs)
theorem fill_rv (place:Nat→Option (Nat×Nat)):∀ (ps:List (Nat×Value)) (qs:List (Nat×Nat×V)) (cells:Array Value) (cs r:List V),
  RVs g cs cells.toList→PartsR g place ps qs→fill cs qs=some r →
  ∃ r',Instr.fill place cells ps=some r'∧RVs g r r'.toList
 | [],[],cells,cs,r,hc,_,h=>by
  simp only [fill,Option.some.injEq] at h
  subst h
  exact ⟨cells,rfl,hc⟩
 | (i,x) :: ps,(off,size,v) :: qs,cells,cs,r,hc,hf,h=>by
  cases hf with
  | cons _ _ _ _ _ _ _ hp hv h2 =>
   unfold fill at h
   split at h
   ·rename_i hcond
    obtain ⟨c1,c2,c3⟩:=hcond
    obtain ⟨hcell,_⟩:=hv.cells c3
    have hlen:=hcell.length
    have hclen:=hc.length
    have hsz:x.cells.size=size:=by rw [← c1,hlen]; simp
    have hle:off+x.cells.size≤cells.size:=by simp at hclen; omega
    have hnew:RVs g (splice cs off (cellsV v)) (x.cells.zipIdx.foldl (fun cs (p:Value×Nat)=>cs.setIfInBounds (off+p.2) p.1) cells).toList:=by
     rw [← Array.foldl_toList,Array.toList_zipIdx,setAll_toList off _ 0 cells (by simpa using hle)]
     simp only [Nat.add_zero]
     unfold splice
     rw [← hlen]
     exact ((hc.take off).append hcell).append (hc.drop _)
    obtain ⟨r',hr,hrr⟩:=fill_rv place ps qs _ _ r hnew h2 h
    refine ⟨r',?_,hrr⟩
    unfold Instr.fill
    simp only [hp]
    rw [if_neg (by simp [hsz]; omega)]
    exact hr
   ·cases h
 | [],_ :: _,_,_,_,_,hf,_=>by cases hf
 | _ :: _,[],_,_,_,_,hf,_=>by cases hf
theorem okParts_r (hρ:∀ x y,okO x y=true→RV g (f y) (ρ x)) {t:TypeId} {fs:Array Field} (hu:P.underlying t=some (.struct fs)) (places:Array (Nat×Nat))
  (hpl:∀ (i:Nat) (fd:Field),fs[i]?=some fd→∃ inf,P.info? fd.type=some inf∧places[i]?=some (fd.offset,inf.size)) :
  ∀ (ps:List (Nat×Operand)) (qs:List (Nat×Nat×Opd)),okParts P okO t ps qs=true →
   PartsR g (places[·]?) (ps.map fun p=>(p.1,ρ p.2)) (qs.map fun q=>(q.1,q.2.1,f q.2.2))
 | [],[],_ => .nil
 | (i,x) :: ps,(off,size,y) :: qs,h=>by
  simp only [okParts,Bool.and_eq_true] at h
  obtain ⟨⟨h1,h2⟩,h3⟩:=h
  split at h1
  ·rename_i ft hft
   obtain ⟨fs',fd,hu',hf,hoff,hty⟩:=fieldIs_run hft
   rw [hu] at hu'
   simp only [Option.some.injEq,TypeDesc.struct.injEq] at hu'
   subst hu' hoff hty
   obtain ⟨inf,hi,hp⟩:=hpl i fd hf
   have hsz:=sizeIs_map h1
   simp only [hi,Option.map_some,Option.some.injEq] at hsz
   subst hsz
   exact .cons _ _ _ _ _ _ _ hp (hρ _ _ h2) (okParts_r hρ hu places hpl ps qs h3)
  ·cases h1
 | [],_ :: _,h=>by simp [okParts] at h
 | _ :: _,[],h=>by simp [okParts] at h
theorem okPartsA_r (hρ:∀ x y,okO x y=true→RV g (f y) (ρ x)) (sz:Nat) :
  ∀ (ps:List (Nat×Operand)) (qs:List (Nat×Nat×Opd)),okPartsA okO sz ps qs=true →
   PartsR g (fun i=>some (i * sz,sz)) (ps.map fun p=>(p.1,ρ p.2)) (qs.map fun q=>(q.1,q.2.1,f q.2.2))
 | [],[],_ => .nil
 | (i,x) :: ps,(off,size,y) :: qs,h=>by
  simp only [okPartsA,Bool.and_eq_true,beq_iff_eq] at h
  obtain ⟨⟨⟨rfl,rfl⟩,h2⟩,h3⟩:=h
  exact .cons _ _ _ _ _ _ _ rfl (hρ _ _ h2) (okPartsA_r hρ _ ps qs h3)
 | [],_ :: _,h=>by simp [okPartsA] at h
 | _ :: _,[],h=>by simp [okPartsA] at h
theorem okPartsS_r (hρ:∀ x y,okO x y=true→RV g (f y) (ρ x)) (sz:Nat) :
  ∀ (ps:List (Nat×Operand)) (qs:List (Nat×Opd)),okPartsS okO ps qs=true →
   PartsR g (fun i=>some (i * sz,sz)) (ps.map fun p=>(p.1,ρ p.2)) (qs.map fun q=>(q.1 * sz,sz,f q.2))
 | [],[],_ => .nil
 | (i,x) :: ps,(j,y) :: qs,h=>by
  simp only [okPartsS,Bool.and_eq_true,beq_iff_eq] at h
  obtain ⟨⟨rfl,h2⟩,h3⟩:=h
  exact .cons _ _ _ _ _ _ _ rfl (hρ _ _ h2) (okPartsS_r hρ _ ps qs h3)
 | [],_ :: _,h=>by simp [okPartsS] at h
 | _ :: _,[],h=>by simp [okPartsS] at h
theorem places_some:∀ l:List Field,l.all (fun f=>(P.info? f.type).isSome)=true →
  l.mapM (fun f=>(P.info? f.type).map fun i=>(f.offset,i.size))=some (l.map fun f=>(f.offset,P.cellsOf f.type)):=by
 intro l
 induction l with
 | nil=>intro _; rfl
 | cons a l ih =>
  intro h
  simp only [List.all_cons,Bool.and_eq_true] at h
  obtain ⟨inf,hi⟩:=Option.isSome_iff_exists.1 h.1
  simp [List.mapM_cons,ih h.2,hi,Program.cellsOf]
theorem pop_build (hρ:∀ x y,okO x y=true→RV g (f y) (ρ x)) {zero:List V} {ps':List (Nat×Nat×Opd)} (hc:chkP P okO o.op (.build zero ps')=true) (hv:popV f (.build zero ps')=some v):PGood P g w (execOp ρ o) v:=by
 cases ho:o.op <;> simp only [chkP,ho,Bool.false_eq_true] at hc
 case build t ps =>
  simp only [Bool.and_eq_true] at hc
  obtain ⟨h1,h2⟩:=hc
  simp only [popV] at hv
  cases hfill:fill zero (ps'.map fun q=>(q.1,q.2.1,f q.2.2)) with
  | none=>simp [hfill] at hv
  | some r =>
   simp only [hfill,Option.map_some,Option.some.injEq] at hv
   subst hv
   unfold zeroCellsIs at h1
   cases hi:P.info? t with
   | none=>simp [hi] at h1
   | some inf =>
    cases hz:inf.zero with
    | none=>simp [hi,hz] at h1
    | some z =>
     simp only [hi,hz] at h1
     have hzr:RVs g zero z.cells.toList:=(constOk_rds g.M _ _ h1).rvs
     have hex:(execOp ρ o).run P w=((Instr.build t (ps.map fun (i,x)=>(i,ρ x))).run P w).andThen fun v w' => .ok (.value v) w':=by simp [execOp,ho]
     have hpl:(ps.map fun (i,x)=>(i,ρ x)).toList=ps.toList.map fun p=>(p.1,ρ p.2):=by simp
     split at h2
     ·rename_i fs hu
      simp only [Bool.and_eq_true] at h2
      have hpm:=places_some (P:=P) fs.toList (by simpa using h2.2)
      have hparts:=okParts_r (g:=g) (f:=f) hρ hu (fs.toList.map fun f=>(f.offset,P.cellsOf f.type)).toArray (fun i fd hfd=>by
       have hall:=Array.all_eq_true.1 h2.2
       have hlt:i<fs.size:=(Array.getElem?_eq_some_iff.1 hfd).1
       have hvv:=(Array.getElem?_eq_some_iff.1 hfd).2
       have:=hall i hlt
       rw [hvv] at this
       obtain ⟨j,hj⟩:=Option.isSome_iff_exists.1 this
       exact ⟨j,hj,by simp [hfd,Program.cellsOf,hj]⟩) _ _ h2.1
      obtain ⟨r',hr,hrr⟩:=fill_rv _ _ _ z.cells zero r hzr hparts hfill
      have hb:P.built t (ps.map fun (i,x)=>(i,ρ x)).toList=some r':=by
       simp only [Program.built,hi,hu,hz,hpm,hpl]
       exact hr
      exact .quiet (by rw [hex,run_build w t _ r' hb]; rfl) (.agg _ _ hrr)
     ·rename_i n e hu
      split at h2
      ·rename_i ie hie
       have hparts:=okPartsA_r (g:=g) (f:=f) hρ ie.size _ _ h2
       obtain ⟨r',hr,hrr⟩:=fill_rv _ _ _ z.cells zero r hzr hparts hfill
       have hb:P.built t (ps.map fun (i,x)=>(i,ρ x)).toList=some r':=by
        simp only [Program.built,hi,hu,hz,hie,hpl]
        exact hr
       exact .quiet (by rw [hex,run_build w t _ r' hb]; rfl) (.agg _ _ hrr)
      ·cases h2
     ·cases h2
mutual
theorem RV.toRD:∀ {v:V} {x:Value},RV g v x→pureV v=true→RD g.M v x
 | _,_,.d _ _ h,_=>h
 | _,_,.ref ..,hp=>by simp [pureV] at hp
 | _,_,.sl ..,hp=>by simp [pureV] at hp
 | _,_,.map ..,hp=>by simp [pureV] at hp
 | _,_,.func _ fi ca _ _ h1 h2,hp => .func _ _ _ _ _ (RVs.toRDs h1 (by simp [pureV] at hp; exact hp.1)) (RVs.toRDs h2 (by simp [pureV] at hp; exact hp.2))
 | _,_,.iface _ _ _ h,hp => .iface _ _ _ (RV.toRD h (by simpa [pureV] using hp))
 | _,_,.agg _ _ h,hp => .agg _ _ (RVs.toRDs h (by simpa [pureV] using hp))
 | _,_,.tup _ _ h,hp => .tup _ _ (RVs.toRDs h (by simpa [pureV] using hp))
theorem RVs.toRDs:∀ {vs:List V} {xs:List Value},RVs g vs xs→pureL vs=true→RDs g.M vs xs
 | _,_,.nil,_ => .nil
 | _,_,.cons _ _ _ _ h hs,hp => .cons _ _ _ _ (RV.toRD h (by simp [pureL] at hp; exact hp.1)) (RVs.toRDs hs (by simp [pureL] at hp; exact hp.2))
end
theorem chunks_length (sz:Nat):∀ (n:Nat) (l:List V),(chunks sz n l).length=n
 | 0,_=>rfl
 | n+1,l=>by simp [chunks,chunks_length sz n]
theorem chunks_rde {M:Mem} (sz:Nat):∀ (n:Nat) (l:List V) (xs:List Value),RDs M l xs→l.length=n * sz→RDe M sz (chunks sz n l) xs
 | 0,l,xs,h,hl=>by
  simp at hl
  subst hl
  cases h
  exact .nil sz
 | n+1,l,xs,h,hl=>by
  have h1:=h.take sz
  have h2:=h.drop sz
  have hlen:=h.length
  have e:xs=xs.take sz++xs.drop sz:=(List.take_append_drop sz xs).symm
  rw [e]
  refine .cons sz _ _ _ _ ?_ h1 (chunks_rde sz n _ _ h2 ?_)
  ·have:=h1.length
   rw [← this,List.length_take]
   rw [hl,Nat.add_mul]; omega
  ·rw [List.length_drop,hl,Nat.add_mul]; omega
theorem rv_one {v:V} {x:Value} (h:RV g v x) (hc:isCell v=true):x.oneCell'=true:=by
 cases h with
 | d _ _ h=>cases h <;> first | (simp [isCell] at hc; done) | rfl
 | agg _ _ _=>simp [isCell] at hc
 | tup _ _ _=>simp [isCell] at hc
 | _=>rfl
theorem rvs_one {vs:List V} {xs:List Value} (h:RVs g vs xs) (hc:vs.all isCell=true):∀ u∈xs,u.oneCell'=true:=by
 induction vs generalizing xs with
 | nil=>cases h; simp
 | cons v vs ih =>
  cases h with
  | cons _ _ x xs h hs =>
   simp only [List.all_cons,Bool.and_eq_true] at hc
   intro u hu
   rcases List.mem_cons.1 hu with rfl | hu
   ·exact rv_one h hc.1
   ·exact ih hs hc.2 u hu
theorem sv_block (es:List (List V)) (sz:Nat) (xs:List Value) (arr:Array Value) (M:Mem) (b cap:Nat) (ex:Bool) (hM:M b=some arr) (hx:xs=arr.toList.take xs.length) (h1:∀ u∈xs,u.oneCell'=true)
  (hr:RDe M sz es xs) (hc:es.length≤cap) (he:ex=true→cap=es.length):RD M (.sv es ex) (.slice (some ⟨b,0,none⟩) es.length cap):=by
 refine .sv _ _ _ _ _ rfl hc he (fun _=>⟨_,arr,rfl,rfl,hM⟩) sz xs ?_ h1 hr
 intro ad arr' _ h1 h2
 cases h1
 rw [hM] at h2
 cases h2
 simpa using hx
def MemOk (g:G) (w:World):Prop:=∀ blk arr,g.M blk=some arr→∃ e fz,w.heap[blk]?=some (.cells arr e fz)
theorem MemOk.lt {g:G} {w:World} (h:MemOk g w):∀ blk arr,g.M blk=some arr→blk<w.heap.size:=fun blk arr hb=>by
 obtain ⟨e,fz,h'⟩:=h blk arr hb
 exact (Array.getElem?_eq_some_iff.1 h').1
theorem PGood.block (hM:MemOk g w) {s:Sem Next} (arr:Array Value) (e:TypeId) (fz:Nat×Nat) (n:Nat) (es:List (List V)) (ex:Bool) (sz cap:Nat) (xs:List Value)
  (hs:s.run P w = .ok (.value (.slice (some ⟨w.heap.size,0,none⟩) es.length cap)) { (w.alloc (.cells arr e fz)) with drawn:=n })
  (hx:xs=arr.toList.take xs.length) (h1:∀ u∈xs,u.oneCell'=true) (hr:RDe g.M sz es xs) (hc:es.length≤cap) (he:ex=true→cap=es.length):PGood P g w s (.sv es ex):=by
 have hg:=Grow.block g w hM.lt arr e fz n
 refine ⟨_,_,_,hs,?_,hg⟩
 exact .d _ _ (sv_block es sz xs arr _ _ cap ex (by simp) hx h1 (hr.mono hg.le.1) hc he)
theorem zeros_flat (len:Nat) (z:Array Value) (h:0<z.size):((Array.range (len * z.size)).map (z[· % z.size]!)).toList=(List.replicate len z.toList).flatten:=by
 simp only [Array.toList_map,Array.toList_range]
 induction len with
 | zero=>simp
 | succ n ih =>
  rw [show (n+1) * z.size=z.size+n * z.size by rw [Nat.add_mul]; omega,List.range_add,List.map_append,List.replicate_succ,List.flatten_cons,← ih]
  congr 1
  ·apply List.ext_getElem?
   intro i
   simp only [List.getElem?_map,List.getElem?_range]
   by_cases hi:i<z.size
   ·simp [hi,Nat.mod_eq_of_lt hi]
   ·simp [hi]
  ·rw [List.map_map]
   apply List.map_congr_left
   intro i _
   simp [Nat.add_mod_left]
theorem replicate_rds {M:Mem} {zero:List V} {z:List Value} (h:RDs M zero z):∀ n,RDs M (List.replicate n zero).flatten (List.replicate n z).flatten
 | 0 => .nil
 | n+1=>by simpa [List.replicate_succ] using h.append (replicate_rds h n)
theorem replicate_rde {M:Mem} {zero:List V} {z:List Value} (h:RDs M zero z) {sz:Nat} (hz:z.length=sz):∀ n,RDe M sz (List.replicate n zero) (List.replicate n z).flatten
 | 0 => .nil sz
 | n+1=>by simpa [List.replicate_succ] using RDe.cons sz zero _ z _ hz h (replicate_rde h hz n)
theorem pop_bsl (hM:MemOk g w) (hρ:∀ x y,okO x y=true→RV g (f y) (ρ x)) {len sz:Nat} {zero:List V} {ps':List (Nat×Opd)} (hc:chkP P okO o.op (.bsl len sz zero ps')=true) (hv:popV f (.bsl len sz zero ps')=some v):PGood P g w (execOp ρ o) v:=by
 cases ho:o.op <;> simp only [chkP,ho,Bool.false_eq_true] at hc
 case buildSlice t n ps =>
  simp only [Bool.and_eq_true,beq_iff_eq,decide_eq_true_eq] at hc
  obtain ⟨⟨⟨⟨rfl,hcap⟩,h2⟩,hzl⟩,h3⟩:=hc
  simp only [popV] at hv
  split at hv
  ·rename_i cs hfill
   split at hv
   ·rename_i hp
    simp only [Bool.and_eq_true] at hp
    cases hv
    split at h3
    ·rename_i e hu
     simp only [Bool.and_eq_true] at h3
     have hsz:=sizeIs_map h3.1
     obtain ⟨z,hz,hzr⟩:=zeroCellsIs_rvs (g:=g) h3.2
     have hzs:z.cells.size=sz:=by have:=hzr.length; simp at this; omega
     have hcl:cs.length=n * sz:=by
      have:∀ (qs:List (Nat×Nat×V)) (a b:List V),fill a qs=some b→b.length=a.length:=by
       intro qs
       induction qs with
       | nil=>intro a b h; simp [fill] at h; rw [h]
       | cons q qs ih =>
        intro a b h
        obtain ⟨o1,s1,v1⟩:=q
        unfold fill at h
        split at h
        ·rename_i hcond
         have:=ih _ _ h
         rw [this]
         simp [splice]; omega
        ·cases h
      rw [this _ _ _ hfill]
      simp [hzl]
     have hparts:=okPartsS_r (g:=g) (f:=f) hρ sz _ _ h2
     have hfill':fill (List.replicate n zero).flatten (ps'.map fun q=>(q.1 * sz,sz,f q.2))=some cs:=hfill
     have hpl:(ps.map fun (i,x)=>(i,ρ x)).toList=ps.toList.map fun p=>(p.1,ρ p.2):=by simp
     have hchl:=chunks_length sz n cs
     have fin:∀ cells0:Array Value,RVs g (List.replicate n zero).flatten cells0.toList →
       (∀ r',Instr.fill (fun i=>some (i * sz,sz)) cells0 (ps.map fun (i,x)=>(i,ρ x)).toList=some r' →
        (execOp ρ o).run P w = .ok (.value (.slice (some ⟨w.heap.size,0,none⟩) n n)) { (w.alloc (.cells r' e (0,0))) with drawn:=w.drawn }) →
       PGood P g w (execOp ρ o) (.sv (chunks sz n cs) true):=by
      intro cells0 hrv0 hrun
      obtain ⟨r',hr,hrr⟩:=fill_rv _ _ _ cells0 _ cs hrv0 hparts hfill'
      have hrd:RDs g.M cs r'.toList:=hrr.toRDs hp.1
      have hrde:=chunks_rde sz n cs r'.toList hrd hcl
      have h':=hrun r' (by rw [hpl]; exact hr)
      refine PGood.block hM r' e (0,0) w.drawn (chunks sz n cs) true sz n r'.toList ?_ (by rw [List.take_of_length_le (Nat.le_refl _)]) (rvs_one hrr hp.2) hrde (by omega) (fun _=>by omega)
      rw [hchl]
      exact h'
     by_cases h0:n * sz=0
     ·refine fin #[] ?_ ?_
      ·have:(List.replicate n zero).flatten=[]:=by
        rcases Nat.mul_eq_zero.1 h0 with rfl | h
        ·rfl
        ·have:zero=[]:=List.length_eq_zero_iff.1 (by omega)
         subst this
         simp
       rw [this]
       exact RVs.nil
      ·intro r' hr
       simp only [execOp,ho,Instr.buildSlice,Sem.run_bind,run_underlying hu,Result.andThen_ok,run_sizeOf hsz,h0]
       simp only [show ¬ (0 > 2 ^ 24) by decide,if_false,if_true,Sem.run_bind,Sem.run_pure,Result.andThen_ok]
       have:(Array.map (fun x=>(#[]:Array Value)[x % (#[]:Array Value).size]!) (Array.range 0)) = #[]:=by simp
       rw [this,hr]
       simp [newRow]
       rfl
     ·have hpos:0<z.cells.size:=by rw [hzs]; exact Nat.pos_of_ne_zero (fun h=>h0 (by simp [h]))
      refine fin ((Array.range (n * sz)).map (z.cells[· % z.cells.size]!)) ?_ ?_
      ·have:=zeros_flat n z.cells hpos
       rw [hzs] at this
       rw [hzs,this]
       exact (replicate_rds hzr n).rvs
      ·intro r' hr
       simp only [execOp,ho,Instr.buildSlice,Sem.run_bind,run_underlying hu,Result.andThen_ok,run_sizeOf hsz]
       rw [if_neg (by omega),if_neg h0]
       simp only [Sem.run_bind,Sem.run_pure,Result.andThen_ok,hz]
       rw [hr]
       simp [newRow]
       rfl
    ·cases h3
   ·cases hv
  ·cases hv
theorem pop_bsv (hM:MemOk g w) (hρ:∀ x y,okO x y=true→RV g (f y) (ρ x)) {len sz:Nat} {zero:List V} {ps':List (Nat×Opd)} (hc:chkP P okO o.op (.bsv len sz zero ps')=true) (hv:popV f (.bsv len sz zero ps')=some v):PGood P g w (execOp ρ o) v:=by
 cases ho:o.op <;> simp only [chkP,ho,Bool.false_eq_true] at hc
 case buildSlice t n ps =>
  simp only [Bool.and_eq_true,beq_iff_eq,decide_eq_true_eq] at hc
  obtain ⟨⟨⟨⟨rfl,hcap⟩,h2⟩,hzl⟩,h3⟩:=hc
  simp only [popV] at hv
  split at hv
  ·rename_i cs hfill
   split at hv
   ·rename_i hp
    simp only [Bool.and_eq_true,decide_eq_true_eq] at hp
    cases hv
    split at h3
    ·rename_i e hu
     simp only [Bool.and_eq_true] at h3
     have hsz:=sizeIs_map h3.1
     obtain ⟨z,hz,hzr⟩:=zeroCellsIs_rvs (g:=g) h3.2
     have hzs:z.cells.size=sz:=by have:=hzr.length; simp at this; omega
     have hcl:cs.length=n * sz:=by
      have:∀ (qs:List (Nat×Nat×V)) (a b:List V),fill a qs=some b→b.length=a.length:=by
       intro qs
       induction qs with
       | nil=>intro a b h; simp [fill] at h; rw [h]
       | cons q qs ih =>
        intro a b h
        obtain ⟨o1,s1,v1⟩:=q
        unfold fill at h
        split at h
        ·rename_i hcond
         have:=ih _ _ h
         rw [this]
         simp [splice]; omega
        ·cases h
      rw [this _ _ _ hfill]
      simp [hzl]
     have hparts:=okPartsS_r (g:=g) (f:=f) hρ sz _ _ h2
     have hfill':fill (List.replicate n zero).flatten (ps'.map fun q=>(q.1 * sz,sz,f q.2))=some cs:=hfill
     have hpl:(ps.map fun (i,x)=>(i,ρ x)).toList=ps.toList.map fun p=>(p.1,ρ p.2):=by simp
     have fin:∀ cells0:Array Value,RVs g (List.replicate n zero).flatten cells0.toList →
       (∀ r',Instr.fill (fun i=>some (i * sz,sz)) cells0 (ps.map fun (i,x)=>(i,ρ x)).toList=some r' →
        (execOp ρ o).run P w = .ok (.value (.slice (some ⟨w.heap.size,0,none⟩) n n)) { (w.alloc (.cells r' e (0,0))) with drawn:=w.drawn }) →
       PGood P g w (execOp ρ o) (.vs cs n sz):=by
      intro cells0 hrv0 hrun
      obtain ⟨r',hr,hrr⟩:=fill_rv _ _ _ cells0 _ cs hrv0 hparts hfill'
      have h':=hrun r' (by rw [hpl]; exact hr)
      have hlen:=hrr.length
      simp only [Array.length_toList] at hlen
      have hgr:=Grow.block g w (fun blk arr hb=>by obtain ⟨e',fz,hh⟩:=hM blk arr hb; exact (Array.getElem?_eq_some_iff.1 hh).1) r' e (0,0) w.drawn
      have hnp:0<n:=Nat.pos_of_ne_zero fun h=>by have:=hp.2; simp [h] at this
      refine ⟨_,_,_,h',.vs cs n sz ⟨w.heap.size,0,none⟩ r' rfl (by simp) hnp hcl ?_ ?_,hgr⟩
      ·simp only [List.drop_zero]
       rw [List.take_of_length_le (by simp; omega)]
       exact rvs_one hrr hp.1
      ·simp only [List.drop_zero]
       rw [List.take_of_length_le (by simp; omega)]
       exact hrr.mono hgr.le
     by_cases h0:n * sz=0
     ·exact absurd h0 (by have:=hp.2; omega)
     ·have hpos:0<z.cells.size:=by rw [hzs]; exact Nat.pos_of_ne_zero (fun h=>h0 (by simp [h]))
      refine fin ((Array.range (n * sz)).map (z.cells[· % z.cells.size]!)) ?_ ?_
      ·have:=zeros_flat n z.cells hpos
       rw [hzs] at this
       rw [hzs,this]
       exact (replicate_rds hzr n).rvs
      ·intro r' hr
       simp only [execOp,ho,Instr.buildSlice,Sem.run_bind,run_underlying hu,Result.andThen_ok,run_sizeOf hsz]
       rw [if_neg (by omega),if_neg h0]
       simp only [Sem.run_bind,Sem.run_pure,Result.andThen_ok,hz]
       rw [hr]
       simp [newRow]
       rfl
    ·cases h3
   ·cases hv
  ·cases hv
theorem pop_ldp (hM:MemOk g w) (hρ:∀ x y,okO x y=true→RV g (f y) (ρ x)) {y:Opd} {size:Nat} {ag:Bool} (hc:chkP P okO o.op (.ldp y size ag)=true) (hv:popV f (.ldp y size ag)=some v):PGood P g w (execOp ρ o) v:=by
 cases ho:o.op <;> simp only [chkP,ho,Bool.false_eq_true] at hc
 case load t x =>
  simp only [Bool.and_eq_true] at hc
  obtain ⟨h1,ht⟩:=hc
  simp only [popV] at hv
  split at hv
  ·rename_i cs hf
   split at hv
   ·rename_i hle
    obtain ⟨blk,off,arr,xs,hx,hMb,hxs,hrd⟩:=(hf ▸ hρ _ _ h1).pv_inv
    obtain ⟨e,fz,hh⟩:=hM blk arr hMb
    have hlen:=hrd.length
    have hl2:=congrArg List.length hxs
    simp at hl2
    by_cases h0:size=0
    ·subst h0
     have hag:ag=true:=by
      cases ag with
      | true=>rfl
      | false=>have:=mkV_one hv rfl; simp at this
     subst hag
     simp [mkV] at hv
     subst hv
     have hs:=tyOk_size ht
     have ha:aggB P t=some true:=by simp only [tyOk,Bool.and_eq_true] at ht; simpa using ht.2
     have hrun:(loadVar t (⟨blk,off,none⟩:Addr)).run P w = .ok (.agg #[]) w:=by simp [loadVar,run_isAgg ha,run_sizeOf hs,loadCells,loadCellsFrom]
     have hnil:RVs g [] (#[]:Array Value).toList:=.nil
     exact PGood.quiet (by simp [execOp,ho,Instr.loadAt,Instr.sureAddr,hx,hrun]) (.agg _ _ hnil)
    ·obtain ⟨vv,hrun,hvv⟩:=run_loadVar_blk (P:=P) ht hh (off:=off) (by omega) (fun ha=>by subst ha; have:=mkV_one hv rfl; simp at this; omega)
     have hpart:RVs g (cs.take size) ((arr.toList.drop off).take size):=by
      have:=(hrd.rvs (g:=g)).take size
      rw [hxs,List.take_take,Nat.min_eq_left (by omega)] at this
      exact this
     refine PGood.quiet (by simp [execOp,ho,Instr.loadAt,Instr.sureAddr,hx,hrun]) (mkV_rv hpart hv vv ?_)
     cases ag with
     | true=>simpa using hvv
     | false =>
      simp only [Bool.false_eq_true,if_false] at hvv ⊢
      rw [List.getElem?_take_of_lt (by omega)]
      simpa using hvv
   ·cases hv
  ·cases hv
theorem freeze_alloc (w:World) (arr:Array Value) (e:TypeId) (n:Nat) :
  (w.alloc (.cells arr e (0,0))).freeze { block:=w.heap.size,off:=n } 1=w.alloc (.cells arr e (n,n+1)):=by
 unfold World.freeze
 simp only [Nat.one_ne_zero,if_false]
 have:(w.alloc (.cells arr e (0,0))).heap.modify w.heap.size (fun
   | .cells c elem (lo,hi) => .cells c elem (if lo == hi then (n,n+1) else (min lo n,max hi (n+1)))
   | o=>o)=(w.alloc (.cells arr e (n,n+1))).heap:=by
  apply Array.ext_getElem?
  intro i
  rw [Array.getElem?_modify]
  by_cases hi:w.heap.size=i
  ·subst hi
   have a1:=am_new w (.cells arr e (0,0))
   have a2:=am_new w (.cells arr e (n,n+1))
   rw [a1,a2]
   simp
  ·simp only [hi,if_false]
   by_cases h2:i<w.heap.size
   ·rw [am_old w _ i h2,am_old w _ i h2]
   ·rw [Array.getElem?_eq_none (by simp; omega),Array.getElem?_eq_none (by simp; omega)]
 simp only [World.alloc] at this ⊢
 simp only [World.mk.injEq,and_true,true_and]
 exact this
theorem bytes_rde (M:Mem):∀ (l:List UInt8),RDe M 1 (l.map fun b=>[V.int .u8 b.toNat]) (l.map fun b=>Value.int .u8 b.toNat)
 | [] => .nil 1
 | b :: l=>by simpa using RDe.cons 1 [.int .u8 b.toNat] _ [.int .u8 b.toNat] _ rfl (.cons _ _ _ _ (.int _ _) .nil) (bytes_rde M l)
theorem pop_s2b (hM:MemOk g w) (hρ:∀ x y,okO x y=true→RV g (f y) (ρ x)) {y:Opd} (hc:chkP P okO o.op (.s2b y)=true) (hv:popV f (.s2b y)=some v):PGood P g w (execOp ρ o) v:=by
 cases ho:o.op <;> simp [chkP,ho] at hc
 case convert s d x =>
  obtain ⟨h1,h2⟩:=hc
  split at h2
  ·rename_i e hs hd
   split at h2
   ·rename_i he
    simp only [popV] at hv
    split at hv
    ·rename_i b hb
     cases hv
     have ex:=(hb ▸ hρ _ _ h1).str_inv
     have hcap:b.size≤(Question.appendCap b.size 0 e).cut (w.tape w.drawn (.appendCap b.size 0 e)):=by simp [Question.cut]
     generalize hq:(Question.appendCap b.size 0 e).cut (w.tape w.drawn (.appendCap b.size 0 e))=cap at hcap
     have hsz:b.data.toList.length=b.size:=rfl
     refine PGood.block hM (b.data.map (fun b=>Value.int .u8 b.toNat)++Array.replicate (cap - b.size) (.int .u8 0)) e (cap,cap+1) (w.drawn+1)
      (b.data.toList.map fun b=>[V.int .u8 b.toNat]) false 1 cap (b.data.toList.map fun b=>Value.int .u8 b.toNat) ?_ ?_ (by simp; intro a _; rfl) (bytes_rde _ _) (by simp [hsz]; omega) (by simp)
     ·have e1:(b.data.map (fun b=>Value.int .u8 b.toNat)++Array.replicate (cap - b.size) (Value.int .u8 0)).size=cap:=by
       simp; have:b.data.size=b.size:=rfl; omega
      have hw:∀ w':World,(Conv.stringToBytes e b).run P w'=(choose (.appendCap b.size 0 e) >>= fun cap=>do
        let a ← newRow e (b.data.map (fun b=>Value.int .u8 b.toNat)++Array.replicate (cap - b.size) (.int .u8 0))
        markStringish a
        pure (.slice (some a) b.size cap)).run P w':=fun _=>rfl
      have hfz:=freeze_alloc w.drew (b.data.map (fun b=>Value.int .u8 b.toNat)++Array.replicate (cap - b.size) (.int .u8 0)) e cap
      have hshape:(w.drew.alloc (.cells (b.data.map (fun b=>Value.int .u8 b.toNat)++Array.replicate (cap - b.size) (.int .u8 0)) e (0,0))).shape? w.heap.size=some (e,cap):=by
       have:=am_new w.drew (.cells (b.data.map (fun b=>Value.int .u8 b.toNat)++Array.replicate (cap - b.size) (.int .u8 0)) e (0,0))
       simp only [World.size_drew] at this
       simp only [World.shape?,this,e1]
      simp only [execOp,ho,ex,Sem.run_bind,convert,run_underlying hs,run_underlying hd,run_underlying he,Result.andThen_ok,hw,run_choose,Question.forced,Bool.false_eq_true,if_false,hq]
      simp only [newRow,Sem.run_bind,run_newObj,World.drew_eq,World.alloc_eq,World.size_drew,Result.andThen_ok,Sem.run_pure,markStringish,run_shape,hshape,run_freeze]
      simp only [World.size_drew] at hfz
      rw [hfz]
      simp [hsz]
      rfl
     ·simp [List.take_append]
    ·cases hv
   ·cases h2
  ·cases h2
theorem pop_mkz (hM:MemOk g w) (hρ:∀ x y,okO x y=true→RV g (f y) (ρ x)) {n' c':Opd} {sz bytes:Nat} {zero:List V} (hc:chkP P okO o.op (.mkz n' c' sz bytes zero)=true) (hv:popV f (.mkz n' c' sz bytes zero)=some v):PGood P g w (execOp ρ o) v:=by
 cases ho:o.op <;> simp only [chkP,ho,Bool.false_eq_true] at hc
 case makeSlice t l c =>
  simp only [Bool.and_eq_true] at hc
  obtain ⟨⟨h1,h2⟩,h3⟩:=hc
  simp only [popV] at hv
  split at hv
  ·rename_i k1 a k2 b hx hy
   split at hv
   ·rename_i hcond
    obtain ⟨c1,rfl,c3,c4,c5,c6⟩:=hcond
    cases hv
    have ex:=(hx ▸ hρ _ _ h1).int_inv
    have ey:=(hy ▸ hρ _ _ h2).int_inv
    split at h3
    ·rename_i e hu
     simp only [Bool.and_eq_true] at h3
     obtain ⟨⟨⟨h3,h4⟩,h5⟩,h6⟩:=h3
     have hsz:=sizeIs_map h3
     obtain ⟨z,hz,hzr⟩:=zeroCellsIs_rvs (g:=g) h5
     have hzs:z.cells.size=sz:=by have:=hzr.length; simp at this; omega
     have hby:∃ inf,P.info? e=some inf∧inf.bytes=bytes:=by
      cases hi:P.info? e with
      | none=>simp [hi] at h4
      | some inf=>simp [hi] at h4; exact ⟨inf,rfl,h4⟩
     obtain ⟨inf,hi,hb⟩:=hby
     have hw:IntKind.i64.wrap a=a:=by
      simp only [IntKind.wrap,IntKind.bits,IntKind.signed,Bool.true_and]
      have:a % (2 ^ 64:Int)=a:=by omega
      simp only [this]
      split
      ·rename_i h; simp at h; omega
      ·rfl
     have hbig:¬ ((bytes:Int) * a > 2 ^ 48):=by
      have:a * bytes≤2 ^ 47:=by simpa [room] using c3
      have e1:(bytes:Int) * a=a * bytes:=Int.mul_comm _ _
      rw [e1]
      omega
     have hes:(List.replicate a.toNat zero).length=a.toNat:=by simp
     have hti:∀ w,(typeInfo e).run P w = .ok inf w:=fun w=>by simp [typeInfo,hi]
     have hrde:=replicate_rde (M:=g.M) hzr (sz:=sz) (by simpa using hzs) a.toNat
     have fin:∀ arr:Array Value,arr.toList=(List.replicate a.toNat z.cells.toList).flatten →
       (execOp ρ o).run P w = .ok (.value (.slice (some ⟨w.heap.size,0,none⟩) a.toNat a.toNat)) { (w.alloc (.cells arr e (0,0))) with drawn:=w.drawn } →
       PGood P g w (execOp ρ o) (.sv (List.replicate a.toNat zero) true):=by
      intro arr harr hrun
      refine PGood.block hM arr e (0,0) w.drawn _ true sz a.toNat _ ?_ ?_ (fun u hu => ?_) hrde (by omega) (fun _=>by omega)
      ·rw [hes]; exact hrun
      ·rw [harr,List.take_of_length_le (Nat.le_refl _)]
      ·obtain ⟨l,hl,hul⟩:=List.mem_flatten.1 hu
       rw [List.eq_of_mem_replicate hl] at hul
       exact rvs_one (hzr.rvs (g:=g)) h6 u hul
     have hpre:(a<0||(inf.bytes:Int) * a > 2 ^ 48)=false:=by
      rw [hb]
      simp only [Bool.or_eq_false_iff,decide_eq_false_iff_not]
      exact ⟨by omega,hbig⟩
     by_cases h0:a.toNat * sz=0
     ·refine fin #[] ?_ ?_
      ·have:=hrde.length
       simp only [List.length_replicate,h0] at this
       simpa using (List.length_eq_zero_iff.1 this).symm
      ·simp only [execOp,ho,ex,ey,Instr.makeSlice,asInt,asIntOf,Sem.run_bind,run_underlying hu,Result.andThen_ok,Sem.run_pure,hti,hw,hpre,run_sizeOf hsz,run_askRoom]
       simp [h0,newRow,show ¬ a<0 by omega,run_sizeOf hsz,Array.range_zero']
       rfl
     ·have hpos:0<z.cells.size:=by rw [hzs]; exact Nat.pos_of_ne_zero (fun h=>h0 (by simp [h]))
      refine fin ((Array.range (a.toNat * sz)).map (z.cells[· % z.cells.size]!)) ?_ ?_
      ·have:=zeros_flat a.toNat z.cells hpos
       rw [hzs] at this
       rw [hzs,this]
      ·simp only [execOp,ho,ex,ey,Instr.makeSlice,asInt,asIntOf,Sem.run_bind,run_underlying hu,Result.andThen_ok,Sem.run_pure,hti,hw,hpre,run_sizeOf hsz,run_askRoom]
       simp [h0,newRow,show ¬ a<0 by omega,hz,run_sizeOf hsz]
       rfl
    ·cases h3
   ·cases hv
  ·cases hv
theorem leaf_plain {k:LK} {t:TypeId} (ht:leafTy P k t=true):aggB P t=some false:=by
 unfold leafTy at ht
 unfold aggB
 split at ht <;> simp_all
theorem run_part_leaf {k:LK} {t:TypeId} (ht:leafTy P k t=true) {cs:Array Value} {i:Nat} {x:Value} (hx:cs[i]?=some x) (w:World):(part t cs i).run P w = .ok x w:=by
 simp [part,run_isAgg (leaf_plain ht),hx]
def EqLeaf (P:Program) (w:World) (t:TypeId) (x y:Value) (r:Bool):Prop:=∀ d,(Op.equalIn (d+1) t x y).run P w = .ok r w
theorem equal_fields {h:Heap} {d:Nat} (hc:∀ k t a b x y r,leafTy P k t=true→RV g a x→RV g b y→sameLK h k a b=some r→EqLeaf P w t x y r) {xs ys:Array Value} {r:Bool} :
  ∀ (L:List Field) (i:Nat) (ks:List LK) (as bs:List V),flatOk P i L ks=true→RVs g as (xs.toList.drop i)→RVs g bs (ys.toList.drop i)→sameKs h ks as bs=some r→(Op.eqFields (d+1) xs ys L).run P w = .ok r w
 | [],i,ks,as,bs,hf,_,_,hs=>by
  cases ks with
  | nil =>
   cases as <;> cases bs <;> simp [sameKs] at hs
   subst hs
   simp [Op.eqFields]
  | cons k ks=>simp [flatOk] at hf
 | f :: L,i,[],as,bs,hf,_,_,hs=>by simp [flatOk] at hf
 | f :: L,i,k :: ks,[],bs,_,_,_,hs=>by simp [sameKs] at hs
 | f :: L,i,k :: ks,_ :: _,[],_,_,_,hs=>by simp [sameKs] at hs
 | f :: L,i,k :: ks,a :: as,b :: bs,hf,ha,hb,hs=>by
  simp only [flatOk,Bool.and_eq_true,bne_iff_ne,ne_eq,beq_iff_eq] at hf
  obtain ⟨⟨⟨hn,ho⟩,hl⟩,hf⟩:=hf
  have get:∀ {v:V} {vs:List V} {zs:Array Value},RVs g (v :: vs) (zs.toList.drop i)→∃ z,zs[i]?=some z∧RV g v z∧RVs g vs (zs.toList.drop (i+1)):=by
   intro v vs zs h
   generalize hd:zs.toList.drop i=l at h
   cases h with
   | cons _ _ z rest hz hrest =>
    have e1:zs.toList[i]?=some z:=by
     have:=congrArg (fun l=>l[0]?) hd
     simpa [List.getElem?_drop] using this
    have e2:zs.toList.drop (i+1)=rest:=by
     have:=congrArg (List.drop 1) hd
     simpa [List.drop_drop,Nat.add_comm] using this
    exact ⟨z,by simpa using e1,hz,by rw [e2]; exact hrest⟩
  obtain ⟨x,hx,hax,ha'⟩:=get ha
  obtain ⟨y,hy,hby,hb'⟩:=get hb
  have px:=run_part_leaf (P:=P) (cs:=xs) (i:=f.offset) (x:=x) hl (by rw [ho]; exact hx) w
  have py:=run_part_leaf (P:=P) (cs:=ys) (i:=f.offset) (x:=y) hl (by rw [ho]; exact hy) w
  simp only [sameKs] at hs
  cases hcr:sameLK h k a b with
  | none=>simp [hcr] at hs
  | some r' =>
   have he:=hc _ _ _ _ _ _ _ hl hax hby hcr d
   simp only [Op.eqFields,hn,ne_eq,not_false_eq_true,if_true,Sem.run_bind,px,py,Result.andThen_ok,he]
   cases r' with
   | false =>
    simp only [hcr,Option.some.injEq] at hs
    subst hs
    simp
   | true =>
    simp only [hcr] at hs
    simp only [Bool.not_true,Bool.false_eq_true,if_false]
    exact equal_fields (d:=d) hc L (i+1) ks as bs hf ha' hb' hs
theorem equal_flat {h:Heap} {ks:List LK} {t:TypeId} (ht:flatStruct P ks t=true) (hc:∀ k t a b x y r,leafTy P k t=true→RV g a x→RV g b y→sameLK h k a b=some r→EqLeaf P w t x y r)
  {as bs:List V} {xs ys:Array Value} (ha:RVs g as xs.toList) (hb:RVs g bs ys.toList) {r:Bool} (hs:sameKs h ks as bs=some r) (d:Nat) :
  (Op.equalIn (d+2) t (.agg xs) (.agg ys)).run P w = .ok r w:=by
 unfold flatStruct at ht
 split at ht
 ·rename_i fs hu
  simp only [Bool.and_eq_true,Bool.not_eq_true'] at ht
  have hfo:P.fieldsOf t=fs:=by simp [Program.fieldsOf,hu]
  rw [show d+2=(d+1)+1 from rfl,run_equalIn_struct w (d+1) t xs ys (by rw [hfo]; exact hu) ht.1,hfo]
  exact equal_fields (d:=d) hc fs.toList 0 ks as bs ht.2 (by simpa using ha) (by simpa using hb) hs
 ·cases ht
theorem sameLK_int {h:Heap} {a b:V} {r:Bool} (hs:sameLK h .int a b=some r):∃ k n m,a = .int k n∧b = .int k m∧r=(n == m):=by
 simp only [sameLK] at hs
 split at hs
 ·rename_i k n k' m
  split at hs
  ·rename_i hk; subst hk; exact ⟨k,n,m,rfl,rfl,by simpa using hs.symm⟩
  ·cases hs
 ·cases hs
theorem sameLK_bool {h:Heap} {a b:V} {r:Bool} (hs:sameLK h .bool a b=some r):∃ n m,a = .bool n∧b = .bool m∧r=(n == m):=by
 simp only [sameLK] at hs
 split at hs
 ·exact ⟨_,_,rfl,rfl,by simpa using hs.symm⟩
 ·cases hs
theorem sameLK_str {h:Heap} {a b:V} {r:Bool} (hs:sameLK h .str a b=some r):∃ n m,a = .str n∧b = .str m∧r=(n.toList == m.toList):=by
 simp only [sameLK] at hs
 split at hs
 ·exact ⟨_,_,rfl,rfl,by simpa using hs.symm⟩
 ·cases hs
theorem leaf_int {t:TypeId} (ht:leafTy P .int t=true):∃ k,P.underlying t=some (.int k):=by
 unfold leafTy at ht
 split at ht <;> simp_all
theorem leaf_bool {t:TypeId} (ht:leafTy P .bool t=true):P.underlying t=some .bool:=by
 unfold leafTy at ht
 split at ht <;> simp_all
theorem leaf_str {t:TypeId} (ht:leafTy P .str t=true):P.underlying t=some .string:=by
 unfold leafTy at ht
 split at ht <;> simp_all
theorem leaf_ptr {t:TypeId} (ht:leafTy P .ptr t=true):∃ e i,P.underlying t=some (.pointer e)∧P.info? e=some i∧i.size≠0:=by
 unfold leafTy at ht
 split at ht <;> simp_all
 rename_i e _
 cases hi:P.info? e with
 | none=>simp [hi] at ht
 | some i=>simp [hi] at ht; exact ⟨i,rfl,ht⟩
theorem eq_lit {h:Heap} {k:LK} {t:TypeId} {a b:V} {x y:Value} {r:Bool} (ht:leafTy P k t=true) (ha:RV g a x) (hb:RV g b y) (hs:sameLK h k a b=some r) (hp:k = .ptr→EqLeaf P w t x y r):EqLeaf P w t x y r:=by
 cases k with
 | ptr=>exact hp rfl
 | int =>
  obtain ⟨k,n,m,rfl,rfl,rfl⟩:=sameLK_int hs
  obtain ⟨k0,hu⟩:=leaf_int ht
  obtain rfl:=ha.int_inv
  obtain rfl:=hb.int_inv
  exact fun d=>run_equalIn_int w d t k k0 n m hu
 | bool =>
  obtain ⟨n,m,rfl,rfl,rfl⟩:=sameLK_bool hs
  obtain rfl:=ha.bool_inv
  obtain rfl:=hb.bool_inv
  exact fun d=>run_equalIn_bool' w d t n m (leaf_bool ht)
 | str =>
  obtain ⟨n,m,rfl,rfl,rfl⟩:=sameLK_str hs
  obtain rfl:=ha.str_inv
  obtain rfl:=hb.str_inv
  exact fun d=>run_equalIn_string w d t n m (leaf_str ht)
theorem samePtr_nil {a b:V} {r:Bool} (hs:samePtr [] a b=some r):(a = .nilp∧b = .nilp∧r=true)∨(∃ b' o g,a = .nilp∧b = .ref b' o g∧r=false)∨∃ b' o g,a = .ref b' o g∧b = .nilp∧r=false:=by
 unfold samePtr at hs
 split at hs
 ·simp [liveAt] at hs
 ·cases hs; exact .inl ⟨rfl,rfl,rfl⟩
 ·cases hs; exact .inr (.inl ⟨_,_,_,rfl,rfl,rfl⟩)
 ·cases hs; exact .inr (.inr ⟨_,_,_,rfl,rfl,rfl⟩)
 ·cases hs
theorem eq_nils {t:TypeId} {a b:V} {x y:Value} {r:Bool} (ht:leafTy P .ptr t=true) (ha:RV g a x) (hb:RV g b y) (hs:(a = .nilp∧b = .nilp∧r=true)∨(∃ b' o g,a = .nilp∧b = .ref b' o g∧r=false)∨∃ b' o g,a = .ref b' o g∧b = .nilp∧r=false):EqLeaf P w t x y r:=by
 obtain ⟨e,i,hu,_,_⟩:=leaf_ptr ht
 intro d
 rcases hs with ⟨rfl,rfl,rfl⟩ | ⟨b',o,gn,rfl,rfl,rfl⟩ | ⟨b',o,gn,rfl,rfl,rfl⟩
 ·obtain rfl:=ha.nilp_inv
  obtain rfl:=hb.nilp_inv
  simp [Op.equalIn,run_underlying hu,Result.andThen]
 ·obtain rfl:=ha.nilp_inv
  obtain ⟨p,_,rfl⟩:=hb.ref_inv
  simp [Op.equalIn,run_underlying hu,Result.andThen]
 ·obtain rfl:=hb.nilp_inv
  obtain ⟨p,_,rfl⟩:=ha.ref_inv
  simp [Op.equalIn,run_underlying hu,Result.andThen]
theorem pop_eqs (hρ:∀ x y,okO x y=true→RV g (f y) (ρ x)) {neg:Bool} {ks:List LK} {x' y':Opd} (hc:chkP P okO o.op (.eqs neg ks x' y')=true) (hv:popV f (.eqs neg ks x' y')=some v):PGood P g w (execOp ρ o) v:=by
 cases ho:o.op <;> simp [chkP,ho] at hc
 case binOp op t x y yt =>
  obtain ⟨⟨⟨⟨hop,h1⟩,h2⟩,h3⟩,h4⟩:=hc
  simp only [popV] at hv
  split at hv
  ·rename_i a b ha hb
   cases hs:sameKs [] ks a b with
   | none=>simp [hs] at hv
   | some r =>
    simp only [hs,Option.map_some,Option.some.injEq] at hv
    subst hv
    obtain ⟨xs,ex,hxs⟩:=(ha ▸ hρ _ _ h1).agg_inv
    obtain ⟨ys,ey,hys⟩:=(hb ▸ hρ _ _ h2).agg_inv
    have heq:(Op.equalIn (9998+2) t (.agg xs) (.agg ys)).run P w = .ok r w :=
     equal_flat (h:=[]) h3 (fun k t a b x y r ht ha hb hs=>eq_lit ht ha hb hs (fun hk=>by
      subst hk
      exact eq_nils ht ha hb (samePtr_nil (by simpa [sameLK] using hs)))) hxs hys hs 9998
    refine .quiet (vv:=.bool (r != neg)) ?_ (.d _ _ (.bool _))
    have hg:(eqGuard op t x y (.agg xs) (.agg ys)).run P w = .ok () w:=run_eqGuard_agg w op t x y xs ys h4
    simp only [execOp,ho,Sem.run_bind,hg,Result.andThen_ok,ex,ey,eqv_run hop heq ⟨rfl,rfl⟩,Sem.run_pure]
  ·cases hv
theorem pop_sound (hM:MemOk g w) (hρ:∀ x y,okO x y=true→RV g (f y) (ρ x)) (hk:∀ c,ρ (.const c)=c) {p:POp} (hc:chkP P okO o.op p=true) (hv:popV f p=some v):PGood P g w (execOp ρ o) v:=by
 cases p with
 | mov x=>exact pop_mov hρ hk hc hv
 | pick c a b=>exact pop_pick hρ hc hv
 | part x off size ag=>exact pop_part hρ hc hv
 | fadr x off=>exact pop_fadr hρ hc hv
 | iadr x i sz=>exact pop_iadr hρ hc hv
 | iadrA x i n sz=>exact pop_iadrA hρ hc hv
 | index x i=>exact pop_index hρ hc hv
 | slc x lo hi mx str sz=>exact pop_slc hρ hc hv
 | bin op x y=>exact pop_bin hρ hc hv
 | eqb neg x y=>exact pop_eqb hρ hc hv
 | eqn neg k x y=>exact pop_eqn hρ hc hv
 | eqa neg n x y=>exact pop_eqa hρ hc hv
 | not x=>exact pop_not hρ hc hv
 | neg x=>exact pop_neg hρ hc hv
 | cpl x=>exact pop_cpl hρ hc hv
 | conv k x=>exact pop_conv hρ hc hv
 | nchk x=>exact pop_nchk hρ hc hv
 | build zero parts=>exact pop_build hρ hc hv
 | bsl len sz zero parts=>exact pop_bsl hM hρ hc hv
 | mkf fn fi ca=>exact pop_mkf hρ hc hv
 | mki t x=>exact pop_mki hρ hc hv
 | tas x t ok zero=>exact pop_tas hρ hc hv
 | ext x i=>exact pop_ext hρ hc hv
 | lenS str x=>exact pop_lenS hρ hc hv
 | maxI x y=>exact pop_maxI hρ hc hv
 | minI x y=>exact pop_minI hρ hc hv
 | s2b x=>exact pop_s2b hM hρ hc hv
 | mkz n c sz bytes zero=>exact pop_mkz hM hρ hc hv
 | ldp a size ag=>exact pop_ldp hM hρ hc hv
 | bsv len sz zero parts=>exact pop_bsv hM hρ hc hv
 | eqs neg n x y=>exact pop_eqs hρ hc hv
end
structure Step (g:G) (h:Heap) (w:World) (g':G) (h':Heap) (w':World):Prop where
 rep:Rep g' h' w'
 le:g.le g'
 fr:Frame (Live g h) w w'
 newM:∀ blk arr,g'.M blk=some arr→g.M blk=some arr∨w.heap.size≤blk∨Live g h blk
 newL:∀ blk,Live g' h' blk→Live g h blk∨w.heap.size≤blk
theorem Step.refl {g:G} {h:Heap} {w:World} (hr:Rep g h w):Step g h w g h w :=
 ⟨hr,G.le_refl g,Frame.refl _ _,fun _ _ h => .inl h,fun _ h => .inl h⟩
theorem Step.trans {g g1 g2:G} {h h1 h2:Heap} {w w1 w2:World} (a:Step g h w g1 h1 w1) (b:Step g1 h1 w1 g2 h2 w2):Step g h w g2 h2 w2:=by
 refine ⟨b.rep,G.le_trans a.le b.le,?_,?_,?_⟩
 ·refine ⟨b.fr.os.trans a.fr.os,b.fr.tape.trans a.fr.tape,b.fr.output.trans a.fr.output,Nat.le_trans a.fr.size b.fr.size,fun i hi hl => ?_⟩
  rw [b.fr.block i (Nat.lt_of_lt_of_le hi a.fr.size) (fun h => ?_),a.fr.block i hi hl]
  rcases a.newL i h with h | h
  ·exact hl h
  ·omega
 ·intro blk arr hb
  rcases b.newM blk arr hb with h | h | h
  ·exact a.newM blk arr h
  ·exact .inr (.inl (Nat.le_trans a.fr.size h))
  ·rcases a.newL blk h with h | h
   ·exact .inr (.inr h)
   ·exact .inr (.inl h)
 ·intro blk hb
  rcases b.newL blk hb with h | h
  ·exact a.newL blk h
  ·exact .inr (Nat.le_trans a.fr.size h)
theorem atB_congr {g g':G} (hb:g'.β=g.β) (b:Nat) (o:Obj) (blk:Nat):atB g' b o blk↔atB g b o blk:=by
 cases o <;> simp [atB,hb]
theorem Live_congr {g g':G} (hb:g'.β=g.β) (h:Heap) (blk:Nat):Live g' h blk↔Live g h blk:=by
 simp only [Live,atB_congr hb]
theorem Rep.live_lt {g:G} {h:Heap} {w:World} (hr:Rep g h w) {blk:Nat} (hl:Live g h blk):blk<w.heap.size∧g.M blk=none:=by
 obtain ⟨b,o,hb,ha⟩:=hl
 have ho:=hr.obj b o hb
 cases o with
 | cells n sz cs =>
  obtain ⟨p,hp,hroom,rfl⟩:=ha
  obtain ⟨_,p',hp',_,_,h3⟩:=ho
  rw [hp] at hp'
  cases hp'
  obtain ⟨hm,arr,e,lo,hi,hh,_⟩:=h3 hroom
  exact ⟨(Array.getElem?_eq_some_iff.1 hh).1,hm⟩
 | map es =>
  obtain ⟨p,hp,rfl⟩:=ha
  obtain ⟨p',hp',hm,ents,clock,hh,_⟩:=ho
  rw [hp] at hp'
  cases hp'
  exact ⟨(Array.getElem?_eq_some_iff.1 hh).1,hm⟩
 | loop y fi st pd =>
  obtain ⟨p,hp,rfl⟩:=ha
  obtain ⟨p',hp',hm,l,hh,_⟩:=ho
  rw [hp] at hp'
  cases hp'
  exact ⟨(Array.getElem?_eq_some_iff.1 hh).1,hm⟩
 | gone=>exact ha.elim
theorem Rep.memOk {g:G} {h:Heap} {w:World} (hr:Rep g h w):MemOk g w:=hr.mem
theorem EntsR.mono {g g':G} (hg:g.le g'):∀ {i:Nat} {es:List (V×V)} {xs:List MapEntry},EntsR g i es xs→EntsR g' i es xs
 | _,[],[],_=>trivial
 | _,(k,v) :: es,e :: xs,⟨h1,h2,h3,h4⟩=>⟨h1.mono hg,h2.mono hg,h3,EntsR.mono hg h4⟩
 | _,[],_ :: _,h=>h
 | _,(_,_) :: _,[],h=>h
theorem LoopR.mono {g g':G} (hg:g.le g') {y:Nat} {fi:List V} {st:LoopState} {pd:Option (Option Nat)} {l:Loop} (h:LoopR g y fi st pd l):LoopR g' y fi st pd l:=by
 obtain ⟨yi,h1,h2,h3,h4,h5,h6,h7,h8,h9⟩:=h
 exact ⟨yi,by rw [hg.3]; exact h1,h2,h3,h4,h5,h6,h7,h8,h9.mono hg⟩
theorem ObjR.mono {g g':G} {w w':World} {b:Nat} {o:Obj} (h:ObjR g w b o) (hle:g.le g') (hM:∀ blk,atB g b o blk→g'.M blk=none)
  (hw:∀ blk,atB g b o blk→w'.heap[blk]?=w.heap[blk]?):ObjR g' w' b o:=by
 cases o with
 | cells n sz cs =>
  obtain ⟨h1,p,hp,h2,h3,h4⟩:=h
  refine ⟨h1,p,hle.2 _ _ _ hp,h2,h3,fun hroom => ?_⟩
  obtain ⟨hm,arr,e,lo,hi,hh,h5,h6,h8,h7⟩:=h4 hroom
  have ha:atB g b (.cells n sz cs) p.blk:=⟨p,hp,hroom,rfl⟩
  exact ⟨hM _ ha,arr,e,lo,hi,by rw [hw _ ha]; exact hh,h5,h6,h8,h7.mono hle⟩
 | map es =>
  obtain ⟨p,hp,hm,ents,clock,hh,hc,he⟩:=h
  exact ⟨p,hle.2 _ _ _ hp,hM _ ⟨p,hp,rfl⟩,ents,clock,by rw [hw _ ⟨p,hp,rfl⟩]; exact hh,hc,he.mono hle⟩
 | loop y fi st pd =>
  obtain ⟨p,hp,hm,l,hh,hl⟩:=h
  exact ⟨p,hle.2 _ _ _ hp,hM _ ⟨p,hp,rfl⟩,l,by rw [hw _ ⟨p,hp,rfl⟩]; exact hh,hl.mono hle⟩
 | gone=>trivial
theorem Grow.step {g g':G} {h:Heap} {w w':World} (hr:Rep g h w) (hg:Grow g w g' w'):Step g h w g' h w':=by
 have hblk:∀ i,i<w.heap.size→w'.heap[i]?=w.heap[i]?:=fun i hi=>hg.fr.block i hi (fun h=>h)
 refine ⟨⟨?_,?_,?_,?_,?_⟩,hg.le,⟨hg.fr.os,hg.fr.tape,hg.fr.output,hg.fr.size,fun i hi _=>hblk i hi⟩,?_,?_⟩
 ·intro blk arr hM
  rcases hg.mem blk arr hM with h' | ⟨_,h'⟩
  ·obtain ⟨e,fz,hh⟩:=hr.mem blk arr h'
   exact ⟨e,fz,by rw [hblk _ (Array.getElem?_eq_some_iff.1 hh).1]; exact hh⟩
  ·exact h'
 ·intro b o hb
  refine (hr.obj b o hb).mono hg.le (fun blk ha => ?_) (fun blk ha=>hblk _ (hr.live_lt ⟨b,o,hb,ha⟩).1)
  obtain ⟨hlt,hm⟩:=hr.live_lt ⟨b,o,hb,ha⟩
  cases hM:g'.M blk with
  | none=>rfl
  | some arr =>
   rcases hg.mem blk arr hM with h' | ⟨h',_⟩
   ·rw [hm] at h'; cases h'
   ·omega
 ·intro b b' o o' blk h1 h2 h3 h4
  exact hr.one b b' o o' blk h1 h2 ((atB_congr hg.beta b o blk).1 h3) ((atB_congr hg.beta b' o' blk).1 h4)
 ·intro b n p hp
  rw [hg.beta] at hp
  exact hr.old b n p hp
 ·intro b n sz cs m p hb hp
  rw [hg.beta] at hp
  exact hr.top b n sz cs m p hb hp
 ·intro blk arr hM
  rcases hg.mem blk arr hM with h' | ⟨h',_⟩
  ·exact .inl h'
  ·exact .inr (.inl h')
 ·intro blk hl
  exact .inl ((Live_congr hg.beta h blk).1 hl)
section
variable {P:Program} {g:G} {h:Heap} {w:World}
theorem objCells_rep (hr:Rep g h w) {b n sz:Nat} {cs:List V} (ho:objCells h b=some (n,sz,cs)):h[b]?=some (.cells n sz cs)∧ObjR g w b (.cells n sz cs):=by
 unfold objCells at ho
 split at ho
 ·rename_i n' sz' cs' hb
  cases ho
  exact ⟨hb,hr.obj b _ hb⟩
 ·cases ho
theorem obj_range (hr:Rep g h w) {b n sz off size:Nat} {cs:List V} {p:Place} (ho:objCells h b=some (n,sz,cs)) (hp:g.β b n=some p) (hle:off+size≤cs.length) (hpos:0<size) :
  0<p.room∧p.sz=sz∧∃ arr e lo hi,w.heap[p.blk]?=some (.cells arr e (lo,hi))∧off+size≤arr.size∧(lo≤hi∧∀ i,i<arr.size+fzx sz→¬ (lo≤i∧i<hi))∧arr.size=p.room * sz∧n≤p.room∧(∀ u∈arr.toList.take (n * sz),u.oneCell'=true) ∧
   RVs g cs (arr.toList.take (n * sz))∧RVs g ((cs.drop off).take size) ((arr.toList.drop off).take size):=by
 obtain ⟨hb,h1,p',hp',h2,h3,h4⟩:=objCells_rep hr ho
 rw [hp] at hp'
 cases hp'
 have hn:0<n * sz:=by omega
 have hn0:0<n:=Nat.pos_of_ne_zero (fun h=>by simp [h] at hn)
 obtain ⟨hm,arr,e,lo,hi,hh,h5,h6,h8,h7⟩:=h4 (by omega)
 have hsz:n * sz≤p.room * sz:=Nat.mul_le_mul_right _ h3
 refine ⟨by omega,h2,arr,e,lo,hi,hh,by omega,h6,h5,h3,h8,h7,?_⟩
 have:=(h7.drop off).take size
 rw [List.drop_take,List.take_take] at this
 rwa [Nat.min_eq_left (by omega)] at this
theorem run_loadVar_none {t:TypeId} (ht:tyOk P t 0 true=true) (a:Addr):(loadVar t a).run P w = .ok (.agg #[]) w:=by
 have hs:=tyOk_size ht
 have ha:aggB P t=some true:=by simp only [tyOk,Bool.and_eq_true] at ht; simpa using ht.2
 simp [loadVar,run_isAgg ha,run_sizeOf hs,loadCells,loadCellsFrom]
theorem load_sound (hr:Rep g h w) {t:TypeId} {a:V} {x:Value} {size:Nat} {ag:Bool} {v:V} (ht:tyOk P t size ag=true) (hx:RV g a x) (hv:loadV h a size ag=some v) :
  ∃ ad,x = .pointer (some ad)∧∃ vv,(loadVar t ad).run P w = .ok vv w∧RV g v vv:=by
 unfold loadV at hv
 split at hv
 ·rename_i cs
  split at hv
  ·rename_i hle
   obtain ⟨blk,off,arr,xs,rfl,hM,hxs,hrd⟩:=hx.pv_inv
   refine ⟨_,rfl,?_⟩
   obtain ⟨e,fz,hh⟩:=hr.mem blk arr hM
   have hlen:=hrd.length
   have hl2:=congrArg List.length hxs
   simp at hl2
   by_cases h0:size=0
   ·subst h0
    have hag:ag=true:=by
     cases ag with
     | true=>rfl
     | false=>have:=mkV_one hv rfl; simp at this
    subst hag
    simp [mkV] at hv
    subst hv
    exact ⟨_,run_loadVar_none ht _,.agg _ _ (by simpa using RVs.nil)⟩
   ·obtain ⟨vv,hrun,hvv⟩:=run_loadVar_blk (P:=P) ht hh (off:=off) (by omega) (fun ha=>by subst ha; have:=mkV_one hv rfl; simp at this; omega)
    refine ⟨vv,hrun,?_⟩
    have hpart:RVs g (cs.take size) ((arr.toList.drop off).take size):=by
     have:=(hrd.rvs (g:=g)).take size
     rw [hxs,List.take_take,Nat.min_eq_left (by omega)] at this
     exact this
    refine mkV_rv hpart hv vv ?_
    cases ag with
    | true=>simpa using hvv
    | false =>
     simp only [Bool.false_eq_true,if_false] at hvv ⊢
     rw [List.getElem?_take_of_lt (by omega)]
     simpa using hvv
  ·cases hv
 ·rename_i b off gen
  obtain ⟨p,hp,rfl⟩:=hx.ref_inv
  refine ⟨_,rfl,?_⟩
  split at hv
  ·rename_i n sz cs ho
   split at hv
   ·rename_i hc
    obtain ⟨rfl,hle⟩:=hc
    by_cases h0:size=0
    ·subst h0
     have hag:ag=true:=by
      cases ag with
      | true=>rfl
      | false=>have:=mkV_one hv rfl; simp at this
     subst hag
     simp [mkV] at hv
     subst hv
     exact ⟨_,run_loadVar_none ht _,.agg _ _ (by simpa using RVs.nil)⟩
    ·obtain ⟨_,_,arr,e,lo,hi,hh,hsz,_,_,_,_,_,hpart⟩:=obj_range hr ho hp hle (Nat.pos_of_ne_zero h0)
     obtain ⟨vv,hrun,hvv⟩:=run_loadVar_blk (P:=P) ht hh (off:=off) hsz (fun ha=>by subst ha; have:=mkV_one hv rfl; simp at this; omega)
     refine ⟨vv,hrun,mkV_rv hpart hv vv ?_⟩
     cases ag with
     | true=>simpa using hvv
     | false =>
      simp only [Bool.false_eq_true,if_false] at hvv ⊢
      rw [List.getElem?_take_of_lt (by omega)]
      simpa using hvv
   ·cases hv
  ·cases hv
 ·cases hv
end
end Go.Am
