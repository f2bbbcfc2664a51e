/- A part of the proof of grammarsComeBack (merged by a program). -/
import Derived.Below
import Derived.Calls
section
namespace Go.Am
open Go
inductive AV where
 |bool (b:Bool)
 |int (k:IntKind) (n:Int)
 |str (s:List UInt8)
 |Ba
 |AO (o off:Nat)
 |BN (cs:List AV)
 |AB
 |list (tight:Bool) (sz:Nat) (xs:List AV)
 |AU (o off len:Nat) (cap:Option Nat)
 |De
 |Cq (o:Nat)
 |Gs (ks vs:List AV)
 |fn (f:Fn) (first captured:List AV)
 |Ih
 |iface (t:Nat) (v:AV)
 |Cs
 |agg (cs:List AV)
 |tuple (vs:List AV)
 deriving Inhabited
def AV.undef:AV:=.tuple []
def AV.cells:AV->List AV
 |.agg cs=>cs
 |v=>[v]
def AV.isTuple:AV->Bool
 |.tuple _=>true
 |_=>false
inductive Al where
 |cells (ty sz:Nat) (cs:List AV) (ext:Bool)
 |map (ks vs:List AV) (borns:List Nat) (clock:Nat)
 |iter (m:Option Nat) (since:Nat) (seen:List Nat) (stepped:Nat)
 deriving Inhabited
inductive M (α:Type) where
 |ret (a:α)
 |fail
 |ask (n:Nat) (k:Nat->M α)
namespace M
variable {α β:Type}
def bind:M α->(α->M β)->M β
 |.ret a,f=>f a
 |.fail,_=>.fail
 |.ask n k,f=>.ask n fun i=>(k i).bind f
def all (Q:α->Prop):M α->Prop
 |.ret a=>Q a
 |.fail=>False
 |.ask n k=>∀i,i<=n->(k i).all Q
def Bt:Option α->M α
 |some a=>.ret a
 |none=>.fail
end M
abbrev Heap:=List (Nat × Al)
def AA:Heap->Nat->Option Al
 |[],_=>none
 |(i,x)::h,o=>bif Nat.beq i o then some x else AA h o
def Aa:Heap->Nat->Al->Heap
 |[],_,_=>[]
 |(i,x)::h,o,y=>bif Nat.beq i o then (i,y)::h else (i,x)::Aa h o y
def GL:Heap->Nat->Heap
 |[],_=>[]
 |(i,x)::h,o=>bif Nat.beq i o then GL h o else (i,x)::GL h o
def LZ:Heap->Nat->Al->Option Heap
 |[],o,y=>some [(o,y)]
 |(i,x)::h,o,y=>bif Nat.blt i o then some ((o,y)::(i,x)::h) else bif Nat.beq i o then none else match LZ h o y with
  |some h=>some ((i,x)::h)
  |none=>none
structure St where
 h:Heap
 c:Nat
 lo:Nat
 deriving Inhabited
inductive Ext where
 |same|indexByte|compare
 deriving Inhabited
inductive CK where
 |bool|int|str
 deriving DecidableEq,Inhabited
inductive KK where
 |one (c:CK)
 |many (cs:List CK)
 deriving DecidableEq,Inhabited
inductive EK where
 |key (k:KK)|ptr|slice|map|func|iface
 deriving DecidableEq,Inhabited
inductive LK where
 |str|slice|map
 deriving DecidableEq,Inhabited
inductive AK where
 |fail
 |move
 |pick
 |alloc (id ty sz:Nat) (zero:List AV)
 |box (id ty sz:Nat)
 |build (zero:List AV) (places:List (Nat × Nat))
 |buildSlice (id ty sz len:Nat) (zero:List AV) (offs:List Nat)
 |load (agg:Option Nat)
 |store (n:Nat)
 |nilCheck
 |bin (op:BinOp)
 |eq (neg:Bool) (k:EK)
 |PV (neg:Bool) (ts:List (Nat × CK))
 |un (op:UnOp)
 |Ab (k:IntKind)
 |IJ
 |Gx (id ty:Nat)
 |Ir
 |BZ (t:Nat)
 |Im (f:Fn) (nfirst:Nat)
 |mkMap (id:Nat)
 |mkSlice (id ty sz bytes:Nat) (zero:List AV)
 |BH (lo hi:Bool)
 |slice (sz:Nat) (lo hi mx:Bool)
 |IM (len sz:Nat) (lo hi:Bool)
 |fieldAddr (off:Nat)
 |field (off:Nat) (agg:Option Nat)
 |indexAddr (sz:Nat)
 |Cy (len sz:Nat)
 |Ag
 |lookup (kk:KK) (zero:AV) (ok:Bool)
 |mapUpdate (kk:KK)
 |mapEntry (kk:KK) (zero:AV)
 |entryStore
 |rangeMap (id:Nat)
 |next
 |entry
 |extract (i:Nat)
 |len (k:LK)
 |cap
 |min
 |max
 |append (id ty sz bytes:Nat)
 |JH (id ty:Nat)
 |copy (sz:Nat)
 |clear (zero:List AV)
 |ND (ty n:Nat)
 |LJ
 |JE (ty:Nat)
 |call (f:Nat)
 |Bi
 |invoke (name:String)
 |ext (e:Ext)
 deriving Inhabited
 mutual
def AV.beq:AV->AV->Bool
 |.bool a,.bool b=>a==b
 |.int k a,.int j b=>k==j&&a==b
 |.str a,.str b=>a==b
 |.Ba,.Ba=>true
 |.AO o a,.AO p b=>o==p&&a==b
 |.BN a,.BN b=>AV.Ns a b
 |.AB,.AB=>true
 |.list t n a,.list u m b=>t==u&&n==m&&AV.Ns a b
 |.AU o a l c,.AU p b m d=>o==p&&a==b&&l==m&&c==d
 |.De,.De=>true
 |.Cq o,.Cq p=>o==p
 |.Gs a b,.Gs c d=>AV.Ns a c&&AV.Ns b d
 |.fn f a b,.fn g c d=>decide (f=g)&&AV.Ns a c&&AV.Ns b d
 |.Ih,.Ih=>true
 |.iface t v,.iface u w=>t==u&&AV.beq v w
 |.Cs,.Cs=>true
 |.agg a,.agg b=>AV.Ns a b
 |.tuple a,.tuple b=>AV.Ns a b
 |_,_=>false
def AV.Ns:List AV->List AV->Bool
 |[],[]=>true
 |a::x,b::y=>AV.beq a b&&AV.Ns x y
 |_,_=>false
end
def Nt:IntKind->IntKind->Bool
 |.i8,.i8|.i16,.i16|.i32,.i32|.i64,.i64|.u8,.u8|.u16,.u16|.u32,.u32|.u64,.u64=>true
 |_,_=>false
def WA (c:CK)(x y:AV):Option Bool:=match c with
 |.bool=>match x,y with
  |.bool a,.bool b=>some (a==b)
  |_,_=>none
 |.int=>match x,y with
  |.int k a,.int j b=>bif Nt k j then some (a==b) else none
  |_,_=>none
 |.str=>match x,y with
  |.str a,.str b=>some (a==b)
  |_,_=>none
def Nr:List CK->List AV->List AV->Option Bool
 |[],[],[]=>some true
 |c::cs,a::x,b::y=>match WA c a b with
  |some true=>Nr cs x y
  |some false=>match Nr cs x y with
   |some _=>some false
   |none=>none
  |none=>none
 |_,_,_=>none
def dU (k:KK)(x y:AV):Option Bool:=match k with
 |.one c=>WA c x y
 |.many cs=>match x with
  |.agg a=>match y with
   |.agg b=>Nr cs a b
   |_=>none
  |_=>none
def Zw (k:EK)(x y:AV):Option Bool:=
 match k with
 |.key k=>dU k x y
 |.ptr=>match x,y with
  |.Ba,.Ba=>some true
  |.Ba,.AO ..|.Ba,.BN _|.AO ..,.Ba|.BN _,.Ba=>some false
  |.AO o a,.AO p b=>bif Nat.beq o p then some (Nat.beq a b) else none
  |_,_=>none
 |.slice=>match x,y with
  |.AB,.AB=>some true
  |.AB,.list ..|.AB,.AU ..|.list ..,.AB|.AU ..,.AB=>some false
  |_,_=>none
 |.map=>match x,y with
  |.De,.De=>some true
  |.De,.Cq _|.De,.Gs ..|.Cq _,.De|.Gs ..,.De=>some false
  |_,_=>none
 |.func=>match x,y with
  |.Ih,.Ih=>some true
  |.Ih,.fn ..|.fn ..,.Ih=>some false
  |_,_=>none
 |.iface=>match x,y with
  |.Cs,.Cs=>some true
  |.Cs,.iface ..|.iface ..,.Cs=>some false
  |_,_=>none
def KL (k:KK)(x:AV):Bool:=match k with
 |.one _=>true
 |.many cs=>match x with
  |.agg a=>Nat.beq a.length cs.length
  |_=>false
def FY (kk:KK):List AV->AV->Option (Option Nat)
 |[],_=>some none
 |k::ks,x=>match dU kk x k with
  |some true=>some (some 0)
  |some false=>match FY kk ks x with
   |some (some i)=>some (some (i+1))
   |some none=>some none
   |none=>none
  |none=>none
def intBits (op:BinOp)(k:IntKind)(x y:Int):Option AV:=
 let a:=BitVec.ofInt k.bits x
 let b:=BitVec.ofInt k.bits y
 match op with
 |.and=>some (.int k (k.wrap (a &&& b).toNat))
 |.or=>some (.int k (k.wrap (a ||| b).toNat))
 |.xor=>some (.int k (k.wrap (a ^^^ b).toNat))
 |.andNot=>some (.int k (k.wrap (a &&& ~~~b).toNat))
 |_=>none
def Xi (op:BinOp)(k:IntKind)(a b:Int):Option AV:=
 match op with
 |.add=>some (.int k (k.wrap (a+b)))
 |.sub=>some (.int k (k.wrap (a-b)))
 |.mul=>some (.int k (k.wrap (a*b)))
 |.quo=>if b=0 then none else some (.int k (k.wrap (a.tdiv b)))
 |.rem=>if b=0 then none else some (.int k (a.tmod b))
 |.eql=>some (.bool (a==b))
 |.neq=>some (.bool (a !=b))
 |.lss=>some (.bool (decide (a<b)))
 |.leq=>some (.bool (decide (a<=b)))
 |.gtr=>some (.bool (decide (b<a)))
 |.geq=>some (.bool (decide (b<=a)))
 |op=>intBits op k a b
def Vl (op:BinOp)(k:IntKind)(a b:Int):Option AV:=
 if b<0 then none else
 match op with
 |.shl=>some (.int k (k.wrap (a*2 ^ min b.toNat k.bits)))
 |.shr=>some (.int k (a.fdiv (2 ^ min b.toNat k.bits)))
 |_=>none
def NZ:BinOp->Bool
 |.shl|.shr=>true
 |_=>false
def Xh (op:BinOp)(a b:List UInt8):Option AV:=
 match op with
 |.add=>if a.length+b.length<=2 ^ 62 then some (.str (a++b)) else none
 |.eql=>some (.bool (a==b))
 |.neq=>some (.bool !(a==b))
 |.lss=>some (.bool (Op.bytesLess a b))
 |.leq=>some (.bool (Op.bytesLess a b||a==b))
 |.gtr=>some (.bool !(Op.bytesLess a b||a==b))
 |.geq=>some (.bool !(Op.bytesLess a b))
 |_=>none
def bin (op:BinOp)(x y:AV):Option AV:=
 match x with
 |.int k a=>match y with
  |.int j b=>bif NZ op then Vl op k a b else bif Nt k j then Xi op k a b else none
  |_=>none
 |.str a=>match y with
  |.str b=>Xh op a b
  |_=>none
 |_=>none
def Rf (neg:Bool)(k:EK)(x y:AV):Option AV:=match Zw k x y with
 |some e=>some (.bool (e !=neg))
 |none=>none
def un (op:UnOp)(x:AV):Option AV:=
 match op,x with
 |.neg,.int k n=>some (.int k (k.wrap (0-n)))
 |.xor,.int k n=>intBits .xor k (if k.signed then -1 else k.max) n
 |.not,.bool b=>some (.bool !b)
 |_,_=>none
def Ac (h:Heap)(p:AV)(n:Nat):Option (List AV):=
 match p with
 |.AO o off=>match AA h o with
  |some (.cells _ _ cs _)=>bif Nat.ble (off+n) cs.length then some ((cs.drop off).take n) else none
  |_=>none
 |.BN cs=>bif Nat.ble n cs.length then some (cs.take n) else none
 |_=>none
def AP (h:Heap)(p:AV):Option AV:=
 match p with
 |.AO o off=>match AA h o with
  |some (.cells _ _ cs _)=>cs[off]?
  |_=>none
 |.BN (v::_)=>some v
 |_=>none
def GU (h:Heap)(agg:Option Nat)(p:AV):Option AV:=
 match agg with
 |some n=>(Ac h p n).map .agg
 |none=>AP h p
def BS (cs:List AV)(off:Nat)(vs:List AV):List AV:=cs.take off++(vs++cs.drop (off+vs.length))
def BI (st:St)(o off:Nat)(vs:List AV):Option St:=
 bif Nat.blt o st.lo then none else
 match AA st.h o with
 |some (.cells ty sz cs ext)=>bif Nat.ble (off+vs.length) cs.length then some { st with h:=Aa st.h o (.cells ty sz (BS cs off vs) ext) } else none
 |_=>none
def newObj (o:Nat)(ob:Al)(st:St):Option St:=
 match LZ st.h o ob with
 |some h=>some { st with h }
 |none=>none
def Au (h:Heap)(sz n:Nat)(v:AV):Option (List AV):=
 match v with
 |.AB=>bif Nat.beq n 0 then some [] else none
 |.list _ sz' xs=>bif Nat.ble n xs.length&&Nat.beq sz' sz then some ((xs.take n).flatMap AV.cells) else none
 |.AU o off len _=>match AA h o with
  |some (.cells _ sz' cs _)=>bif Nat.beq sz' sz&&Nat.ble n len&&Nat.ble (off+n*sz) cs.length then some ((cs.drop off).take (n*sz)) else none
  |_=>none
 |_=>none
def asNat:AV->Option Nat
 |.int _ (.ofNat n)=>some n
 |_=>none
def lenOf:AV->Option Nat
 |.AB=>some 0
 |.list _ _ xs=>some xs.length
 |.AU _ _ len _=>some len
 |.str s=>some s.length
 |_=>none
def room:Nat:=2 ^ 40
def grow (o ty sz bytes len n:Nat)(cs:List AV)(st:St):Option (AV × St):=
 bif Nat.ble ((len+n)*bytes) room&&Nat.ble (len+n) room then
  match newObj o (.cells ty sz cs true) st with
  |some st=>some (.AU o 0 (len+n) none,st)
  |none=>none
 else none
def Dr (o' ty sz bytes n:Nat)(new:List AV)(st:St)(o off len:Nat)(cap:Option Nat):Option (AV × St):=
 match AA st.h o with
 |some (.cells ty' sz' cs ext)=>
  bif Nat.beq ty' ty&&Nat.beq sz' sz&&Nat.ble (off+len*sz) cs.length then
   match cap with
   |some c=>
    bif Nat.ble (len+n) c then
     match BI st o (off+len*sz) new with
     |some st=>some (.AU o off (len+n) cap,st)
     |none=>none
    else grow o' ty sz bytes len n ((cs.drop off).take (len*sz)++new) st
   |none=>
    bif Nat.ble (off+(len+n)*sz) cs.length then
     match BI st o (off+len*sz) new with
     |some st=>some (.AU o off (len+n) cap,st)
     |none=>none
    else bif ext&&Nat.ble st.lo o then grow o' ty sz bytes len n ((cs.drop off).take (len*sz)++new) { st with h:=GL st.h o } else none
  else none
 |_=>none
def BV (o' ty sz bytes:Nat)(x:AV)(n:Nat)(new:List AV)(st:St):Option (AV × St):=
 bif Nat.beq sz 0 then none else
 match x with
 |.AB=>bif Nat.beq n 0 then some (.AB,st) else grow o' ty sz bytes 0 n new st
 |.list tight sz' xs=>
  bif Nat.beq n 0 then some (x,st)
  else bif tight&&Nat.beq sz' sz then grow o' ty sz bytes xs.length n (xs.flatMap AV.cells++new) st else none
 |.AU o off len cap=>bif Nat.beq n 0 then some (x,st) else Dr o' ty sz bytes n new st o off len cap
 |_=>none
def Iy (tight:Bool)(sz:Nat)(xs:List AV)(lo hi mx:Option Nat):Option AV:=
 let h:=hi.getD xs.length
 let l:=lo.getD 0
 match mx with
 |none=>bif Nat.ble l h&&Nat.ble h xs.length then some (.list (tight&&Nat.beq h xs.length) sz ((xs.take h).drop l)) else none
 |some m=>bif Nat.ble l h&&Nat.ble h m&&Nat.ble m xs.length then some (.list (Nat.beq m h) sz ((xs.take h).drop l)) else none
def Gp (n sz o off len:Nat)(cap lo hi mx:Option Nat):Option AV:=
 let e:=hi.getD len
 let l:=lo.getD 0
 bif Nat.ble l e then
  match mx,cap with
  |none,some c=>bif Nat.ble e c then some (.AU o (off+l*sz) (e-l) (some (c-l))) else none
  |none,none=>bif Nat.ble (off+e*sz) n then some (.AU o (off+l*sz) (e-l) none) else none
  |some m,some c=>bif Nat.ble e m&&Nat.ble m c then some (.AU o (off+l*sz) (e-l) (some (m-l))) else none
  |some m,none=>bif Nat.ble e m&&Nat.ble (off+m*sz) n then some (.AU o (off+l*sz) (e-l) (some (m-l))) else none
 else none
def CE (sz:Nat)(x:AV)(lo hi mx:Option Nat)(h:Heap):Option AV:=
 match x with
 |.AB=>bif Nat.beq (lo.getD 0) 0&&Nat.beq (hi.getD 0) 0&&Nat.beq (mx.getD 0) 0 then some .AB else none
 |.list tight sz' xs=>bif Nat.beq sz' sz then Iy tight sz xs lo hi mx else none
 |.AU o off len cap=>match AA h o with
  |some (.cells _ sz' cs _)=>bif Nat.beq sz' sz&&Nat.blt 0 sz then Gp cs.length sz o off len cap lo hi mx else none
  |_=>none
 |_=>none
def DC (is:Bool)(l:List AV):Option (Option Nat × List AV):=
 match is with
 |false=>some (none,l)
 |true=>match l with
  |a::l=>match asNat a with
   |some n=>some (some n,l)
   |none=>none
  |[]=>none
def BA:List AV->List (Nat × Nat)->List AV->Option (List AV)
 |cs,[],[]=>some cs
 |cs,(off,size)::ps,v::vs=>
  bif v.isTuple then none
  else bif Nat.beq v.cells.length size&&Nat.ble (off+size) cs.length then BA (BS cs off v.cells) ps vs else none
 |_,_,_=>none
def OP (k:IntKind)(x:Int):List AV->Option AV
 |[]=>some (.int k x)
 |.int _ y::l=>OP k (if y<x then y else x) l
 |_=>none
def OQ (k:IntKind)(x:Int):List AV->Option AV
 |[]=>some (.int k x)
 |.int _ y::l=>OQ k (if y>x then y else x) l
 |_=>none
def FV (zero:List AV):Nat->List AV
 |0=>[]
 |n+1=>zero++FV zero n
def byteOf:AV->Option UInt8
 |.int .u8 n=>some (UInt8.ofNat n.toNat)
 |_=>none
def bytesOf:List AV->Option (List UInt8)
 |[]=>some []
 |c::l=>match byteOf c with
  |some b=>match bytesOf l with
   |some l=>some (b::l)
   |none=>none
  |none=>none
def Ch (l:List UInt8):List AV:=l.map fun b=>.int .u8 b.toNat
 mutual
def AV.CF (c:Nat):AV->Bool
 |.AO o _|.AU o _ _ _|.Cq o=>Nat.blt o c
 |.BN cs|.agg cs|.tuple cs|.list _ _ cs=>AV.Cx c cs
 |.Gs a b|.fn _ a b=>AV.Cx c a&&AV.Cx c b
 |.iface _ v=>AV.CF c v
 |_=>true
def AV.Cx (c:Nat):List AV->Bool
 |[]=>true
 |v::l=>AV.CF c v&&AV.Cx c l
end
abbrev R:=Option (AV × St)
def FJ (l:List AV)(f:AV->R):R:=match l with
 |[x]=>f x
 |_=>none
def GD (l:List AV)(f:AV->AV->R):R:=match l with
 |[x,y]=>f x y
 |_=>none
def RA (l:List AV)(f:AV->AV->AV->R):R:=match l with
 |[x,y,z]=>f x y z
 |_=>none
def Df (st:St)(v:Option AV):R:=match v with
 |some v=>some (v,st)
 |none=>none
def CO (v:AV)(st:Option St):R:=match st with
 |some st=>some (v,st)
 |none=>none
def LV (c a b:AV)(st:St):R:=match c with
 |.bool t=>some (bif t then a else b,st)
 |_=>none
abbrev B:=Option (AV × Al)
def MJ (o:Nat)(r:B)(st:St):R:=match r with
 |some (v,ob)=>CO v (newObj o ob st)
 |none=>none
def Gy (o ty sz:Nat)(x:AV):B:=bif x.isTuple then none else some (.AO o 0,.cells ty sz x.cells false)
def Ar (o ty sz len:Nat)(zero:List AV)(offs:List Nat)(parts:List AV):B:=
 bif Nat.blt 0 sz then
  match BA zero (offs.map fun i=>(i*sz,sz)) parts with
  |some cs=>bif Nat.beq cs.length (len*sz) then some (.AU o 0 len (some len),.cells ty sz cs false) else none
  |none=>none
 else none
def BJ (n:Nat)(p v:AV)(st:St):R:=match p with
 |.AO o off=>bif v.isTuple||!Nat.beq v.cells.length n then none else CO .undef (BI st o off v.cells)
 |_=>none
def CQ (x:AV)(st:St):R:=match x with
 |.AO ..|.BN _=>some (x,st)
 |.fn (.func _) _ _=>some (x,st)
 |_=>none
def bu:List (Nat × CK)->Nat->Option CK
 |[],_=>none
 |(u,c)::l,t=>bif Nat.beq u t then some c else bu l t
def QN (neg:Bool)(ts:List (Nat × CK))(x y:AV)(st:St):R:=match x with
 |.Cs=>match y with
  |.iface ..=>some (.bool neg,st)
  |_=>none
 |.iface t a=>match y with
  |.Cs=>some (.bool neg,st)
  |.iface u b=>bif Nat.beq t u then (match bu ts t with
   |some c=>match WA c a b with
    |some e=>some (.bool (e !=neg),st)
    |none=>none
   |none=>none) else some (.bool neg,st)
  |_=>none
 |_=>none
def Hq (k:IntKind)(x:AV)(st:St):R:=match x with
 |.int _ n=>some (.int k (k.wrap n),st)
 |_=>none
def Gc (x:AV)(st:St):R:=match x with
 |.str _=>some (x,st)
 |.int _ (.ofNat n)=>if n<128 then some (.str [UInt8.ofNat n],st) else none
 |_=>none
def IE (x:AV)(st:St):R:=match x with
 |.str _=>none
 |x=>match lenOf x with
  |some n=>match Au st.h 1 n x with
   |some cs=>Df st ((bytesOf cs).map .str)
   |none=>none
  |none=>none
def Nu (o ty:Nat)(x:AV):B:=match x with
 |.str l=>bif Nat.ble l.length room then some (.AU o 0 l.length none,.cells ty 1 (Ch l) true) else none
 |_=>none
def KZ (o ty sz bytes:Nat)(zero:List AV)(l c:AV):B:=match asNat l with
 |some l=>match asNat c with
  |some c=>bif Nat.ble l c&&Nat.ble (c*bytes) room&&Nat.ble c room&&Nat.blt 0 sz&&Nat.beq zero.length sz then
   some (.AU o 0 l (some c),.cells ty sz (FV zero c) false) else none
  |none=>none
 |none=>none
def CJ (lo hi:Bool)(l:List AV)(st:St):R:=match l with
 |.str x::l=>match DC lo l with
  |some (a,l)=>match DC hi l with
   |some (b,[])=>
    let e:=b.getD x.length
    let f:=a.getD 0
    bif Nat.ble f e&&Nat.ble e x.length then some (.str ((x.take e).drop f),st) else none
   |_=>none
  |none=>none
 |_=>none
def Bz (sz:Nat)(lo hi mx:Bool)(l:List AV)(st:St):R:=match l with
 |x::l=>match DC lo l with
  |some (a,l)=>match DC hi l with
   |some (b,l)=>match DC mx l with
    |some (m,[])=>Df st (CE sz x a b m st.h)
    |_=>none
   |none=>none
  |none=>none
 |_=>none
def Hm (len sz:Nat)(lo hi:Bool)(l:List AV)(st:St):R:=match l with
 |.AO o off::l=>match DC lo l with
  |some (a,l)=>match DC hi l with
   |some (b,[])=>match AA st.h o with
    |some (.cells _ sz' cs false)=>
     let e:=b.getD len
     let f:=a.getD 0
     bif Nat.beq sz' sz&&Nat.blt 0 sz&&Nat.ble f e&&Nat.ble e len&&Nat.ble (off+len*sz) cs.length then some (.AU o (off+f*sz) (e-f) (some (len-f)),st) else none
    |_=>none
   |_=>none
  |none=>none
 |_=>none
def DR (off:Nat)(p:AV)(st:St):R:=match p with
 |.AO o a=>some (.AO o (a+off),st)
 |.BN cs=>some (.BN (cs.drop off),st)
 |_=>none
def Lt (off:Nat)(agg:Option Nat)(x:AV)(st:St):R:=match x with
 |.agg cs=>match agg with
  |some n=>bif Nat.ble (off+n) cs.length then some (.agg ((cs.drop off).take n),st) else none
  |none=>Df st cs[off]?
 |_=>none
def Ad (sz:Nat)(x i:AV)(st:St):R:=match asNat i with
 |some i=>match x with
  |.list _ sz' xs=>bif Nat.beq sz' sz then match xs[i]? with
   |some v=>some (.BN v.cells,st)
   |none=>none
   else none
  |.AU o off len _=>match AA st.h o with
   |some (.cells _ sz' _ _)=>bif Nat.blt i len&&Nat.beq sz' sz then some (.AO o (off+i*sz),st) else none
   |_=>none
  |_=>none
 |none=>none
def Ho (len sz:Nat)(p i:AV)(st:St):R:=match asNat i with
 |some i=>bif Nat.blt i len then match p with
  |.AO o off=>some (.AO o (off+i*sz),st)
  |.BN cs=>some (.BN (cs.drop (i*sz)),st)
  |_=>none
  else none
 |none=>none
def CR (x i:AV)(st:St):R:=match asNat i with
 |some i=>match x with
  |.str l=>match l[i]? with
   |some b=>some (.int .u8 b.toNat,st)
   |none=>none
  |_=>none
 |none=>none
def Jj (zero:AV)(ok:Bool)(r:Option AV)(st:St):R:=
 some (bif ok then .tuple [r.getD zero,.bool r.isSome] else r.getD zero,st)
def Ie (kk:KK)(zero:AV)(ok:Bool)(ks vs:List AV)(k:AV)(st:St):R:=bif KL kk k then match FY kk ks k with
 |some none=>Jj zero ok none st
 |some (some i)=>match vs[i]? with
  |some v=>Jj zero ok (some v) st
  |none=>none
 |none=>none
 else none
def Gq (kk:KK)(zero:AV)(ok:Bool)(m k:AV)(st:St):R:=match m with
 |.De=>Ie kk zero ok [] [] k st
 |.Cq o=>match AA st.h o with
  |some (.map ks vs _ _)=>Ie kk zero ok ks vs k st
  |_=>none
 |.Gs ks vs=>Ie kk zero ok ks vs k st
 |_=>none
def Du (kk:KK)(m k v:AV)(st:St):R:=match m with
 |.Cq o=>bif Nat.blt o st.lo||!KL kk k then none else match AA st.h o with
  |some (.map ks vs bs clock)=>match FY kk ks k with
   |some (some i)=>some (.undef,{ st with h:=Aa st.h o (.map ks (vs.set i v) bs clock) })
   |some none=>some (.undef,{ st with h:=Aa st.h o (.map (ks++[k]) (vs++[v]) (bs++[clock]) (clock+1)) })
   |none=>none
  |_=>none
 |_=>none
def JP (kk:KK)(zero m k:AV)(st:St):R:=match m with
 |.Cq o=>bif Nat.blt o st.lo||!KL kk k then none else match AA st.h o with
  |some (.map ks vs bs clock)=>match FY kk ks k with
   |some (some i)=>match vs[i]?,bs[i]? with
    |some v,some b=>some (.tuple [v,.int .i64 b],st)
    |_,_=>none
   |some none=>some (.tuple [zero,.int .i64 clock],{ st with h:=Aa st.h o (.map (ks++[k]) (vs++[zero]) (bs++[clock]) (clock+1)) })
   |none=>none
  |_=>none
 |_=>none
def Jv:List Nat->Nat->Option Nat
 |[],_=>none
 |x::bs,b=>bif Nat.beq x b then some 0 else match Jv bs b with
  |some i=>some (i+1)
  |none=>none
def Gr (m b v:AV)(st:St):R:=match asNat b with
 |some b=>match m with
  |.Cq o=>bif Nat.blt o st.lo then none else match AA st.h o with
   |some (.map ks vs bs clock)=>match Jv bs b with
    |some i=>some (.undef,{ st with h:=Aa st.h o (.map ks (vs.set i v) bs clock) })
    |none=>none
   |_=>none
  |_=>none
 |none=>none
def JO (o:Nat)(m:AV)(st:St):R:=match m with
 |.De=>CO (.AO o 0) (newObj o (.iter none 0 [] 0) st)
 |.Cq x=>match AA st.h x with
  |some (.map _ _ _ clock)=>CO (.AO o 0) (newObj o (.iter (some x) clock [] clock) st)
  |_=>none
 |_=>none
def Lu (it:AV)(st:St):R:=match it with
 |.AO i 0=>match AA st.h i with
  |some (.iter (some o) _ seen stepped)=>match AA st.h o with
   |some (.map ks vs bs clock)=>bif Nat.beq clock stepped then match seen.getLast? with
    |some b=>match Jv bs b with
     |some j=>match ks[j]?,vs[j]? with
      |some k,some v=>some (.tuple [k,v],st)
      |_,_=>none
     |none=>none
    |none=>none
    else none
   |_=>none
  |_=>none
 |_=>none
def Gb (i:Nat)(x:AV)(st:St):R:=match x with
 |.tuple vs=>Df st vs[i]?
 |_=>none
def Jq (x:AV):Option Nat:=match x with
 |.str l=>some l.length
 |_=>none
def Bu (x:AV):Option Nat:=match x with
 |.AB=>some 0
 |.list _ _ xs=>some xs.length
 |.AU _ _ len _=>some len
 |_=>none
def QW (h:Heap)(x:AV):Option Nat:=match x with
 |.De=>some 0
 |.Cq o=>match AA h o with
  |some (.map ks _ _ _)=>some ks.length
  |_=>none
 |.Gs ks _=>some ks.length
 |_=>none
def Be (k:LK)(x:AV)(st:St):R:=match (match k with|.str=>Jq x|.slice=>Bu x|.map=>QW st.h x) with
 |some n=>some (.int .i64 n,st)
 |none=>none
def MO (x:AV)(st:St):R:=match x with
 |.AB=>some (.int .i64 0,st)
 |.list true _ xs=>some (.int .i64 xs.length,st)
 |.AU _ _ _ (some c)=>some (.int .i64 c,st)
 |_=>none
def Ou (l:List AV)(st:St):R:=match l with
 |.int k x::l=>Df st (OP k x l)
 |_=>none
def Ov (l:List AV)(st:St):R:=match l with
 |.int k x::l=>Df st (OQ k x l)
 |_=>none
def Bq (o ty sz bytes:Nat)(x y:AV)(st:St):R:=match y with
 |.str _=>none
 |y=>match lenOf y with
  |some n=>match Au st.h sz n y with
   |some new=>BV o ty sz bytes x n new st
   |none=>none
  |none=>none
def Gd (o ty:Nat)(x y:AV)(st:St):R:=match y with
 |.str l=>BV o ty 1 1 x l.length (Ch l) st
 |_=>none
def Kn (sz:Nat)(d y:AV)(st:St):R:=match y with
 |.str _=>none
 |y=>match lenOf y with
  |some b=>match d with
   |.AB=>some (.int .i64 0,st)
   |.AU o off a _=>match Au st.h sz (Nat.min b a) y with
    |some cs=>bif Nat.beq (Nat.min b a) 0 then some (.int .i64 0,st) else match AA st.h o with
     |some (.cells _ sz' _ _)=>bif Nat.beq sz' sz then CO (.int .i64 (Nat.min b a)) (BI st o off cs) else none
     |_=>none
    |none=>none
   |_=>none
  |none=>none
def Ko (zero:List AV)(x:AV)(st:St):R:=match x with
 |.AB=>some (.tuple [],st)
 |.AU o off len _=>bif Nat.beq len 0 then some (.tuple [],st) else match AA st.h o with
  |some (.cells _ sz _ _)=>bif Nat.beq zero.length sz then CO (.tuple []) (BI st o off (FV zero len)) else none
  |_=>none
 |_=>none
def Jc (ty n:Nat)(x:AV)(st:St):R:=match x with
 |.Ba=>some (x,st)
 |.AO o 0=>match AA st.h o with
  |some (.cells ty' _ cs false)=>bif Nat.beq ty' ty&&Nat.ble n cs.length then some (x,st) else none
  |_=>none
 |_=>none
def GJ (x:AV)(st:St):R:=match x with
 |.AB=>some (.Ba,st)
 |.AU o off len _=>bif Nat.blt 0 len then some (.AO o off,st) else none
 |_=>none
def GR (ty:Nat)(p n:AV)(st:St):R:=match asNat n with
 |some n=>bif Nat.beq n 0 then (match p with
  |.Ba|.AO ..=>some (.str [],st)
  |_=>none)
  else match p with
   |.AO o off=>bif Nat.blt o st.lo||!Nat.ble n room then none else match AA st.h o with
    |some (.cells ty' _ cs _)=>bif Nat.beq ty' ty&&Nat.ble (off+n) cs.length then
     match bytesOf ((cs.drop off).take n) with
     |some l=>some (.str l,{ st with h:=GL st.h o })
     |none=>none
     else none
    |_=>none
   |_=>none
 |none=>none
def Dc (x c:AV)(st:St):R:=match x with
 |.str l=>match byteOf c with
  |some c=>some (.int .i64 (match l.findIdx? (fun b=>b==c) with|some i=>i|none=>-1),st)
  |_=>none
 |_=>none
def JA (x y:AV)(st:St):R:=match x with
 |.str a=>match y with
  |.str b=>some (.int .i64 (if a==b then 0 else if Op.bytesLess a b then -1 else 1),st)
  |_=>none
 |_=>none
def UY (e:Ext)(args:List AV)(st:St):R:=match e with
 |.same=>FJ args fun x=>some (x,st)
 |.indexByte=>GD args fun x y=>Dc x y st
 |.compare=>GD args fun x y=>JA x y st
def b1 (l:List AV)(f:AV->B):B:=match l with
 |[x]=>f x
 |_=>none
def b2 (l:List AV)(f:AV->AV->B):B:=match l with
 |[x,y]=>f x y
 |_=>none
def born (s:Nat)(k:AK)(args:List AV):B:=
 match k with
 |.alloc id ty sz zero=>some (.AO (s+id) 0,.cells ty sz zero false)
 |.box id ty sz=>b1 args fun x=>Gy (s+id) ty sz x
 |.buildSlice id ty sz len zero offs=>Ar (s+id) ty sz len zero offs args
 |.Gx id ty=>b1 args fun x=>Nu (s+id) ty x
 |.mkMap id=>some (.Cq (s+id),.map [] [] [] 0)
 |.mkSlice id ty sz bytes zero=>b2 args fun l c=>KZ (s+id) ty sz bytes zero l c
 |_=>none
def step (s:Nat)(k:AK)(args:List AV)(st:St):R:=
 match k with
 |.fail=>none
 |.move=>FJ args fun x=>some (x,st)
 |.pick=>RA args fun c a b=>LV c a b st
 |.alloc id ty sz zero=>MJ (s+id) (born s (.alloc id ty sz zero) args) st
 |.box id ty sz=>MJ (s+id) (born s (.box id ty sz) args) st
 |.build zero places=>Df st ((BA zero places args).map .agg)
 |.buildSlice id ty sz len zero offs=>MJ (s+id) (born s (.buildSlice id ty sz len zero offs) args) st
 |.load agg=>FJ args fun p=>Df st (GU st.h agg p)
 |.store n=>GD args fun p v=>BJ n p v st
 |.nilCheck=>FJ args fun x=>CQ x st
 |.bin op=>GD args fun x y=>Df st (bin op x y)
 |.eq neg k=>GD args fun x y=>Df st (Rf neg k x y)
 |.PV neg ts=>GD args fun x y=>QN neg ts x y st
 |.un op=>FJ args fun x=>Df st (un op x)
 |.Ab k=>FJ args fun x=>Hq k x st
 |.IJ=>FJ args fun x=>Gc x st
 |.Gx id ty=>MJ (s+id) (born s (.Gx id ty) args) st
 |.Ir=>FJ args fun x=>IE x st
 |.BZ t=>FJ args fun x=>some (.iface t x,st)
 |.Im f n=>some (.fn f (args.take n) (args.drop n),st)
 |.mkMap id=>MJ (s+id) (born s (.mkMap id) args) st
 |.mkSlice id ty sz bytes zero=>MJ (s+id) (born s (.mkSlice id ty sz bytes zero) args) st
 |.BH lo hi=>CJ lo hi args st
 |.slice sz lo hi mx=>Bz sz lo hi mx args st
 |.IM len sz lo hi=>Hm len sz lo hi args st
 |.fieldAddr off=>FJ args fun p=>DR off p st
 |.field off agg=>FJ args fun x=>Lt off agg x st
 |.indexAddr sz=>GD args fun x i=>Ad sz x i st
 |.Cy len sz=>GD args fun x i=>Ho len sz x i st
 |.Ag=>GD args fun x i=>CR x i st
 |.lookup kk zero ok=>GD args fun m k=>Gq kk zero ok m k st
 |.mapUpdate kk=>RA args fun m k v=>Du kk m k v st
 |.mapEntry kk zero=>GD args fun m k=>JP kk zero m k st
 |.entryStore=>RA args fun m b v=>Gr m b v st
 |.rangeMap id=>FJ args fun m=>JO (s+id) m st
 |.next=>none
 |.entry=>FJ args fun it=>Lu it st
 |.extract i=>FJ args fun x=>Gb i x st
 |.len k=>FJ args fun x=>Be k x st
 |.cap=>FJ args fun x=>MO x st
 |.min=>Ou args st
 |.max=>Ov args st
 |.append id ty sz bytes=>GD args fun x y=>Bq (s+id) ty sz bytes x y st
 |.JH id ty=>GD args fun x y=>Gd (s+id) ty x y st
 |.copy sz=>GD args fun d y=>Kn sz d y st
 |.clear zero=>FJ args fun x=>Ko zero x st
 |.ND ty n=>FJ args fun x=>Jc ty n x st
 |.LJ=>FJ args fun x=>GJ x st
 |.JE ty=>GD args fun p n=>GR ty p n st
 |.call _=>none
 |.Bi=>none
 |.invoke _=>none
 |.ext e=>UY e args st
end Go.Am
end
section
namespace Go.Am
open Go
inductive Gl where
 |tmp (t:Nat)
 |val (v:AV)
 deriving Inhabited
structure Bw where
 dst:Option Nat
 guard:Option (Nat × Bool)
 k:AK
 args:List Gl
 deriving Inhabited
inductive AQ where
 |skip
 |region (na:Nat) (ops:List Bw)
 |draw (na:Nat) (ops:List (Nat × Bw × List Nat))
 |WM (na:Nat) (ops:List (Nat × Bw × List Nat)) (x y:Nat × Bw × List Nat)
 |seq (a b:AQ)
 |cond (c:Gl) (a b:AQ)
 |block (id:Nat) (body:AQ)
 |loop (body:AQ)
 |exit (id:Nat)
 |ret
 |bad
 deriving Inhabited
inductive Vy where
 |tmp (t:Nat)
 |cell (t:Nat) (agg:Option Nat)
 deriving Inhabited
inductive Jl where
 |normal|exit (id:Nat)|ret
 deriving DecidableEq,Inhabited
inductive qN where
 |AZ|own|pure|He|mG|XE
 deriving DecidableEq,Inhabited
structure Aq where
 results:List Vy
 gz:qN
 body:AQ
 deriving Inhabited
structure Env where
 code:Nat->Option Aq
 eU:Nat->String->Option Nat
 k:Nat
 Qh:Nat->Option (Heap->List AV->Option AV)
inductive TS where
 |nil
 |node (v:AV) (l r:TS)
 deriving Inhabited
namespace TS
def get:TS->Nat->AV
 |nil,_=>.undef
 |node v l r,i=>bif Nat.beq i 0 then v else bif Nat.beq (i % 2) 1 then l.get (i / 2) else r.get (i / 2-1)
def single (v:AV):Nat->Nat->TS
 |0,_=>.nil
 |n+1,i=>bif Nat.beq i 0 then .node v .nil .nil else bif Nat.beq (i % 2) 1 then .node .undef (single v n (i / 2)) .nil else .node .undef .nil (single v n (i / 2-1))
def set:TS->Nat->AV->TS
 |nil,i,x=>single x 16 i
 |node v l r,i,x=>bif Nat.beq i 0 then .node x l r else bif Nat.beq (i % 2) 1 then .node v (l.set (i / 2) x) r else .node v l (r.set (i / 2-1) x)
def Cm:List AV->Nat->TS->TS
 |[],_,t=>t
 |v::l,i,t=>Cm l (i+1) (t.set i v)
end TS
def ev (ts:TS)(o:Gl):AV:=match o with
 |.tmp t=>ts.get t
 |.val v=>v
def Qo (ts:TS):List Gl->List AV
 |[]=>[]
 |o::l=>ev ts o::Qo ts l
def put (ts:TS)(d:Option Nat)(v:AV):TS:=
 match d with
 |some d=>ts.set d v
 |none=>ts
def isBool (b:Bool)(v:AV):Bool:=match v with
 |.bool c=>c==b
 |_=>false
def wanted (g:Option (Nat × Bool))(ts:TS):Bool:=
 match g with
 |none=>true
 |some (t,b)=>isBool b (ts.get t)
def candidates (bs:List Nat)(since:Nat)(seen:List Nat):List (Option Nat):=
 let left:=bs.filter fun b=>!seen.contains b
 let CF:=left.filter (·<since)
 let new:=left.filter (since<=·)
 (if CF.isEmpty then [none] else [])++(CF++new).map some
def rows (sz:Nat):Nat->List AV->List AV
 |0,_=>[]
 |n+1,cs=>(bif Nat.beq sz 1 then cs.headD .undef else .agg (cs.take sz))::rows sz n (cs.drop sz)
def CU (f:AV->Option AV):List AV->Option (List AV)
 |[]=>some []
 |v::l=>match f v with
  |some v=>match CU f l with
   |some l=>some (v::l)
   |none=>none
  |none=>none
def Cf (c:Nat)(h:Heap):Nat->AV->Option AV
 |0,_=>none
 |n+1,v=>
  bif v.CF c then some v else
  match v with
  |.AO o off=>
   match AA h o with
   |some (.cells _ _ cs _)=>bif Nat.ble off cs.length then (match CU (Cf c h n) (cs.drop off) with|some cs=>some (.BN cs)|none=>none) else none
   |_=>none
  |.AU o off len cap=>
   match AA h o with
   |some (.cells _ sz cs _)=>
    bif Nat.blt 0 sz&&Nat.ble (off+len*sz) cs.length then
     match CU (Cf c h n) ((cs.drop off).take (len*sz)) with
     |some cs=>some (.list (match cap with|some c=>Nat.beq c len|none=>false) sz (rows sz len cs))
     |none=>none
    else none
   |_=>none
  |.Cq o=>
   match AA h o with
   |some (.map ks vs _ _)=>match CU (Cf c h n) ks with
    |some ks=>match CU (Cf c h n) vs with
     |some vs=>some (.Gs ks vs)
     |none=>none
    |none=>none
   |_=>none
  |.BN cs=>match CU (Cf c h n) cs with|some cs=>some (.BN cs)|none=>none
  |.list t sz xs=>match CU (Cf c h n) xs with|some xs=>some (.list t sz xs)|none=>none
  |.Gs ks vs=>match CU (Cf c h n) ks with
   |some ks=>match CU (Cf c h n) vs with
    |some vs=>some (.Gs ks vs)
    |none=>none
   |none=>none
  |.fn f a b=>match CU (Cf c h n) a with
   |some a=>match CU (Cf c h n) b with
    |some b=>some (.fn f a b)
    |none=>none
   |none=>none
  |.iface t v=>match Cf c h n v with|some v=>some (.iface t v)|none=>none
  |.agg cs=>match CU (Cf c h n) cs with|some cs=>some (.agg cs)|none=>none
  |.tuple cs=>match CU (Cf c h n) cs with|some cs=>some (.tuple cs)|none=>none
  |_=>none
def CV:Nat:=64
section
variable (E:Env)(call:Nat->List AV->St->M (AV × St))
def TD (o i since:Nat)(seen:List Nat)(ks vs:List AV)(bs:List Nat)(clock:Nat)(st:St)(c:Option (Option Nat)):M (AV × St):=
 match c with
 |some none=>.ret (.tuple [.bool false],st)
 |some (some b)=>match Jv bs b with
  |some e=>match ks[e]?,vs[e]? with
   |some k,some v=>.ret (.tuple [.bool true,k,v],{ st with h:=Aa st.h i (.iter (some o) since (seen++[b]) clock) })
   |_,_=>.fail
  |none=>.fail
 |none=>.fail
def Mi (args:List AV)(st:St):M (AV × St):=
 match args with
 |[.AO i 0]=>match AA st.h i with
  |some (.iter none _ _ _)=>.ret (.tuple [.bool false],st)
  |some (.iter (some o) since seen stepped)=>
   bif Nat.blt i st.lo then .fail else
   match AA st.h o with
   |some (.map ks vs bs clock)=>
    bif !seen.isEmpty&&!bs.isEmpty&&bs.all (Nat.ble stepped) then .fail else
    .ask ((candidates bs since seen).length-1) fun j=>TD o i since seen ks vs bs clock st (candidates bs since seen)[j]?
   |_=>.fail
  |_=>.fail
 |_=>.fail
def KX (args:List AV)(st:St):M (AV × St):=match args with
 |.fn (.func f) a b::l=>call f (a++(l++b)) st
 |_=>.fail
def callMethod (name:String)(args:List AV)(st:St):M (AV × St):=match args with
 |.iface t v::l=>match E.eU t name with
  |some f=>call f (v::l) st
  |none=>.fail
 |_=>.fail
def GM (s:Nat)(k:AK)(args:List AV)(st:St):M (AV × St):=
 match k with
 |.next=>Mi args st
 |.call f=>call f args st
 |.Bi=>KX call args st
 |.invoke name=>callMethod E call name args st
 |k=>M.Bt (step s k args st)
def Ij (s:Nat)(o:Bw)(ts:TS)(st:St):M (TS × St):=
 bif wanted o.guard ts then (GM E call s o.k (Qo ts o.args) st).bind fun r=>.ret (put ts o.dst r.1,r.2)
 else .ret (put ts o.dst .undef,st)
def HY (s:Nat):List Bw->TS->St->M (TS × St)
 |[],ts,st=>.ret (ts,st)
 |o::l,ts,st=>(Ij E call s o ts st).bind fun r=>HY s l r.1 r.2
abbrev Ik:=List (List Nat × AK × List AV × AV)
def Cw (s:Nat)(i:Nat):Ik->St->Bool
 |[],_=>true
 |(js,k,args,v)::p,st=>(!js.any (Nat.beq i)||(match step s k args st with|some r=>AV.beq v r.1|none=>false))&&Cw s i p st
def NP (o:Bw)(js:List Nat)(ts ts':TS)(p:Ik):Ik:=
 match js with
 |[]=>p
 |js=>bif wanted o.guard ts then match o.dst with
  |some d=>(js,o.k,Qo ts o.args,ts'.get d)::p
  |none=>p
  else p
def CL (s:Nat):List (Nat × Bw × List Nat)->Ik->TS->St->M (TS × St)
 |[],_,ts,st=>.ret (ts,st)
 |(i,o,js)::l,p,ts,st=>
  (Ij E call s o ts st).bind fun r=>bif Cw s i p r.2 then CL s l (NP o js ts r.1 p) r.1 r.2 else .fail
def Pe (o:Bw)(ts:TS):Option Nat:=match o.guard with
 |some _=>none
 |none=>match o.dst with
  |some _=>none
  |none=>match o.k with
   |.store _=>match Qo ts o.args with
    |[.AO i _,_]=>some i
    |_=>none
   |_=>none
def M.SC {α:Type}:M α->Bool
 |.ret _=>true
 |_=>false
def Nv (s:Nat)(x y:Nat × Bw × List Nat):List (Nat × Bw × List Nat)->Ik->TS->St->M (TS × St)
 |[],p,ts,st=>match Pe x.2.1 ts with
  |some i=>match Pe y.2.1 ts with
   |some j=>bif !Nat.beq i j&&(x.2.2.isEmpty&&y.2.2.isEmpty&&(CL E call s [y,x] p ts st).SC) then CL E call s [x,y] p ts st else .fail
   |none=>.fail
  |none=>.fail
 |(i,o,js)::l,p,ts,st=>
  (Ij E call s o ts st).bind fun r=>bif Cw s i p r.2 then Nv s x y l (NP o js ts r.1 p) r.1 r.2 else .fail
def Dh (body:TS->St->M (Jl × TS × St)):Nat->TS->St->M (Jl × TS × St)
 |0,_,_=>.fail
 |n+1,ts,st=>(body ts st).bind fun r=>match r.1 with
  |.normal=>Dh body n r.2.1 r.2.2
  |_=>.ret r
def BF:AQ->TS->St->M (Jl × TS × St)
 |.skip,ts,st=>.ret (.normal,ts,st)
 |.region na ops,ts,st=>(HY E call st.c ops ts { st with c:=st.c+na }).bind fun r=>.ret (.normal,r)
 |.draw na ops,ts,st=>(CL E call st.c ops [] ts { st with c:=st.c+na }).bind fun r=>.ret (.normal,r)
 |.WM na ops x y,ts,st=>(Nv E call st.c x y ops [] ts { st with c:=st.c+na }).bind fun r=>.ret (.normal,r)
 |.seq a b,ts,st=>(BF a ts st).bind fun r=>match r.1 with
  |.normal=>BF b r.2.1 r.2.2
  |_=>.ret r
 |.cond c a b,ts,st=>match ev ts c with
  |.bool t=>bif t then BF a ts st else BF b ts st
  |_=>.fail
 |.block id a,ts,st=>(BF a ts st).bind fun r=>match r.1 with
  |.exit i=>.ret (bif Nat.beq i id then .normal else .exit i,r.2)
  |_=>.ret r
 |.loop a,ts,st=>Dh (BF a) E.k ts st
 |.exit id,ts,st=>.ret (.exit id,ts,st)
 |.ret,ts,st=>.ret (.ret,ts,st)
 |.bad,_,_=>.fail
end
def UM (h:Heap)(ts:TS)(r:Vy):Option AV:=match r with
 |.tmp t=>some (ts.get t)
 |.cell t agg=>GU h agg (ts.get t)
def AR (h:Heap)(ts:TS):List Vy->Option (List AV)
 |[]=>some []
 |r::l=>match UM h ts r with
  |some v=>match AR h ts l with
   |some l=>some (v::l)
   |none=>none
  |none=>none
def results (rs:List Vy)(h:Heap)(ts:TS):Option AV:=
 match AR h ts rs with
 |some [v]=>some v
 |some l=>some (.tuple l)
 |none=>none
def leave (rs:List Vy)(r:Jl × TS × St):M (AV × St):=
 match r.1 with
 |.exit _=>.fail
 |_=>match results rs r.2.2.h r.2.1 with
  |some v=>.ret (v,r.2.2)
  |none=>.fail
def Bn (c:Nat)(st:St)(r:AV × St):M (AV × St):=
 match Cf c r.2.h CV r.1 with
 |some v=>.ret (v,st)
 |none=>.fail
def Al.CF (c:Nat):Al->Bool
 |.cells _ _ cs _=>AV.Cx c cs
 |.map ks vs _ _=>AV.Cx c ks&&AV.Cx c vs
 |.iter m _ _ _=>match m with
  |some o=>Nat.blt o c
  |none=>true
def Gh (c:Nat):Heap->Heap
 |[]=>[]
 |(i,x)::h=>bif Nat.ble c i then Gh c h else (i,x)::Gh c h
def holds (c:Nat):Heap->Bool
 |[]=>true
 |(i,x)::h=>Nat.blt i c&&Al.CF c x&&holds c h
def GK (c:Nat)(r:AV × St):M (AV × St):=
 match Cf c r.2.h CV r.1 with
 |some v=>bif holds c (Gh c r.2.h) then .ret (v,{ r.2 with h:=Gh c r.2.h,c:=c }) else .fail
 |none=>.fail
def Ct (E:Env)(call:Nat->List AV->St->M (AV × St))(fn:Aq)(args:List AV)(st:St):M (AV × St):=
 bif Nat.ble args.length 1000 then (BF E call fn.body (TS.Cm args 0 .nil) st).bind (leave fn.results) else .fail
def M.leftmost {α:Type}:M α->Option α
 |.ret a=>some a
 |.fail=>none
 |.ask _ k=>(k 0).leftmost
def M.Tk {α:Type}(f:α->Bool):M α->Bool
 |.ret a=>f a
 |.fail=>false
 |.ask n k=>(List.range (n+1)).all fun i=>(k i).Tk f
def JC (st:St)(m:M (AV × St)):M (AV × St):=
 match m.leftmost with
 |some r=>bif m.Tk (fun r'=>AV.beq r.1 r'.1) then .ret (r.1,st) else .fail
 |none=>.fail
 mutual
def AV.plain:AV->Bool
 |.bool _=>true
 |.int _ _=>true
 |.str _=>true
 |.tuple l=>AV.QL l
 |.agg l=>AV.QL l
 |_=>false
def AV.QL:List AV->Bool
 |[]=>true
 |v::l=>AV.plain v&&AV.QL l
end
def Di (st:St)(r:AV × St):M (AV × St):=bif r.1.plain then .ret (r.1,st) else .fail
def AX (E:Env):Nat->Nat->List AV->St->M (AV × St)
 |0,_,_,_=>.fail
 |n+1,f,args,st=>
  match E.Qh f with
  |some g=>match g st.h args with
   |some v=>.ret (v,st)
   |none=>.fail
  |none=>match E.code f with
   |none=>.fail
   |some fn=>match fn.gz with
    |.AZ=>Ct E (AX E n) fn args st
    |.own=>(Ct E (AX E n) fn args st).bind (GK st.c)
    |.pure=>(Ct E (AX E n) fn args { st with lo:=st.c }).bind (Bn st.c st)
    |.mG=>JC st ((Ct E (AX E n) fn args { st with lo:=st.c }).bind (Bn st.c st))
    |.He=>bif AV.Cx 0 args then (Ct E (AX E n) fn args ⟨[],0,0⟩).bind (Bn 0 st) else .fail
    |.XE=>match CU (Cf 0 st.h CV) args with
     |some args'=>(Ct E (AX E n) fn args' ⟨[],0,0⟩).bind (Di st)
     |none=>.fail
end Go.Am
end
