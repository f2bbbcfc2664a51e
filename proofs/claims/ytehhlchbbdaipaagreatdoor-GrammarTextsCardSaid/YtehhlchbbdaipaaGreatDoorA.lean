/- A part of the proof of grammarTexts (merged by a program). -/
import Derived.Below
import Derived.Calls
section
namespace Go.Am
open Go
inductive AV where
 |bool (b:Bool)
 |int (k:IntKind) (n:Int)
 |str (s:List UInt8)
 |CG
 |AO (o off:Nat)
 |BA (cs:List AV)
 |AB
 |list (tight:Bool) (sz:Nat) (xs:List AV)
 |AY (o off len:Nat) (cap:Option Nat)
 |DY
 |Cr (o:Nat)
 |Gq (ks vs:List AV)
 |fn (f:Fn) (first captured:List AV)
 |IW
 |iface (t:Nat) (v:AV)
 |DL
 |agg (cs:List AV)
 |tuple (vs:List AV)
 deriving Inhabited
def AV.undef:AV:=.tuple []
def AV.cells:AV->List AV
 |.agg cs=>cs
 |v=>[v]
def AV.isTuple:AV->Bool
 |.tuple _=>true
 |_=>false
inductive Ai where
 |cells (ty sz:Nat) (cs:List AV) (ext:Bool)
 |map (ks vs:List AV) (borns:List Nat) (clock:Nat)
 |iter (m:Option Nat) (since:Nat) (seen:List Nat) (stepped:Nat)
 deriving Inhabited
inductive M (α:Type) where
 |ret (a:α)
 |fail
 |ask (n:Nat) (k:Nat->M α)
namespace M
variable {α β:Type}
def bind:M α->(α->M β)->M β
 |.ret a,f=>f a
 |.fail,_=>.fail
 |.ask n k,f=>.ask n fun i=>(k i).bind f
def all (Q:α->Prop):M α->Prop
 |.ret a=>Q a
 |.fail=>False
 |.ask n k=>∀i,i<=n->(k i).all Q
def Bu:Option α->M α
 |some a=>.ret a
 |none=>.fail
end M
abbrev Heap:=List (Nat × Ai)
def AA:Heap->Nat->Option Ai
 |[],_=>none
 |(i,x)::h,o=>bif Nat.beq i o then some x else AA h o
def Aa:Heap->Nat->Ai->Heap
 |[],_,_=>[]
 |(i,x)::h,o,y=>bif Nat.beq i o then (i,y)::h else (i,x)::Aa h o y
def GH:Heap->Nat->Heap
 |[],_=>[]
 |(i,x)::h,o=>bif Nat.beq i o then GH h o else (i,x)::GH h o
def LF:Heap->Nat->Ai->Option Heap
 |[],o,y=>some [(o,y)]
 |(i,x)::h,o,y=>bif Nat.blt i o then some ((o,y)::(i,x)::h) else bif Nat.beq i o then none else match LF h o y with
  |some h=>some ((i,x)::h)
  |none=>none
structure St where
 h:Heap
 c:Nat
 lo:Nat
 deriving Inhabited
inductive Ext where
 |same|indexByte|compare
 deriving Inhabited
inductive CK where
 |bool|int|str
 deriving DecidableEq,Inhabited
inductive KK where
 |one (c:CK)
 |many (cs:List CK)
 deriving DecidableEq,Inhabited
inductive EK where
 |key (k:KK)|ptr|slice|map|func|iface
 deriving DecidableEq,Inhabited
inductive LK where
 |str|slice|map
 deriving DecidableEq,Inhabited
inductive AK where
 |fail
 |move
 |pick
 |alloc (id ty sz:Nat) (zero:List AV)
 |box (id ty sz:Nat)
 |build (zero:List AV) (places:List (Nat × Nat))
 |buildSlice (id ty sz len:Nat) (zero:List AV) (offs:List Nat)
 |load (agg:Option Nat)
 |store (n:Nat)
 |nilCheck
 |bin (op:BinOp)
 |eq (neg:Bool) (k:EK)
 |OE (neg:Bool) (ts:List (Nat × CK))
 |un (op:UnOp)
 |BV (k:IntKind)
 |IG
 |II (id ty:Nat)
 |JW
 |CU (t:Nat)
 |KY (f:Fn) (nfirst:Nat)
 |mkMap (id:Nat)
 |mkSlice (id ty sz bytes:Nat) (zero:List AV)
 |CF (lo hi:Bool)
 |slice (sz:Nat) (lo hi mx:Bool)
 |Jm (len sz:Nat) (lo hi:Bool)
 |fieldAddr (off:Nat)
 |field (off:Nat) (agg:Option Nat)
 |indexAddr (sz:Nat)
 |FX (len sz:Nat)
 |Bn
 |lookup (kk:KK) (zero:AV) (ok:Bool)
 |mapUpdate (kk:KK)
 |mapEntry (kk:KK) (zero:AV)
 |entryStore
 |rangeMap (id:Nat)
 |next
 |entry
 |extract (i:Nat)
 |len (k:LK)
 |cap
 |min
 |max
 |append (id ty sz bytes:Nat)
 |Io (id ty:Nat)
 |copy (sz:Nat)
 |clear (zero:List AV)
 |Mr (ty n:Nat)
 |Kr
 |Jl (ty:Nat)
 |call (f:Nat)
 |Gi
 |invoke (name:String)
 |ext (e:Ext)
 deriving Inhabited
 mutual
def AV.beq:AV->AV->Bool
 |.bool a,.bool b=>a==b
 |.int k a,.int j b=>k==j&&a==b
 |.str a,.str b=>a==b
 |.CG,.CG=>true
 |.AO o a,.AO p b=>o==p&&a==b
 |.BA a,.BA b=>AV.NW a b
 |.AB,.AB=>true
 |.list t n a,.list u m b=>t==u&&n==m&&AV.NW a b
 |.AY o a l c,.AY p b m d=>o==p&&a==b&&l==m&&c==d
 |.DY,.DY=>true
 |.Cr o,.Cr p=>o==p
 |.Gq a b,.Gq c d=>AV.NW a c&&AV.NW b d
 |.fn f a b,.fn g c d=>decide (f=g)&&AV.NW a c&&AV.NW b d
 |.IW,.IW=>true
 |.iface t v,.iface u w=>t==u&&AV.beq v w
 |.DL,.DL=>true
 |.agg a,.agg b=>AV.NW a b
 |.tuple a,.tuple b=>AV.NW a b
 |_,_=>false
def AV.NW:List AV->List AV->Bool
 |[],[]=>true
 |a::x,b::y=>AV.beq a b&&AV.NW x y
 |_,_=>false
end
def NY:IntKind->IntKind->Bool
 |.i8,.i8|.i16,.i16|.i32,.i32|.i64,.i64|.u8,.u8|.u16,.u16|.u32,.u32|.u64,.u64=>true
 |_,_=>false
def VV (c:CK)(x y:AV):Option Bool:=match c with
 |.bool=>match x,y with
  |.bool a,.bool b=>some (a==b)
  |_,_=>none
 |.int=>match x,y with
  |.int k a,.int j b=>bif NY k j then some (a==b) else none
  |_,_=>none
 |.str=>match x,y with
  |.str a,.str b=>some (a==b)
  |_,_=>none
def NV:List CK->List AV->List AV->Option Bool
 |[],[],[]=>some true
 |c::cs,a::x,b::y=>match VV c a b with
  |some true=>NV cs x y
  |some false=>match NV cs x y with
   |some _=>some false
   |none=>none
  |none=>none
 |_,_,_=>none
def bF (k:KK)(x y:AV):Option Bool:=match k with
 |.one c=>VV c x y
 |.many cs=>match x with
  |.agg a=>match y with
   |.agg b=>NV cs a b
   |_=>none
  |_=>none
def ZG (k:EK)(x y:AV):Option Bool:=
 match k with
 |.key k=>bF k x y
 |.ptr=>match x,y with
  |.CG,.CG=>some true
  |.CG,.AO ..|.CG,.BA _|.AO ..,.CG|.BA _,.CG=>some false
  |.AO o a,.AO p b=>bif Nat.beq o p then some (Nat.beq a b) else none
  |_,_=>none
 |.slice=>match x,y with
  |.AB,.AB=>some true
  |.AB,.list ..|.AB,.AY ..|.list ..,.AB|.AY ..,.AB=>some false
  |_,_=>none
 |.map=>match x,y with
  |.DY,.DY=>some true
  |.DY,.Cr _|.DY,.Gq ..|.Cr _,.DY|.Gq ..,.DY=>some false
  |_,_=>none
 |.func=>match x,y with
  |.IW,.IW=>some true
  |.IW,.fn ..|.fn ..,.IW=>some false
  |_,_=>none
 |.iface=>match x,y with
  |.DL,.DL=>some true
  |.DL,.iface ..|.iface ..,.DL=>some false
  |_,_=>none
def Js (k:KK)(x:AV):Bool:=match k with
 |.one _=>true
 |.many cs=>match x with
  |.agg a=>Nat.beq a.length cs.length
  |_=>false
def FV (kk:KK):List AV->AV->Option (Option Nat)
 |[],_=>some none
 |k::ks,x=>match bF kk x k with
  |some true=>some (some 0)
  |some false=>match FV kk ks x with
   |some (some i)=>some (some (i+1))
   |some none=>some none
   |none=>none
  |none=>none
def intBits (op:BinOp)(k:IntKind)(x y:Int):Option AV:=
 let a:=BitVec.ofInt k.bits x
 let b:=BitVec.ofInt k.bits y
 match op with
 |.and=>some (.int k (k.wrap (a &&& b).toNat))
 |.or=>some (.int k (k.wrap (a ||| b).toNat))
 |.xor=>some (.int k (k.wrap (a ^^^ b).toNat))
 |.andNot=>some (.int k (k.wrap (a &&& ~~~b).toNat))
 |_=>none
def Wt (op:BinOp)(k:IntKind)(a b:Int):Option AV:=
 match op with
 |.add=>some (.int k (k.wrap (a+b)))
 |.sub=>some (.int k (k.wrap (a-b)))
 |.mul=>some (.int k (k.wrap (a*b)))
 |.quo=>if b=0 then none else some (.int k (k.wrap (a.tdiv b)))
 |.rem=>if b=0 then none else some (.int k (a.tmod b))
 |.eql=>some (.bool (a==b))
 |.neq=>some (.bool (a !=b))
 |.lss=>some (.bool (decide (a<b)))
 |.leq=>some (.bool (decide (a<=b)))
 |.gtr=>some (.bool (decide (b<a)))
 |.geq=>some (.bool (decide (b<=a)))
 |op=>intBits op k a b
def VG (op:BinOp)(k:IntKind)(a b:Int):Option AV:=
 if b<0 then none else
 match op with
 |.shl=>some (.int k (k.wrap (a*2 ^ min b.toNat k.bits)))
 |.shr=>some (.int k (a.fdiv (2 ^ min b.toNat k.bits)))
 |_=>none
def NJ:BinOp->Bool
 |.shl|.shr=>true
 |_=>false
def Ws (op:BinOp)(a b:List UInt8):Option AV:=
 match op with
 |.add=>if a.length+b.length<=2 ^ 62 then some (.str (a++b)) else none
 |.eql=>some (.bool (a==b))
 |.neq=>some (.bool !(a==b))
 |.lss=>some (.bool (Op.bytesLess a b))
 |.leq=>some (.bool (Op.bytesLess a b||a==b))
 |.gtr=>some (.bool !(Op.bytesLess a b||a==b))
 |.geq=>some (.bool !(Op.bytesLess a b))
 |_=>none
def bin (op:BinOp)(x y:AV):Option AV:=
 match x with
 |.int k a=>match y with
  |.int j b=>bif NJ op then VG op k a b else bif NY k j then Wt op k a b else none
  |_=>none
 |.str a=>match y with
  |.str b=>Ws op a b
  |_=>none
 |_=>none
def Sq (neg:Bool)(k:EK)(x y:AV):Option AV:=match ZG k x y with
 |some e=>some (.bool (e !=neg))
 |none=>none
def un (op:UnOp)(x:AV):Option AV:=
 match op,x with
 |.neg,.int k n=>some (.int k (k.wrap (0-n)))
 |.xor,.int k n=>intBits .xor k (if k.signed then -1 else k.max) n
 |.not,.bool b=>some (.bool !b)
 |_,_=>none
def Ac (h:Heap)(p:AV)(n:Nat):Option (List AV):=
 match p with
 |.AO o off=>match AA h o with
  |some (.cells _ _ cs _)=>bif Nat.ble (off+n) cs.length then some ((cs.drop off).take n) else none
  |_=>none
 |.BA cs=>bif Nat.ble n cs.length then some (cs.take n) else none
 |_=>none
def AQ (h:Heap)(p:AV):Option AV:=
 match p with
 |.AO o off=>match AA h o with
  |some (.cells _ _ cs _)=>cs[off]?
  |_=>none
 |.BA (v::_)=>some v
 |_=>none
def GR (h:Heap)(agg:Option Nat)(p:AV):Option AV:=
 match agg with
 |some n=>(Ac h p n).map .agg
 |none=>AQ h p
def BM (cs:List AV)(off:Nat)(vs:List AV):List AV:=cs.take off++(vs++cs.drop (off+vs.length))
def Be (st:St)(o off:Nat)(vs:List AV):Option St:=
 bif Nat.blt o st.lo then none else
 match AA st.h o with
 |some (.cells ty sz cs ext)=>bif Nat.ble (off+vs.length) cs.length then some { st with h:=Aa st.h o (.cells ty sz (BM cs off vs) ext) } else none
 |_=>none
def newObj (o:Nat)(ob:Ai)(st:St):Option St:=
 match LF st.h o ob with
 |some h=>some { st with h }
 |none=>none
def Al (h:Heap)(sz n:Nat)(v:AV):Option (List AV):=
 match v with
 |.AB=>bif Nat.beq n 0 then some [] else none
 |.list _ sz' xs=>bif Nat.ble n xs.length&&Nat.beq sz' sz then some ((xs.take n).flatMap AV.cells) else none
 |.AY o off len _=>match AA h o with
  |some (.cells _ sz' cs _)=>bif Nat.beq sz' sz&&Nat.ble n len&&Nat.ble (off+n*sz) cs.length then some ((cs.drop off).take (n*sz)) else none
  |_=>none
 |_=>none
def asNat:AV->Option Nat
 |.int _ (.ofNat n)=>some n
 |_=>none
def lenOf:AV->Option Nat
 |.AB=>some 0
 |.list _ _ xs=>some xs.length
 |.AY _ _ len _=>some len
 |.str s=>some s.length
 |_=>none
def room:Nat:=2 ^ 40
def grow (o ty sz bytes len n:Nat)(cs:List AV)(st:St):Option (AV × St):=
 bif Nat.ble ((len+n)*bytes) room&&Nat.ble (len+n) room then
  match newObj o (.cells ty sz cs true) st with
  |some st=>some (.AY o 0 (len+n) none,st)
  |none=>none
 else none
def Dk (o' ty sz bytes n:Nat)(new:List AV)(st:St)(o off len:Nat)(cap:Option Nat):Option (AV × St):=
 match AA st.h o with
 |some (.cells ty' sz' cs ext)=>
  bif Nat.beq ty' ty&&Nat.beq sz' sz&&Nat.ble (off+len*sz) cs.length then
   match cap with
   |some c=>
    bif Nat.ble (len+n) c then
     match Be st o (off+len*sz) new with
     |some st=>some (.AY o off (len+n) cap,st)
     |none=>none
    else grow o' ty sz bytes len n ((cs.drop off).take (len*sz)++new) st
   |none=>
    bif Nat.ble (off+(len+n)*sz) cs.length then
     match Be st o (off+len*sz) new with
     |some st=>some (.AY o off (len+n) cap,st)
     |none=>none
    else bif ext&&Nat.ble st.lo o then grow o' ty sz bytes len n ((cs.drop off).take (len*sz)++new) { st with h:=GH st.h o } else none
  else none
 |_=>none
def BU (o' ty sz bytes:Nat)(x:AV)(n:Nat)(new:List AV)(st:St):Option (AV × St):=
 bif Nat.beq sz 0 then none else
 match x with
 |.AB=>bif Nat.beq n 0 then some (.AB,st) else grow o' ty sz bytes 0 n new st
 |.list tight sz' xs=>
  bif Nat.beq n 0 then some (x,st)
  else bif tight&&Nat.beq sz' sz then grow o' ty sz bytes xs.length n (xs.flatMap AV.cells++new) st else none
 |.AY o off len cap=>bif Nat.beq n 0 then some (x,st) else Dk o' ty sz bytes n new st o off len cap
 |_=>none
def Hd (tight:Bool)(sz:Nat)(xs:List AV)(lo hi mx:Option Nat):Option AV:=
 let h:=hi.getD xs.length
 let l:=lo.getD 0
 match mx with
 |none=>bif Nat.ble l h&&Nat.ble h xs.length then some (.list (tight&&Nat.beq h xs.length) sz ((xs.take h).drop l)) else none
 |some m=>bif Nat.ble l h&&Nat.ble h m&&Nat.ble m xs.length then some (.list (Nat.beq m h) sz ((xs.take h).drop l)) else none
def Gm (n sz o off len:Nat)(cap lo hi mx:Option Nat):Option AV:=
 let e:=hi.getD len
 let l:=lo.getD 0
 bif Nat.ble l e then
  match mx,cap with
  |none,some c=>bif Nat.ble e c then some (.AY o (off+l*sz) (e-l) (some (c-l))) else none
  |none,none=>bif Nat.ble (off+e*sz) n then some (.AY o (off+l*sz) (e-l) none) else none
  |some m,some c=>bif Nat.ble e m&&Nat.ble m c then some (.AY o (off+l*sz) (e-l) (some (m-l))) else none
  |some m,none=>bif Nat.ble e m&&Nat.ble (off+m*sz) n then some (.AY o (off+l*sz) (e-l) (some (m-l))) else none
 else none
def Cv (sz:Nat)(x:AV)(lo hi mx:Option Nat)(h:Heap):Option AV:=
 match x with
 |.AB=>bif Nat.beq (lo.getD 0) 0&&Nat.beq (hi.getD 0) 0&&Nat.beq (mx.getD 0) 0 then some .AB else none
 |.list tight sz' xs=>bif Nat.beq sz' sz then Hd tight sz xs lo hi mx else none
 |.AY o off len cap=>match AA h o with
  |some (.cells _ sz' cs _)=>bif Nat.beq sz' sz&&Nat.blt 0 sz then Gm cs.length sz o off len cap lo hi mx else none
  |_=>none
 |_=>none
def Cx (is:Bool)(l:List AV):Option (Option Nat × List AV):=
 match is with
 |false=>some (none,l)
 |true=>match l with
  |a::l=>match asNat a with
   |some n=>some (some n,l)
   |none=>none
  |[]=>none
def Au:List AV->List (Nat × Nat)->List AV->Option (List AV)
 |cs,[],[]=>some cs
 |cs,(off,size)::ps,v::vs=>
  bif v.isTuple then none
  else bif Nat.beq v.cells.length size&&Nat.ble (off+size) cs.length then Au (BM cs off v.cells) ps vs else none
 |_,_,_=>none
def Nu (k:IntKind)(x:Int):List AV->Option AV
 |[]=>some (.int k x)
 |.int _ y::l=>Nu k (if y<x then y else x) l
 |_=>none
def Nw (k:IntKind)(x:Int):List AV->Option AV
 |[]=>some (.int k x)
 |.int _ y::l=>Nw k (if y>x then y else x) l
 |_=>none
def FQ (zero:List AV):Nat->List AV
 |0=>[]
 |n+1=>zero++FQ zero n
def byteOf:AV->Option UInt8
 |.int .u8 n=>some (UInt8.ofNat n.toNat)
 |_=>none
def bytesOf:List AV->Option (List UInt8)
 |[]=>some []
 |c::l=>match byteOf c with
  |some b=>match bytesOf l with
   |some l=>some (b::l)
   |none=>none
  |none=>none
def Ck (l:List UInt8):List AV:=l.map fun b=>.int .u8 b.toNat
 mutual
def AV.Bt (c:Nat):AV->Bool
 |.AO o _|.AY o _ _ _|.Cr o=>Nat.blt o c
 |.BA cs|.agg cs|.tuple cs|.list _ _ cs=>AV.Cq c cs
 |.Gq a b|.fn _ a b=>AV.Cq c a&&AV.Cq c b
 |.iface _ v=>AV.Bt c v
 |_=>true
def AV.Cq (c:Nat):List AV->Bool
 |[]=>true
 |v::l=>AV.Bt c v&&AV.Cq c l
end
abbrev R:=Option (AV × St)
def FH (l:List AV)(f:AV->R):R:=match l with
 |[x]=>f x
 |_=>none
def Fy (l:List AV)(f:AV->AV->R):R:=match l with
 |[x,y]=>f x y
 |_=>none
def Qe (l:List AV)(f:AV->AV->AV->R):R:=match l with
 |[x,y,z]=>f x y z
 |_=>none
def DX (st:St)(v:Option AV):R:=match v with
 |some v=>some (v,st)
 |none=>none
def CQ (v:AV)(st:Option St):R:=match st with
 |some st=>some (v,st)
 |none=>none
def Kz (c a b:AV)(st:St):R:=match c with
 |.bool t=>some (bif t then a else b,st)
 |_=>none
abbrev B:=Option (AV × Ai)
def Lp (o:Nat)(r:B)(st:St):R:=match r with
 |some (v,ob)=>CQ v (newObj o ob st)
 |none=>none
def Gy (o ty sz:Nat)(x:AV):B:=bif x.isTuple then none else some (.AO o 0,.cells ty sz x.cells false)
def Aw (o ty sz len:Nat)(zero:List AV)(offs:List Nat)(parts:List AV):B:=
 bif Nat.blt 0 sz then
  match Au zero (offs.map fun i=>(i*sz,sz)) parts with
  |some cs=>bif Nat.beq cs.length (len*sz) then some (.AY o 0 len (some len),.cells ty sz cs false) else none
  |none=>none
 else none
def BH (n:Nat)(p v:AV)(st:St):R:=match p with
 |.AO o off=>bif v.isTuple||!Nat.beq v.cells.length n then none else CQ .undef (Be st o off v.cells)
 |_=>none
def CP (x:AV)(st:St):R:=match x with
 |.AO ..|.BA _=>some (x,st)
 |.fn (.func _) _ _=>some (x,st)
 |_=>none
def aR:List (Nat × CK)->Nat->Option CK
 |[],_=>none
 |(u,c)::l,t=>bif Nat.beq u t then some c else aR l t
def Px (neg:Bool)(ts:List (Nat × CK))(x y:AV)(st:St):R:=match x with
 |.DL=>match y with
  |.iface ..=>some (.bool neg,st)
  |_=>none
 |.iface t a=>match y with
  |.DL=>some (.bool neg,st)
  |.iface u b=>bif Nat.beq t u then (match aR ts t with
   |some c=>match VV c a b with
    |some e=>some (.bool (e !=neg),st)
    |none=>none
   |none=>none) else some (.bool neg,st)
  |_=>none
 |_=>none
def Hm (k:IntKind)(x:AV)(st:St):R:=match x with
 |.int _ n=>some (.int k (k.wrap n),st)
 |_=>none
def Ga (x:AV)(st:St):R:=match x with
 |.str _=>some (x,st)
 |.int _ (.ofNat n)=>if n<128 then some (.str [UInt8.ofNat n],st) else none
 |_=>none
def Ii (x:AV)(st:St):R:=match x with
 |.str _=>none
 |x=>match lenOf x with
  |some n=>match Al st.h 1 n x with
   |some cs=>DX st ((bytesOf cs).map .str)
   |none=>none
  |none=>none
def NZ (o ty:Nat)(x:AV):B:=match x with
 |.str l=>bif Nat.ble l.length room then some (.AY o 0 l.length none,.cells ty 1 (Ck l) true) else none
 |_=>none
def KD (o ty sz bytes:Nat)(zero:List AV)(l c:AV):B:=match asNat l with
 |some l=>match asNat c with
  |some c=>bif Nat.ble l c&&Nat.ble (c*bytes) room&&Nat.ble c room&&Nat.blt 0 sz&&Nat.beq zero.length sz then
   some (.AY o 0 l (some c),.cells ty sz (FQ zero c) false) else none
  |none=>none
 |none=>none
def Bp (lo hi:Bool)(l:List AV)(st:St):R:=match l with
 |.str x::l=>match Cx lo l with
  |some (a,l)=>match Cx hi l with
   |some (b,[])=>
    let e:=b.getD x.length
    let f:=a.getD 0
    bif Nat.ble f e&&Nat.ble e x.length then some (.str ((x.take e).drop f),st) else none
   |_=>none
  |none=>none
 |_=>none
def Bc (sz:Nat)(lo hi mx:Bool)(l:List AV)(st:St):R:=match l with
 |x::l=>match Cx lo l with
  |some (a,l)=>match Cx hi l with
   |some (b,l)=>match Cx mx l with
    |some (m,[])=>DX st (Cv sz x a b m st.h)
    |_=>none
   |none=>none
  |none=>none
 |_=>none
def Hf (len sz:Nat)(lo hi:Bool)(l:List AV)(st:St):R:=match l with
 |.AO o off::l=>match Cx lo l with
  |some (a,l)=>match Cx hi l with
   |some (b,[])=>match AA st.h o with
    |some (.cells _ sz' cs false)=>
     let e:=b.getD len
     let f:=a.getD 0
     bif Nat.beq sz' sz&&Nat.blt 0 sz&&Nat.ble f e&&Nat.ble e len&&Nat.ble (off+len*sz) cs.length then some (.AY o (off+f*sz) (e-f) (some (len-f)),st) else none
    |_=>none
   |_=>none
  |none=>none
 |_=>none
def DI (off:Nat)(p:AV)(st:St):R:=match p with
 |.AO o a=>some (.AO o (a+off),st)
 |.BA cs=>some (.BA (cs.drop off),st)
 |_=>none
def La (off:Nat)(agg:Option Nat)(x:AV)(st:St):R:=match x with
 |.agg cs=>match agg with
  |some n=>bif Nat.ble (off+n) cs.length then some (.agg ((cs.drop off).take n),st) else none
  |none=>DX st cs[off]?
 |_=>none
def AU (sz:Nat)(x i:AV)(st:St):R:=match asNat i with
 |some i=>match x with
  |.list _ sz' xs=>bif Nat.beq sz' sz then match xs[i]? with
   |some v=>some (.BA v.cells,st)
   |none=>none
   else none
  |.AY o off len _=>match AA st.h o with
   |some (.cells _ sz' _ _)=>bif Nat.blt i len&&Nat.beq sz' sz then some (.AO o (off+i*sz),st) else none
   |_=>none
  |_=>none
 |none=>none
def Hl (len sz:Nat)(p i:AV)(st:St):R:=match asNat i with
 |some i=>bif Nat.blt i len then match p with
  |.AO o off=>some (.AO o (off+i*sz),st)
  |.BA cs=>some (.BA (cs.drop (i*sz)),st)
  |_=>none
  else none
 |none=>none
def Bq (x i:AV)(st:St):R:=match asNat i with
 |some i=>match x with
  |.str l=>match l[i]? with
   |some b=>some (.int .u8 b.toNat,st)
   |none=>none
  |_=>none
 |none=>none
def JV (zero:AV)(ok:Bool)(r:Option AV)(st:St):R:=
 some (bif ok then .tuple [r.getD zero,.bool r.isSome] else r.getD zero,st)
def IV (kk:KK)(zero:AV)(ok:Bool)(ks vs:List AV)(k:AV)(st:St):R:=bif Js kk k then match FV kk ks k with
 |some none=>JV zero ok none st
 |some (some i)=>match vs[i]? with
  |some v=>JV zero ok (some v) st
  |none=>none
 |none=>none
 else none
def Gn (kk:KK)(zero:AV)(ok:Bool)(m k:AV)(st:St):R:=match m with
 |.DY=>IV kk zero ok [] [] k st
 |.Cr o=>match AA st.h o with
  |some (.map ks vs _ _)=>IV kk zero ok ks vs k st
  |_=>none
 |.Gq ks vs=>IV kk zero ok ks vs k st
 |_=>none
def Dn (kk:KK)(m k v:AV)(st:St):R:=match m with
 |.Cr o=>bif Nat.blt o st.lo||!Js kk k then none else match AA st.h o with
  |some (.map ks vs bs clock)=>match FV kk ks k with
   |some (some i)=>some (.undef,{ st with h:=Aa st.h o (.map ks (vs.set i v) bs clock) })
   |some none=>some (.undef,{ st with h:=Aa st.h o (.map (ks++[k]) (vs++[v]) (bs++[clock]) (clock+1)) })
   |none=>none
  |_=>none
 |_=>none
def IE (kk:KK)(zero m k:AV)(st:St):R:=match m with
 |.Cr o=>bif Nat.blt o st.lo||!Js kk k then none else match AA st.h o with
  |some (.map ks vs bs clock)=>match FV kk ks k with
   |some (some i)=>match vs[i]?,bs[i]? with
    |some v,some b=>some (.tuple [v,.int .i64 b],st)
    |_,_=>none
   |some none=>some (.tuple [zero,.int .i64 clock],{ st with h:=Aa st.h o (.map (ks++[k]) (vs++[zero]) (bs++[clock]) (clock+1)) })
   |none=>none
  |_=>none
 |_=>none
def Jh:List Nat->Nat->Option Nat
 |[],_=>none
 |x::bs,b=>bif Nat.beq x b then some 0 else match Jh bs b with
  |some i=>some (i+1)
  |none=>none
def Gp (m b v:AV)(st:St):R:=match asNat b with
 |some b=>match m with
  |.Cr o=>bif Nat.blt o st.lo then none else match AA st.h o with
   |some (.map ks vs bs clock)=>match Jh bs b with
    |some i=>some (.undef,{ st with h:=Aa st.h o (.map ks (vs.set i v) bs clock) })
    |none=>none
   |_=>none
  |_=>none
 |none=>none
def Iz (o:Nat)(m:AV)(st:St):R:=match m with
 |.DY=>CQ (.AO o 0) (newObj o (.iter none 0 [] 0) st)
 |.Cr x=>match AA st.h x with
  |some (.map _ _ _ clock)=>CQ (.AO o 0) (newObj o (.iter (some x) clock [] clock) st)
  |_=>none
 |_=>none
def Lb (it:AV)(st:St):R:=match it with
 |.AO i 0=>match AA st.h i with
  |some (.iter (some o) _ seen stepped)=>match AA st.h o with
   |some (.map ks vs bs clock)=>bif Nat.beq clock stepped then match seen.getLast? with
    |some b=>match Jh bs b with
     |some j=>match ks[j]?,vs[j]? with
      |some k,some v=>some (.tuple [k,v],st)
      |_,_=>none
     |none=>none
    |none=>none
    else none
   |_=>none
  |_=>none
 |_=>none
def GZ (i:Nat)(x:AV)(st:St):R:=match x with
 |.tuple vs=>DX st vs[i]?
 |_=>none
def Jc (x:AV):Option Nat:=match x with
 |.str l=>some l.length
 |_=>none
def Bl (x:AV):Option Nat:=match x with
 |.AB=>some 0
 |.list _ _ xs=>some xs.length
 |.AY _ _ len _=>some len
 |_=>none
def QC (h:Heap)(x:AV):Option Nat:=match x with
 |.DY=>some 0
 |.Cr o=>match AA h o with
  |some (.map ks _ _ _)=>some ks.length
  |_=>none
 |.Gq ks _=>some ks.length
 |_=>none
def BX (k:LK)(x:AV)(st:St):R:=match (match k with|.str=>Jc x|.slice=>Bl x|.map=>QC st.h x) with
 |some n=>some (.int .i64 n,st)
 |none=>none
def Lt (x:AV)(st:St):R:=match x with
 |.AB=>some (.int .i64 0,st)
 |.list true _ xs=>some (.int .i64 xs.length,st)
 |.AY _ _ _ (some c)=>some (.int .i64 c,st)
 |_=>none
def OY (l:List AV)(st:St):R:=match l with
 |.int k x::l=>DX st (Nu k x l)
 |_=>none
def OZ (l:List AV)(st:St):R:=match l with
 |.int k x::l=>DX st (Nw k x l)
 |_=>none
def Bi (o ty sz bytes:Nat)(x y:AV)(st:St):R:=match y with
 |.str _=>none
 |y=>match lenOf y with
  |some n=>match Al st.h sz n y with
   |some new=>BU o ty sz bytes x n new st
   |none=>none
  |none=>none
def Gb (o ty:Nat)(x y:AV)(st:St):R:=match y with
 |.str l=>BU o ty 1 1 x l.length (Ck l) st
 |_=>none
def KW (sz:Nat)(d y:AV)(st:St):R:=match y with
 |.str _=>none
 |y=>match lenOf y with
  |some b=>match d with
   |.AB=>some (.int .i64 0,st)
   |.AY o off a _=>match Al st.h sz (Nat.min b a) y with
    |some cs=>bif Nat.beq (Nat.min b a) 0 then some (.int .i64 0,st) else match AA st.h o with
     |some (.cells _ sz' _ _)=>bif Nat.beq sz' sz then CQ (.int .i64 (Nat.min b a)) (Be st o off cs) else none
     |_=>none
    |none=>none
   |_=>none
  |none=>none
def KX (zero:List AV)(x:AV)(st:St):R:=match x with
 |.AB=>some (.tuple [],st)
 |.AY o off len _=>bif Nat.beq len 0 then some (.tuple [],st) else match AA st.h o with
  |some (.cells _ sz _ _)=>bif Nat.beq zero.length sz then CQ (.tuple []) (Be st o off (FQ zero len)) else none
  |_=>none
 |_=>none
def JQ (ty n:Nat)(x:AV)(st:St):R:=match x with
 |.CG=>some (x,st)
 |.AO o 0=>match AA st.h o with
  |some (.cells ty' _ cs false)=>bif Nat.beq ty' ty&&Nat.ble n cs.length then some (x,st) else none
  |_=>none
 |_=>none
def GD (x:AV)(st:St):R:=match x with
 |.AB=>some (.CG,st)
 |.AY o off len _=>bif Nat.blt 0 len then some (.AO o off,st) else none
 |_=>none
def GN (ty:Nat)(p n:AV)(st:St):R:=match asNat n with
 |some n=>bif Nat.beq n 0 then (match p with
  |.CG|.AO ..=>some (.str [],st)
  |_=>none)
  else match p with
   |.AO o off=>bif Nat.blt o st.lo||!Nat.ble n room then none else match AA st.h o with
    |some (.cells ty' _ cs _)=>bif Nat.beq ty' ty&&Nat.ble (off+n) cs.length then
     match bytesOf ((cs.drop off).take n) with
     |some l=>some (.str l,{ st with h:=GH st.h o })
     |none=>none
     else none
    |_=>none
   |_=>none
 |none=>none
def DW (x c:AV)(st:St):R:=match x with
 |.str l=>match byteOf c with
  |some c=>some (.int .i64 (match l.findIdx? (fun b=>b==c) with|some i=>i|none=>-1),st)
  |_=>none
 |_=>none
def Ij (x y:AV)(st:St):R:=match x with
 |.str a=>match y with
  |.str b=>some (.int .i64 (if a==b then 0 else if Op.bytesLess a b then -1 else 1),st)
  |_=>none
 |_=>none
def Tv (e:Ext)(args:List AV)(st:St):R:=match e with
 |.same=>FH args fun x=>some (x,st)
 |.indexByte=>Fy args fun x y=>DW x y st
 |.compare=>Fy args fun x y=>Ij x y st
def b1 (l:List AV)(f:AV->B):B:=match l with
 |[x]=>f x
 |_=>none
def b2 (l:List AV)(f:AV->AV->B):B:=match l with
 |[x,y]=>f x y
 |_=>none
def born (s:Nat)(k:AK)(args:List AV):B:=
 match k with
 |.alloc id ty sz zero=>some (.AO (s+id) 0,.cells ty sz zero false)
 |.box id ty sz=>b1 args fun x=>Gy (s+id) ty sz x
 |.buildSlice id ty sz len zero offs=>Aw (s+id) ty sz len zero offs args
 |.II id ty=>b1 args fun x=>NZ (s+id) ty x
 |.mkMap id=>some (.Cr (s+id),.map [] [] [] 0)
 |.mkSlice id ty sz bytes zero=>b2 args fun l c=>KD (s+id) ty sz bytes zero l c
 |_=>none
def step (s:Nat)(k:AK)(args:List AV)(st:St):R:=
 match k with
 |.fail=>none
 |.move=>FH args fun x=>some (x,st)
 |.pick=>Qe args fun c a b=>Kz c a b st
 |.alloc id ty sz zero=>Lp (s+id) (born s (.alloc id ty sz zero) args) st
 |.box id ty sz=>Lp (s+id) (born s (.box id ty sz) args) st
 |.build zero places=>DX st ((Au zero places args).map .agg)
 |.buildSlice id ty sz len zero offs=>Lp (s+id) (born s (.buildSlice id ty sz len zero offs) args) st
 |.load agg=>FH args fun p=>DX st (GR st.h agg p)
 |.store n=>Fy args fun p v=>BH n p v st
 |.nilCheck=>FH args fun x=>CP x st
 |.bin op=>Fy args fun x y=>DX st (bin op x y)
 |.eq neg k=>Fy args fun x y=>DX st (Sq neg k x y)
 |.OE neg ts=>Fy args fun x y=>Px neg ts x y st
 |.un op=>FH args fun x=>DX st (un op x)
 |.BV k=>FH args fun x=>Hm k x st
 |.IG=>FH args fun x=>Ga x st
 |.II id ty=>Lp (s+id) (born s (.II id ty) args) st
 |.JW=>FH args fun x=>Ii x st
 |.CU t=>FH args fun x=>some (.iface t x,st)
 |.KY f n=>some (.fn f (args.take n) (args.drop n),st)
 |.mkMap id=>Lp (s+id) (born s (.mkMap id) args) st
 |.mkSlice id ty sz bytes zero=>Lp (s+id) (born s (.mkSlice id ty sz bytes zero) args) st
 |.CF lo hi=>Bp lo hi args st
 |.slice sz lo hi mx=>Bc sz lo hi mx args st
 |.Jm len sz lo hi=>Hf len sz lo hi args st
 |.fieldAddr off=>FH args fun p=>DI off p st
 |.field off agg=>FH args fun x=>La off agg x st
 |.indexAddr sz=>Fy args fun x i=>AU sz x i st
 |.FX len sz=>Fy args fun x i=>Hl len sz x i st
 |.Bn=>Fy args fun x i=>Bq x i st
 |.lookup kk zero ok=>Fy args fun m k=>Gn kk zero ok m k st
 |.mapUpdate kk=>Qe args fun m k v=>Dn kk m k v st
 |.mapEntry kk zero=>Fy args fun m k=>IE kk zero m k st
 |.entryStore=>Qe args fun m b v=>Gp m b v st
 |.rangeMap id=>FH args fun m=>Iz (s+id) m st
 |.next=>none
 |.entry=>FH args fun it=>Lb it st
 |.extract i=>FH args fun x=>GZ i x st
 |.len k=>FH args fun x=>BX k x st
 |.cap=>FH args fun x=>Lt x st
 |.min=>OY args st
 |.max=>OZ args st
 |.append id ty sz bytes=>Fy args fun x y=>Bi (s+id) ty sz bytes x y st
 |.Io id ty=>Fy args fun x y=>Gb (s+id) ty x y st
 |.copy sz=>Fy args fun d y=>KW sz d y st
 |.clear zero=>FH args fun x=>KX zero x st
 |.Mr ty n=>FH args fun x=>JQ ty n x st
 |.Kr=>FH args fun x=>GD x st
 |.Jl ty=>Fy args fun p n=>GN ty p n st
 |.call _=>none
 |.Gi=>none
 |.invoke _=>none
 |.ext e=>Tv e args st
end Go.Am
end
section
namespace Go.Am
open Go
inductive Gx where
 |tmp (t:Nat)
 |val (v:AV)
 deriving Inhabited
structure CV where
 dst:Option Nat
 guard:Option (Nat × Bool)
 k:AK
 args:List Gx
 deriving Inhabited
inductive Ae where
 |skip
 |region (na:Nat) (ops:List CV)
 |draw (na:Nat) (ops:List (Nat × CV × List Nat))
 |seq (a b:Ae)
 |cond (c:Gx) (a b:Ae)
 |block (id:Nat) (body:Ae)
 |loop (body:Ae)
 |exit (id:Nat)
 |ret
 |bad
 deriving Inhabited
inductive TK where
 |tmp (t:Nat)
 |cell (t:Nat) (agg:Option Nat)
 deriving Inhabited
inductive JL where
 |normal|exit (id:Nat)|ret
 deriving DecidableEq,Inhabited
inductive nX where
 |Ao|own|pure|Dr|jq|XL
 deriving DecidableEq,Inhabited
structure BO where
 results:List TK
 eT:nX
 body:Ae
 deriving Inhabited
structure Env where
 code:Nat->Option BO
 bg:Nat->String->Option Nat
 k:Nat
 QN:Nat->Option (Heap->List AV->Option AV)
inductive TS where
 |nil
 |node (v:AV) (l r:TS)
 deriving Inhabited
namespace TS
def get:TS->Nat->AV
 |nil,_=>.undef
 |node v l r,i=>bif Nat.beq i 0 then v else bif Nat.beq (i % 2) 1 then l.get (i / 2) else r.get (i / 2-1)
def single (v:AV):Nat->Nat->TS
 |0,_=>.nil
 |n+1,i=>bif Nat.beq i 0 then .node v .nil .nil else bif Nat.beq (i % 2) 1 then .node .undef (single v n (i / 2)) .nil else .node .undef .nil (single v n (i / 2-1))
def set:TS->Nat->AV->TS
 |nil,i,x=>single x 16 i
 |node v l r,i,x=>bif Nat.beq i 0 then .node x l r else bif Nat.beq (i % 2) 1 then .node v (l.set (i / 2) x) r else .node v l (r.set (i / 2-1) x)
def Cy:List AV->Nat->TS->TS
 |[],_,t=>t
 |v::l,i,t=>Cy l (i+1) (t.set i v)
end TS
def ev (ts:TS)(o:Gx):AV:=match o with
 |.tmp t=>ts.get t
 |.val v=>v
def Re (ts:TS):List Gx->List AV
 |[]=>[]
 |o::l=>ev ts o::Re ts l
def put (ts:TS)(d:Option Nat)(v:AV):TS:=
 match d with
 |some d=>ts.set d v
 |none=>ts
def isBool (b:Bool)(v:AV):Bool:=match v with
 |.bool c=>c==b
 |_=>false
def wanted (g:Option (Nat × Bool))(ts:TS):Bool:=
 match g with
 |none=>true
 |some (t,b)=>isBool b (ts.get t)
def candidates (bs:List Nat)(since:Nat)(seen:List Nat):List (Option Nat):=
 let left:=bs.filter fun b=>!seen.contains b
 let Bt:=left.filter (·<since)
 let new:=left.filter (since<=·)
 (if Bt.isEmpty then [none] else [])++(Bt++new).map some
def rows (sz:Nat):Nat->List AV->List AV
 |0,_=>[]
 |n+1,cs=>(bif Nat.beq sz 1 then cs.headD .undef else .agg (cs.take sz))::rows sz n (cs.drop sz)
def CO (f:AV->Option AV):List AV->Option (List AV)
 |[]=>some []
 |v::l=>match f v with
  |some v=>match CO f l with
   |some l=>some (v::l)
   |none=>none
  |none=>none
def CZ (c:Nat)(h:Heap):Nat->AV->Option AV
 |0,_=>none
 |n+1,v=>
  bif v.Bt c then some v else
  match v with
  |.AO o off=>
   match AA h o with
   |some (.cells _ _ cs _)=>bif Nat.ble off cs.length then (match CO (CZ c h n) (cs.drop off) with|some cs=>some (.BA cs)|none=>none) else none
   |_=>none
  |.AY o off len cap=>
   match AA h o with
   |some (.cells _ sz cs _)=>
    bif Nat.blt 0 sz&&Nat.ble (off+len*sz) cs.length then
     match CO (CZ c h n) ((cs.drop off).take (len*sz)) with
     |some cs=>some (.list (match cap with|some c=>Nat.beq c len|none=>false) sz (rows sz len cs))
     |none=>none
    else none
   |_=>none
  |.Cr o=>
   match AA h o with
   |some (.map ks vs _ _)=>match CO (CZ c h n) ks with
    |some ks=>match CO (CZ c h n) vs with
     |some vs=>some (.Gq ks vs)
     |none=>none
    |none=>none
   |_=>none
  |.BA cs=>match CO (CZ c h n) cs with|some cs=>some (.BA cs)|none=>none
  |.list t sz xs=>match CO (CZ c h n) xs with|some xs=>some (.list t sz xs)|none=>none
  |.Gq ks vs=>match CO (CZ c h n) ks with
   |some ks=>match CO (CZ c h n) vs with
    |some vs=>some (.Gq ks vs)
    |none=>none
   |none=>none
  |.fn f a b=>match CO (CZ c h n) a with
   |some a=>match CO (CZ c h n) b with
    |some b=>some (.fn f a b)
    |none=>none
   |none=>none
  |.iface t v=>match CZ c h n v with|some v=>some (.iface t v)|none=>none
  |.agg cs=>match CO (CZ c h n) cs with|some cs=>some (.agg cs)|none=>none
  |.tuple cs=>match CO (CZ c h n) cs with|some cs=>some (.tuple cs)|none=>none
  |_=>none
def CJ:Nat:=64
section
variable (E:Env)(call:Nat->List AV->St->M (AV × St))
def SN (o i since:Nat)(seen:List Nat)(ks vs:List AV)(bs:List Nat)(clock:Nat)(st:St)(c:Option (Option Nat)):M (AV × St):=
 match c with
 |some none=>.ret (.tuple [.bool false],st)
 |some (some b)=>match Jh bs b with
  |some e=>match ks[e]?,vs[e]? with
   |some k,some v=>.ret (.tuple [.bool true,k,v],{ st with h:=Aa st.h i (.iter (some o) since (seen++[b]) clock) })
   |_,_=>.fail
  |none=>.fail
 |none=>.fail
def MS (args:List AV)(st:St):M (AV × St):=
 match args with
 |[.AO i 0]=>match AA st.h i with
  |some (.iter none _ _ _)=>.ret (.tuple [.bool false],st)
  |some (.iter (some o) since seen stepped)=>
   bif Nat.blt i st.lo then .fail else
   match AA st.h o with
   |some (.map ks vs bs clock)=>
    bif !seen.isEmpty&&!bs.isEmpty&&bs.all (Nat.ble stepped) then .fail else
    .ask ((candidates bs since seen).length-1) fun j=>SN o i since seen ks vs bs clock st (candidates bs since seen)[j]?
   |_=>.fail
  |_=>.fail
 |_=>.fail
def KA (args:List AV)(st:St):M (AV × St):=match args with
 |.fn (.func f) a b::l=>call f (a++(l++b)) st
 |_=>.fail
def callMethod (name:String)(args:List AV)(st:St):M (AV × St):=match args with
 |.iface t v::l=>match E.bg t name with
  |some f=>call f (v::l) st
  |none=>.fail
 |_=>.fail
def GJ (s:Nat)(k:AK)(args:List AV)(st:St):M (AV × St):=
 match k with
 |.next=>MS args st
 |.call f=>call f args st
 |.Gi=>KA call args st
 |.invoke name=>callMethod E call name args st
 |k=>M.Bu (step s k args st)
def KG (s:Nat)(o:CV)(ts:TS)(st:St):M (TS × St):=
 bif wanted o.guard ts then (GJ E call s o.k (Re ts o.args) st).bind fun r=>.ret (put ts o.dst r.1,r.2)
 else .ret (put ts o.dst .undef,st)
def Gl (s:Nat):List CV->TS->St->M (TS × St)
 |[],ts,st=>.ret (ts,st)
 |o::l,ts,st=>(KG E call s o ts st).bind fun r=>Gl s l r.1 r.2
abbrev Ko:=List (List Nat × AK × List AV × AV)
def IU (s:Nat)(i:Nat):Ko->St->Bool
 |[],_=>true
 |(js,k,args,v)::p,st=>(!js.any (Nat.beq i)||(match step s k args st with|some r=>AV.beq v r.1|none=>false))&&IU s i p st
def Pw (o:CV)(js:List Nat)(ts ts':TS)(p:Ko):Ko:=
 match js with
 |[]=>p
 |js=>bif wanted o.guard ts then match o.dst with
  |some d=>(js,o.k,Re ts o.args,ts'.get d)::p
  |none=>p
  else p
def Fe (s:Nat):List (Nat × CV × List Nat)->Ko->TS->St->M (TS × St)
 |[],_,ts,st=>.ret (ts,st)
 |(i,o,js)::l,p,ts,st=>
  (KG E call s o ts st).bind fun r=>bif IU s i p r.2 then Fe s l (Pw o js ts r.1 p) r.1 r.2 else .fail
def DN (body:TS->St->M (JL × TS × St)):Nat->TS->St->M (JL × TS × St)
 |0,_,_=>.fail
 |n+1,ts,st=>(body ts st).bind fun r=>match r.1 with
  |.normal=>DN body n r.2.1 r.2.2
  |_=>.ret r
def BB:Ae->TS->St->M (JL × TS × St)
 |.skip,ts,st=>.ret (.normal,ts,st)
 |.region na ops,ts,st=>(Gl E call st.c ops ts { st with c:=st.c+na }).bind fun r=>.ret (.normal,r)
 |.draw na ops,ts,st=>(Fe E call st.c ops [] ts { st with c:=st.c+na }).bind fun r=>.ret (.normal,r)
 |.seq a b,ts,st=>(BB a ts st).bind fun r=>match r.1 with
  |.normal=>BB b r.2.1 r.2.2
  |_=>.ret r
 |.cond c a b,ts,st=>match ev ts c with
  |.bool t=>bif t then BB a ts st else BB b ts st
  |_=>.fail
 |.block id a,ts,st=>(BB a ts st).bind fun r=>match r.1 with
  |.exit i=>.ret (bif Nat.beq i id then .normal else .exit i,r.2)
  |_=>.ret r
 |.loop a,ts,st=>DN (BB a) E.k ts st
 |.exit id,ts,st=>.ret (.exit id,ts,st)
 |.ret,ts,st=>.ret (.ret,ts,st)
 |.bad,_,_=>.fail
end
def Tg (h:Heap)(ts:TS)(r:TK):Option AV:=match r with
 |.tmp t=>some (ts.get t)
 |.cell t agg=>GR h agg (ts.get t)
def AP (h:Heap)(ts:TS):List TK->Option (List AV)
 |[]=>some []
 |r::l=>match Tg h ts r with
  |some v=>match AP h ts l with
   |some l=>some (v::l)
   |none=>none
  |none=>none
def results (rs:List TK)(h:Heap)(ts:TS):Option AV:=
 match AP h ts rs with
 |some [v]=>some v
 |some l=>some (.tuple l)
 |none=>none
def leave (rs:List TK)(r:JL × TS × St):M (AV × St):=
 match r.1 with
 |.exit _=>.fail
 |_=>match results rs r.2.2.h r.2.1 with
  |some v=>.ret (v,r.2.2)
  |none=>.fail
def Bd (c:Nat)(st:St)(r:AV × St):M (AV × St):=
 match CZ c r.2.h CJ r.1 with
 |some v=>.ret (v,st)
 |none=>.fail
def Ai.Bt (c:Nat):Ai->Bool
 |.cells _ _ cs _=>AV.Cq c cs
 |.map ks vs _ _=>AV.Cq c ks&&AV.Cq c vs
 |.iter m _ _ _=>match m with
  |some o=>Nat.blt o c
  |none=>true
def Gg (c:Nat):Heap->Heap
 |[]=>[]
 |(i,x)::h=>bif Nat.ble c i then Gg c h else (i,x)::Gg c h
def holds (c:Nat):Heap->Bool
 |[]=>true
 |(i,x)::h=>Nat.blt i c&&Ai.Bt c x&&holds c h
def GG (c:Nat)(r:AV × St):M (AV × St):=
 match CZ c r.2.h CJ r.1 with
 |some v=>bif holds c (Gg c r.2.h) then .ret (v,{ r.2 with h:=Gg c r.2.h,c:=c }) else .fail
 |none=>.fail
def DJ (E:Env)(call:Nat->List AV->St->M (AV × St))(fn:BO)(args:List AV)(st:St):M (AV × St):=
 bif Nat.ble args.length 1000 then (BB E call fn.body (TS.Cy args 0 .nil) st).bind (leave fn.results) else .fail
def M.leftmost {α:Type}:M α->Option α
 |.ret a=>some a
 |.fail=>none
 |.ask _ k=>(k 0).leftmost
def M.TC {α:Type}(f:α->Bool):M α->Bool
 |.ret a=>f a
 |.fail=>false
 |.ask n k=>(List.range (n+1)).all fun i=>(k i).TC f
def Ik (st:St)(m:M (AV × St)):M (AV × St):=
 match m.leftmost with
 |some r=>bif m.TC (fun r'=>AV.beq r.1 r'.1) then .ret (r.1,st) else .fail
 |none=>.fail
 mutual
def AV.plain:AV->Bool
 |.bool _=>true
 |.int _ _=>true
 |.str _=>true
 |.tuple l=>AV.Pt l
 |.agg l=>AV.Pt l
 |_=>false
def AV.Pt:List AV->Bool
 |[]=>true
 |v::l=>AV.plain v&&AV.Pt l
end
def DZ (st:St)(r:AV × St):M (AV × St):=bif r.1.plain then .ret (r.1,st) else .fail
def AR (E:Env):Nat->Nat->List AV->St->M (AV × St)
 |0,_,_,_=>.fail
 |n+1,f,args,st=>
  match E.QN f with
  |some g=>match g st.h args with
   |some v=>.ret (v,st)
   |none=>.fail
  |none=>match E.code f with
   |none=>.fail
   |some fn=>match fn.eT with
    |.Ao=>DJ E (AR E n) fn args st
    |.own=>(DJ E (AR E n) fn args st).bind (GG st.c)
    |.pure=>(DJ E (AR E n) fn args { st with lo:=st.c }).bind (Bd st.c st)
    |.jq=>Ik st ((DJ E (AR E n) fn args { st with lo:=st.c }).bind (Bd st.c st))
    |.Dr=>bif AV.Cq 0 args then (DJ E (AR E n) fn args ⟨[],0,0⟩).bind (Bd 0 st) else .fail
    |.XL=>match CO (CZ 0 st.h CJ) args with
     |some args'=>(DJ E (AR E n) fn args' ⟨[],0,0⟩).bind (DZ st)
     |none=>.fail
end Go.Am
end
