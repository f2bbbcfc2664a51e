/- A part of the proof of beginningsTold (merged by a program). -/
import Derived.Below
import Derived.Calls
section
namespace Go.Am
open Go
inductive AV where
 |bool (b:Bool)
 |int (k:IntKind) (n:Int)
 |str (s:List UInt8)
 |Cs
 |AO (o off:Nat)
 |BC (cs:List AV)
 |AJ
 |list (tight:Bool) (sz:Nat) (xs:List AV)
 |AQ (o off len:Nat) (cap:Option Nat)
 |Dl
 |Bv (o:Nat)
 |GM (ks vs:List AV)
 |fn (f:Fn) (first captured:List AV)
 |GD
 |iface (t:Nat) (v:AV)
 |FV
 |agg (cs:List AV)
 |tuple (vs:List AV)
 deriving Inhabited
def AV.undef:AV:=.tuple []
def AV.cells:AV->List AV
 |.agg cs=>cs
 |v=>[v]
def AV.isTuple:AV->Bool
 |.tuple _=>true
 |_=>false
inductive Ai where
 |cells (ty sz:Nat) (cs:List AV) (ext:Bool)
 |map (ks vs:List AV) (borns:List Nat) (clock:Nat)
 |iter (m:Option Nat) (since:Nat) (seen:List Nat) (stepped:Nat)
 deriving Inhabited
inductive M (α:Type) where
 |ret (a:α)
 |fail
 |ask (n:Nat) (k:Nat->M α)
namespace M
variable {α β:Type}
def bind:M α->(α->M β)->M β
 |.ret a,f=>f a
 |.fail,_=>.fail
 |.ask n k,f=>.ask n fun i=>(k i).bind f
def all (Q:α->Prop):M α->Prop
 |.ret a=>Q a
 |.fail=>False
 |.ask n k=>∀i,i<=n->(k i).all Q
def CX:Option α->M α
 |some a=>.ret a
 |none=>.fail
end M
abbrev Af:=List (Nat × Ai)
def AA:Af->Nat->Option Ai
 |[],_=>none
 |(i,x)::h,o=>bif Nat.beq i o then some x else AA h o
def Ab:Af->Nat->Ai->Af
 |[],_,_=>[]
 |(i,x)::h,o,y=>bif Nat.beq i o then (i,y)::h else (i,x)::Ab h o y
def HY:Af->Nat->Af
 |[],_=>[]
 |(i,x)::h,o=>bif Nat.beq i o then HY h o else (i,x)::HY h o
def Lx:Af->Nat->Ai->Option Af
 |[],o,y=>some [(o,y)]
 |(i,x)::h,o,y=>bif Nat.blt i o then some ((o,y)::(i,x)::h) else bif Nat.beq i o then none else match Lx h o y with
  |some h=>some ((i,x)::h)
  |none=>none
structure St where
 h:Af
 c:Nat
 lo:Nat
 deriving Inhabited
inductive Ext where
 |same|indexByte|compare
 deriving Inhabited
inductive CK where
 |bool|int|str
 deriving DecidableEq,Inhabited
inductive KK where
 |one (c:CK)
 |many (cs:List CK)
 deriving DecidableEq,Inhabited
inductive EK where
 |key (k:KK)|ptr|slice|map|func|iface
 deriving DecidableEq,Inhabited
inductive LK where
 |str|slice|map
 deriving DecidableEq,Inhabited
inductive AK where
 |fail
 |move
 |pick
 |alloc (id ty sz:Nat) (zero:List AV)
 |box (id ty sz:Nat)
 |build (zero:List AV) (places:List (Nat × Nat))
 |buildSlice (id ty sz len:Nat) (zero:List AV) (offs:List Nat)
 |load (agg:Option Nat)
 |store (n:Nat)
 |nilCheck
 |bin (op:BinOp)
 |eq (neg:Bool) (k:EK)
 |RP (neg:Bool) (ts:List (Nat × CK))
 |un (op:UnOp)
 |CG (k:IntKind)
 |Kb
 |JQ (id ty:Nat)
 |Kc
 |Cr (t:Nat)
 |Ht (f:Fn) (nfirst:Nat)
 |mkMap (id:Nat)
 |mkSlice (id ty sz bytes:Nat) (zero:List AV)
 |Dt (lo hi:Bool)
 |slice (sz:Nat) (lo hi mx:Bool)
 |Kv (len sz:Nat) (lo hi:Bool)
 |fieldAddr (off:Nat)
 |field (off:Nat) (agg:Option Nat)
 |indexAddr (sz:Nat)
 |Gb (len sz:Nat)
 |Co
 |lookup (kk:KK) (zero:AV) (ok:Bool)
 |mapUpdate (kk:KK)
 |mapEntry (kk:KK) (zero:AV)
 |entryStore
 |rangeMap (id:Nat)
 |next
 |entry
 |extract (i:Nat)
 |len (k:LK)
 |cap
 |min
 |max
 |append (id ty sz bytes:Nat)
 |LU (id ty:Nat)
 |copy (sz:Nat)
 |clear (zero:List AV)
 |Oe (ty n:Nat)
 |Me
 |Kt (ty:Nat)
 |call (f:Nat)
 |Dz
 |invoke (name:String)
 |ext (e:Ext)
 deriving Inhabited
 mutual
def AV.beq:AV->AV->Bool
 |.bool a,.bool b=>a==b
 |.int k a,.int j b=>k==j&&a==b
 |.str a,.str b=>a==b
 |.Cs,.Cs=>true
 |.AO o a,.AO p b=>o==p&&a==b
 |.BC a,.BC b=>AV.Pb a b
 |.AJ,.AJ=>true
 |.list t n a,.list u m b=>t==u&&n==m&&AV.Pb a b
 |.AQ o a l c,.AQ p b m d=>o==p&&a==b&&l==m&&c==d
 |.Dl,.Dl=>true
 |.Bv o,.Bv p=>o==p
 |.GM a b,.GM c d=>AV.Pb a c&&AV.Pb b d
 |.fn f a b,.fn g c d=>decide (f=g)&&AV.Pb a c&&AV.Pb b d
 |.GD,.GD=>true
 |.iface t v,.iface u w=>t==u&&AV.beq v w
 |.FV,.FV=>true
 |.agg a,.agg b=>AV.Pb a b
 |.tuple a,.tuple b=>AV.Pb a b
 |_,_=>false
def AV.Pb:List AV->List AV->Bool
 |[],[]=>true
 |a::x,b::y=>AV.beq a b&&AV.Pb x y
 |_,_=>false
end
def Pd:IntKind->IntKind->Bool
 |.i8,.i8|.i16,.i16|.i32,.i32|.i64,.i64|.u8,.u8|.u16,.u16|.u32,.u32|.u64,.u64=>true
 |_,_=>false
def Yt (c:CK)(x y:AV):Option Bool:=match c with
 |.bool=>match x,y with
  |.bool a,.bool b=>some (a==b)
  |_,_=>none
 |.int=>match x,y with
  |.int k a,.int j b=>bif Pd k j then some (a==b) else none
  |_,_=>none
 |.str=>match x,y with
  |.str a,.str b=>some (a==b)
  |_,_=>none
def PV:List CK->List AV->List AV->Option Bool
 |[],[],[]=>some true
 |c::cs,a::x,b::y=>match Yt c a b with
  |some true=>PV cs x y
  |some false=>match PV cs x y with
   |some _=>some false
   |none=>none
  |none=>none
 |_,_,_=>none
def jQ (k:KK)(x y:AV):Option Bool:=match k with
 |.one c=>Yt c x y
 |.many cs=>match x with
  |.agg a=>match y with
   |.agg b=>PV cs a b
   |_=>none
  |_=>none
def kN (k:EK)(x y:AV):Option Bool:=
 match k with
 |.key k=>jQ k x y
 |.ptr=>match x,y with
  |.Cs,.Cs=>some true
  |.Cs,.AO ..|.Cs,.BC _|.AO ..,.Cs|.BC _,.Cs=>some false
  |.AO o a,.AO p b=>bif Nat.beq o p then some (Nat.beq a b) else none
  |_,_=>none
 |.slice=>match x,y with
  |.AJ,.AJ=>some true
  |.AJ,.list ..|.AJ,.AQ ..|.list ..,.AJ|.AQ ..,.AJ=>some false
  |_,_=>none
 |.map=>match x,y with
  |.Dl,.Dl=>some true
  |.Dl,.Bv _|.Dl,.GM ..|.Bv _,.Dl|.GM ..,.Dl=>some false
  |_,_=>none
 |.func=>match x,y with
  |.GD,.GD=>some true
  |.GD,.fn ..|.fn ..,.GD=>some false
  |_,_=>none
 |.iface=>match x,y with
  |.FV,.FV=>some true
  |.FV,.iface ..|.iface ..,.FV=>some false
  |_,_=>none
def HV (k:KK)(x:AV):Bool:=match k with
 |.one _=>true
 |.many cs=>match x with
  |.agg a=>Nat.beq a.length cs.length
  |_=>false
def FU (kk:KK):List AV->AV->Option (Option Nat)
 |[],_=>some none
 |k::ks,x=>match jQ kk x k with
  |some true=>some (some 0)
  |some false=>match FU kk ks x with
   |some (some i)=>some (some (i+1))
   |some none=>some none
   |none=>none
  |none=>none
def intBits (op:BinOp)(k:IntKind)(x y:Int):Option AV:=
 let a:=BitVec.ofInt k.bits x
 let b:=BitVec.ofInt k.bits y
 match op with
 |.and=>some (.int k (k.wrap (a &&& b).toNat))
 |.or=>some (.int k (k.wrap (a ||| b).toNat))
 |.xor=>some (.int k (k.wrap (a ^^^ b).toNat))
 |.andNot=>some (.int k (k.wrap (a &&& ~~~b).toNat))
 |_=>none
def aU (op:BinOp)(k:IntKind)(a b:Int):Option AV:=
 match op with
 |.add=>some (.int k (k.wrap (a+b)))
 |.sub=>some (.int k (k.wrap (a-b)))
 |.mul=>some (.int k (k.wrap (a*b)))
 |.quo=>if b=0 then none else some (.int k (k.wrap (a.tdiv b)))
 |.rem=>if b=0 then none else some (.int k (a.tmod b))
 |.eql=>some (.bool (a==b))
 |.neq=>some (.bool (a != b))
 |.lss=>some (.bool (decide (a<b)))
 |.leq=>some (.bool (decide (a<=b)))
 |.gtr=>some (.bool (decide (b<a)))
 |.geq=>some (.bool (decide (b<=a)))
 |op=>intBits op k a b
def YV (op:BinOp)(k:IntKind)(a b:Int):Option AV:=
 if b<0 then none else
 match op with
 |.shl=>some (.int k (k.wrap (a*2 ^ min b.toNat k.bits)))
 |.shr=>some (.int k (a.fdiv (2 ^ min b.toNat k.bits)))
 |_=>none
def PI:BinOp->Bool
 |.shl|.shr=>true
 |_=>false
def aT (op:BinOp)(a b:List UInt8):Option AV:=
 match op with
 |.add=>if a.length+b.length<=2 ^ 62 then some (.str (a++b)) else none
 |.eql=>some (.bool (a==b))
 |.neq=>some (.bool !(a==b))
 |.lss=>some (.bool (Op.bytesLess a b))
 |.leq=>some (.bool (Op.bytesLess a b||a==b))
 |.gtr=>some (.bool !(Op.bytesLess a b||a==b))
 |.geq=>some (.bool !(Op.bytesLess a b))
 |_=>none
def bin (op:BinOp)(x y:AV):Option AV:=
 match x with
 |.int k a=>match y with
  |.int j b=>bif PI op then YV op k a b else bif Pd k j then aU op k a b else none
  |_=>none
 |.str a=>match y with
  |.str b=>aT op a b
  |_=>none
 |_=>none
def YA (neg:Bool)(k:EK)(x y:AV):Option AV:=match kN k x y with
 |some e=>some (.bool (e != neg))
 |none=>none
def un (op:UnOp)(x:AV):Option AV:=
 match op,x with
 |.neg,.int k n=>some (.int k (k.wrap (0-n)))
 |.xor,.int k n=>intBits .xor k (if k.signed then -1 else k.max) n
 |.not,.bool b=>some (.bool !b)
 |_,_=>none
def AZ (h:Af)(p:AV)(n:Nat):Option (List AV):=
 match p with
 |.AO o off=>match AA h o with
  |some (.cells _ _ cs _)=>bif Nat.ble (off+n) cs.length then some ((cs.drop off).take n) else none
  |_=>none
 |.BC cs=>bif Nat.ble n cs.length then some (cs.take n) else none
 |_=>none
def AP (h:Af)(p:AV):Option AV:=
 match p with
 |.AO o off=>match AA h o with
  |some (.cells _ _ cs _)=>cs[off]?
  |_=>none
 |.BC (v::_)=>some v
 |_=>none
def Hw (h:Af)(agg:Option Nat)(p:AV):Option AV:=
 match agg with
 |some n=>(AZ h p n).map .agg
 |none=>AP h p
def BM (cs:List AV)(off:Nat)(vs:List AV):List AV:=cs.take off++(vs++cs.drop (off+vs.length))
def Bl (st:St)(o off:Nat)(vs:List AV):Option St:=
 bif Nat.blt o st.lo then none else
 match AA st.h o with
 |some (.cells ty sz cs ext)=>bif Nat.ble (off+vs.length) cs.length then some { st with h:=Ab st.h o (.cells ty sz (BM cs off vs) ext) } else none
 |_=>none
def newObj (o:Nat)(ob:Ai)(st:St):Option St:=
 match Lx st.h o ob with
 |some h=>some { st with h }
 |none=>none
def BH (h:Af)(sz n:Nat)(v:AV):Option (List AV):=
 match v with
 |.AJ=>bif Nat.beq n 0 then some [] else none
 |.list _ sz' xs=>bif Nat.ble n xs.length&&Nat.beq sz' sz then some ((xs.take n).flatMap AV.cells) else none
 |.AQ o off len _=>match AA h o with
  |some (.cells _ sz' cs _)=>bif Nat.beq sz' sz&&Nat.ble n len&&Nat.ble (off+n*sz) cs.length then some ((cs.drop off).take (n*sz)) else none
  |_=>none
 |_=>none
def asNat:AV->Option Nat
 |.int _ (.ofNat n)=>some n
 |_=>none
def lenOf:AV->Option Nat
 |.AJ=>some 0
 |.list _ _ xs=>some xs.length
 |.AQ _ _ len _=>some len
 |.str s=>some s.length
 |_=>none
def room:Nat:=2 ^ 40
def grow (o ty sz bytes len n:Nat)(cs:List AV)(st:St):Option (AV × St):=
 bif Nat.ble ((len+n)*bytes) room&&Nat.ble (len+n) room then
  match newObj o (.cells ty sz cs true) st with
  |some st=>some (.AQ o 0 (len+n) none,st)
  |none=>none
 else none
def Cn (o' ty sz bytes n:Nat)(new:List AV)(st:St)(o off len:Nat)(cap:Option Nat):Option (AV × St):=
 match AA st.h o with
 |some (.cells ty' sz' cs ext)=>
  bif Nat.beq ty' ty&&Nat.beq sz' sz&&Nat.ble (off+len*sz) cs.length then
   match cap with
   |some c=>
    bif Nat.ble (len+n) c then
     match Bl st o (off+len*sz) new with
     |some st=>some (.AQ o off (len+n) cap,st)
     |none=>none
    else grow o' ty sz bytes len n ((cs.drop off).take (len*sz)++new) st
   |none=>
    bif Nat.ble (off+(len+n)*sz) cs.length then
     match Bl st o (off+len*sz) new with
     |some st=>some (.AQ o off (len+n) cap,st)
     |none=>none
    else bif ext&&Nat.ble st.lo o then grow o' ty sz bytes len n ((cs.drop off).take (len*sz)++new) { st with h:=HY st.h o } else none
  else none
 |_=>none
def BK (o' ty sz bytes:Nat)(x:AV)(n:Nat)(new:List AV)(st:St):Option (AV × St):=
 bif Nat.beq sz 0 then none else
 match x with
 |.AJ=>bif Nat.beq n 0 then some (.AJ,st) else grow o' ty sz bytes 0 n new st
 |.list tight sz' xs=>
  bif Nat.beq n 0 then some (x,st)
  else bif tight&&Nat.beq sz' sz then grow o' ty sz bytes xs.length n (xs.flatMap AV.cells++new) st else none
 |.AQ o off len cap=>bif Nat.beq n 0 then some (x,st) else Cn o' ty sz bytes n new st o off len cap
 |_=>none
def NT (tight:Bool)(sz:Nat)(xs:List AV)(lo hi mx:Option Nat):Option AV:=
 let h:=hi.getD xs.length
 let l:=lo.getD 0
 match mx with
 |none=>bif Nat.ble l h&&Nat.ble h xs.length then some (.list (tight&&Nat.beq h xs.length) sz ((xs.take h).drop l)) else none
 |some m=>bif Nat.ble l h&&Nat.ble h m&&Nat.ble m xs.length then some (.list (Nat.beq m h) sz ((xs.take h).drop l)) else none
def Du (n sz o off len:Nat)(cap lo hi mx:Option Nat):Option AV:=
 let e:=hi.getD len
 let l:=lo.getD 0
 bif Nat.ble l e then
  match mx,cap with
  |none,some c=>bif Nat.ble e c then some (.AQ o (off+l*sz) (e-l) (some (c-l))) else none
  |none,none=>bif Nat.ble (off+e*sz) n then some (.AQ o (off+l*sz) (e-l) none) else none
  |some m,some c=>bif Nat.ble e m&&Nat.ble m c then some (.AQ o (off+l*sz) (e-l) (some (m-l))) else none
  |some m,none=>bif Nat.ble e m&&Nat.ble (off+m*sz) n then some (.AQ o (off+l*sz) (e-l) (some (m-l))) else none
 else none
def Cz (sz:Nat)(x:AV)(lo hi mx:Option Nat)(h:Af):Option AV:=
 match x with
 |.AJ=>bif Nat.beq (lo.getD 0) 0&&Nat.beq (hi.getD 0) 0&&Nat.beq (mx.getD 0) 0 then some .AJ else none
 |.list tight sz' xs=>bif Nat.beq sz' sz then NT tight sz xs lo hi mx else none
 |.AQ o off len cap=>match AA h o with
  |some (.cells _ sz' cs _)=>bif Nat.beq sz' sz&&Nat.blt 0 sz then Du cs.length sz o off len cap lo hi mx else none
  |_=>none
 |_=>none
def Dc (is:Bool)(l:List AV):Option (Option Nat × List AV):=
 match is with
 |false=>some (none,l)
 |true=>match l with
  |a::l=>match asNat a with
   |some n=>some (some n,l)
   |none=>none
  |[]=>none
def BB:List AV->List (Nat × Nat)->List AV->Option (List AV)
 |cs,[],[]=>some cs
 |cs,(off,size)::ps,v::vs=>
  bif v.isTuple then none
  else bif Nat.beq v.cells.length size&&Nat.ble (off+size) cs.length then BB (BM cs off v.cells) ps vs else none
 |_,_,_=>none
def QH (k:IntKind)(x:Int):List AV->Option AV
 |[]=>some (.int k x)
 |.int _ y::l=>QH k (if y<x then y else x) l
 |_=>none
def QI (k:IntKind)(x:Int):List AV->Option AV
 |[]=>some (.int k x)
 |.int _ y::l=>QI k (if y>x then y else x) l
 |_=>none
def CQ (zero:List AV):Nat->List AV
 |0=>[]
 |n+1=>zero++CQ zero n
def byteOf:AV->Option UInt8
 |.int .u8 n=>some (UInt8.ofNat n.toNat)
 |_=>none
def bytesOf:List AV->Option (List UInt8)
 |[]=>some []
 |c::l=>match byteOf c with
  |some b=>match bytesOf l with
   |some l=>some (b::l)
   |none=>none
  |none=>none
def PX (l:List UInt8):List AV:=l.map fun b=>.int .u8 b.toNat
 mutual
def AV.Bw (c:Nat):AV->Bool
 |.AO o _|.AQ o _ _ _|.Bv o=>Nat.blt o c
 |.BC cs|.agg cs|.tuple cs|.list _ _ cs=>AV.CL c cs
 |.GM a b|.fn _ a b=>AV.CL c a&&AV.CL c b
 |.iface _ v=>AV.Bw c v
 |_=>true
def AV.CL (c:Nat):List AV->Bool
 |[]=>true
 |v::l=>AV.Bw c v&&AV.CL c l
end
abbrev R:=Option (AV × St)
def GV (l:List AV)(f:AV->R):R:=match l with
 |[x]=>f x
 |_=>none
def Gv (l:List AV)(f:AV->AV->R):R:=match l with
 |[x,y]=>f x y
 |_=>none
def TV (l:List AV)(f:AV->AV->AV->R):R:=match l with
 |[x,y,z]=>f x y z
 |_=>none
def FJ (st:St)(v:Option AV):R:=match v with
 |some v=>some (v,st)
 |none=>none
def Cm (v:AV)(st:Option St):R:=match st with
 |some st=>some (v,st)
 |none=>none
def Mi (c a b:AV)(st:St):R:=match c with
 |.bool t=>some (bif t then a else b,st)
 |_=>none
abbrev B:=Option (AV × Ai)
def Nj (o:Nat)(r:B)(st:St):R:=match r with
 |some (v,ob)=>Cm v (newObj o ob st)
 |none=>none
def Dr (o ty sz:Nat)(x:AV):B:=bif x.isTuple then none else some (.AO o 0,.cells ty sz x.cells false)
def Ay (o ty sz len:Nat)(zero:List AV)(offs:List Nat)(parts:List AV):B:=
 bif Nat.blt 0 sz then
  match BB zero (offs.map fun i=>(i*sz,sz)) parts with
  |some cs=>bif Nat.beq cs.length (len*sz) then some (.AQ o 0 len (some len),.cells ty sz cs false) else none
  |none=>none
 else none
def Bc (n:Nat)(p v:AV)(st:St):R:=match p with
 |.AO o off=>bif v.isTuple||!Nat.beq v.cells.length n then none else Cm .undef (Bl st o off v.cells)
 |_=>none
def Dv (x:AV)(st:St):R:=match x with
 |.AO ..|.BC _=>some (x,st)
 |.fn (.func _) _ _=>some (x,st)
 |_=>none
def jy:List (Nat × CK)->Nat->Option CK
 |[],_=>none
 |(u,c)::l,t=>bif Nat.beq u t then some c else jy l t
def SX (neg:Bool)(ts:List (Nat × CK))(x y:AV)(st:St):R:=match x with
 |.FV=>match y with
  |.iface ..=>some (.bool neg,st)
  |_=>none
 |.iface t a=>match y with
  |.FV=>some (.bool neg,st)
  |.iface u b=>bif Nat.beq t u then (match jy ts t with
   |some c=>match Yt c a b with
    |some e=>some (.bool (e != neg),st)
    |none=>none
   |none=>none) else some (.bool neg,st)
  |_=>none
 |_=>none
def JC (k:IntKind)(x:AV)(st:St):R:=match x with
 |.int _ n=>some (.int k (k.wrap n),st)
 |_=>none
def JB (x:AV)(st:St):R:=match x with
 |.str _=>some (x,st)
 |_=>none
def Jh (x:AV)(st:St):R:=match x with
 |.str _=>none
 |x=>match lenOf x with
  |some n=>match BH st.h 1 n x with
   |some cs=>FJ st ((bytesOf cs).map .str)
   |none=>none
  |none=>none
def Pe (o ty:Nat)(x:AV):B:=match x with
 |.str l=>bif Nat.ble l.length room then some (.AQ o 0 l.length none,.cells ty 1 (PX l) true) else none
 |_=>none
def GH (o ty sz bytes:Nat)(zero:List AV)(l c:AV):B:=match asNat l with
 |some l=>match asNat c with
  |some c=>bif Nat.ble l c&&Nat.ble (c*bytes) room&&Nat.ble c room&&Nat.blt 0 sz&&Nat.beq zero.length sz then
   some (.AQ o 0 l (some c),.cells ty sz (CQ zero c) false) else none
  |none=>none
 |none=>none
def Hq (lo hi:Bool)(l:List AV)(st:St):R:=match l with
 |.str x::l=>match Dc lo l with
  |some (a,l)=>match Dc hi l with
   |some (b,[])=>
    let e:=b.getD x.length
    let f:=a.getD 0
    bif Nat.ble f e&&Nat.ble e x.length then some (.str ((x.take e).drop f),st) else none
   |_=>none
  |none=>none
 |_=>none
def CF (sz:Nat)(lo hi mx:Bool)(l:List AV)(st:St):R:=match l with
 |x::l=>match Dc lo l with
  |some (a,l)=>match Dc hi l with
   |some (b,l)=>match Dc mx l with
    |some (m,[])=>FJ st (Cz sz x a b m st.h)
    |_=>none
   |none=>none
  |none=>none
 |_=>none
def IE (len sz:Nat)(lo hi:Bool)(l:List AV)(st:St):R:=match l with
 |.AO o off::l=>match Dc lo l with
  |some (a,l)=>match Dc hi l with
   |some (b,[])=>match AA st.h o with
    |some (.cells _ sz' cs false)=>
     let e:=b.getD len
     let f:=a.getD 0
     bif Nat.beq sz' sz&&Nat.blt 0 sz&&Nat.ble f e&&Nat.ble e len&&Nat.ble (off+len*sz) cs.length then some (.AQ o (off+f*sz) (e-f) (some (len-f)),st) else none
    |_=>none
   |_=>none
  |none=>none
 |_=>none
def Dn (off:Nat)(p:AV)(st:St):R:=match p with
 |.AO o a=>some (.AO o (a+off),st)
 |.BC cs=>some (.BC (cs.drop off),st)
 |_=>none
def Na (off:Nat)(agg:Option Nat)(x:AV)(st:St):R:=match x with
 |.agg cs=>match agg with
  |some n=>bif Nat.ble (off+n) cs.length then some (.agg ((cs.drop off).take n),st) else none
  |none=>FJ st cs[off]?
 |_=>none
def Aa (sz:Nat)(x i:AV)(st:St):R:=match asNat i with
 |some i=>match x with
  |.list _ sz' xs=>bif Nat.beq sz' sz then match xs[i]? with
   |some v=>some (.BC v.cells,st)
   |none=>none
   else none
  |.AQ o off len _=>match AA st.h o with
   |some (.cells _ sz' _ _)=>bif Nat.blt i len&&Nat.beq sz' sz then some (.AO o (off+i*sz),st) else none
   |_=>none
  |_=>none
 |none=>none
def JA (len sz:Nat)(p i:AV)(st:St):R:=match asNat i with
 |some i=>bif Nat.blt i len then match p with
  |.AO o off=>some (.AO o (off+i*sz),st)
  |.BC cs=>some (.BC (cs.drop (i*sz)),st)
  |_=>none
  else none
 |none=>none
def DC (x i:AV)(st:St):R:=match asNat i with
 |some i=>match x with
  |.str l=>match l[i]? with
   |some b=>some (.int .u8 b.toNat,st)
   |none=>none
  |_=>none
 |none=>none
def Gm (zero:AV)(ok:Bool)(r:Option AV)(st:St):R:=
 some (bif ok then .tuple [r.getD zero,.bool r.isSome] else r.getD zero,st)
def Ga (kk:KK)(zero:AV)(ok:Bool)(ks vs:List AV)(k:AV)(st:St):R:=bif HV kk k then match FU kk ks k with
 |some none=>Gm zero ok none st
 |some (some i)=>match vs[i]? with
  |some v=>Gm zero ok (some v) st
  |none=>none
 |none=>none
 else none
def DR (kk:KK)(zero:AV)(ok:Bool)(m k:AV)(st:St):R:=match m with
 |.Dl=>Ga kk zero ok [] [] k st
 |.Bv o=>match AA st.h o with
  |some (.map ks vs _ _)=>Ga kk zero ok ks vs k st
  |_=>none
 |.GM ks vs=>Ga kk zero ok ks vs k st
 |_=>none
def Cg (kk:KK)(m k v:AV)(st:St):R:=match m with
 |.Bv o=>bif Nat.blt o st.lo||!HV kk k then none else match AA st.h o with
  |some (.map ks vs bs clock)=>match FU kk ks k with
   |some (some i)=>some (.undef,{ st with h:=Ab st.h o (.map ks (vs.set i v) bs clock) })
   |some none=>some (.undef,{ st with h:=Ab st.h o (.map (ks++[k]) (vs++[v]) (bs++[clock]) (clock+1)) })
   |none=>none
  |_=>none
 |_=>none
def Jz (kk:KK)(zero m k:AV)(st:St):R:=match m with
 |.Bv o=>bif Nat.blt o st.lo||!HV kk k then none else match AA st.h o with
  |some (.map ks vs bs clock)=>match FU kk ks k with
   |some (some i)=>match vs[i]?,bs[i]? with
    |some v,some b=>some (.tuple [v,.int .i64 b],st)
    |_,_=>none
   |some none=>some (.tuple [zero,.int .i64 clock],{ st with h:=Ab st.h o (.map (ks++[k]) (vs++[zero]) (bs++[clock]) (clock+1)) })
   |none=>none
  |_=>none
 |_=>none
def JK:List Nat->Nat->Option Nat
 |[],_=>none
 |x::bs,b=>bif Nat.beq x b then some 0 else match JK bs b with
  |some i=>some (i+1)
  |none=>none
def Ib (m b v:AV)(st:St):R:=match asNat b with
 |some b=>match m with
  |.Bv o=>bif Nat.blt o st.lo then none else match AA st.h o with
   |some (.map ks vs bs clock)=>match JK bs b with
    |some i=>some (.undef,{ st with h:=Ab st.h o (.map ks (vs.set i v) bs clock) })
    |none=>none
   |_=>none
  |_=>none
 |none=>none
def Hr (o:Nat)(m:AV)(st:St):R:=match m with
 |.Dl=>Cm (.AO o 0) (newObj o (.iter none 0 [] 0) st)
 |.Bv x=>match AA st.h x with
  |some (.map _ _ _ clock)=>Cm (.AO o 0) (newObj o (.iter (some x) clock [] clock) st)
  |_=>none
 |_=>none
def KV (it:AV)(st:St):R:=match it with
 |.AO i 0=>match AA st.h i with
  |some (.iter (some o) _ seen stepped)=>match AA st.h o with
   |some (.map ks vs bs clock)=>bif Nat.beq clock stepped then match seen.getLast? with
    |some b=>match JK bs b with
     |some j=>match ks[j]?,vs[j]? with
      |some k,some v=>some (.tuple [k,v],st)
      |_,_=>none
     |none=>none
    |none=>none
    else none
   |_=>none
  |_=>none
 |_=>none
def IL (i:Nat)(x:AV)(st:St):R:=match x with
 |.tuple vs=>FJ st vs[i]?
 |_=>none
def Kj (x:AV):Option Nat:=match x with
 |.str l=>some l.length
 |_=>none
def Bq (x:AV):Option Nat:=match x with
 |.AJ=>some 0
 |.list _ _ xs=>some xs.length
 |.AQ _ _ len _=>some len
 |_=>none
def Sj (h:Af)(x:AV):Option Nat:=match x with
 |.Dl=>some 0
 |.Bv o=>match AA h o with
  |some (.map ks _ _ _)=>some ks.length
  |_=>none
 |.GM ks _=>some ks.length
 |_=>none
def BO (k:LK)(x:AV)(st:St):R:=match (match k with|.str=>Kj x|.slice=>Bq x|.map=>Sj st.h x) with
 |some n=>some (.int .i64 n,st)
 |none=>none
def Nn (x:AV)(st:St):R:=match x with
 |.AJ=>some (.int .i64 0,st)
 |.list true _ xs=>some (.int .i64 xs.length,st)
 |.AQ _ _ _ (some c)=>some (.int .i64 c,st)
 |_=>none
def Ql (l:List AV)(st:St):R:=match l with
 |.int k x::l=>FJ st (QH k x l)
 |_=>none
def Qm (l:List AV)(st:St):R:=match l with
 |.int k x::l=>FJ st (QI k x l)
 |_=>none
def BU (o ty sz bytes:Nat)(x y:AV)(st:St):R:=match y with
 |.str _=>none
 |y=>match lenOf y with
  |some n=>match BH st.h sz n y with
   |some new=>BK o ty sz bytes x n new st
   |none=>none
  |none=>none
def JV (o ty:Nat)(x y:AV)(st:St):R:=match y with
 |.str l=>BK o ty 1 1 x l.length (PX l) st
 |_=>none
def Lp (sz:Nat)(d y:AV)(st:St):R:=match y with
 |.str _=>none
 |y=>match lenOf y with
  |some b=>match d with
   |.AJ=>some (.int .i64 0,st)
   |.AQ o off a _=>match BH st.h sz (Nat.min b a) y with
    |some cs=>bif Nat.beq (Nat.min b a) 0 then some (.int .i64 0,st) else match AA st.h o with
     |some (.cells _ sz' _ _)=>bif Nat.beq sz' sz then Cm (.int .i64 (Nat.min b a)) (Bl st o off cs) else none
     |_=>none
    |none=>none
   |_=>none
  |none=>none
def Dk (zero:List AV)(x:AV)(st:St):R:=match x with
 |.AJ=>some (.tuple [],st)
 |.AQ o off len _=>bif Nat.beq len 0 then some (.tuple [],st) else match AA st.h o with
  |some (.cells _ sz _ _)=>bif Nat.beq zero.length sz then Cm (.tuple []) (Bl st o off (CQ zero len)) else none
  |_=>none
 |_=>none
def NZ (ty n:Nat)(x:AV)(st:St):R:=match x with
 |.Cs=>some (x,st)
 |.AO o 0=>match AA st.h o with
  |some (.cells ty' _ cs false)=>bif Nat.beq ty' ty&&Nat.ble n cs.length then some (x,st) else none
  |_=>none
 |_=>none
def JU (x:AV)(st:St):R:=match x with
 |.AJ=>some (.Cs,st)
 |.AQ o off len _=>bif Nat.blt 0 len then some (.AO o off,st) else none
 |_=>none
def Jy (ty:Nat)(p n:AV)(st:St):R:=match asNat n with
 |some n=>bif Nat.beq n 0 then (match p with
  |.Cs|.AO ..=>some (.str [],st)
  |_=>none)
  else match p with
   |.AO o off=>bif Nat.blt o st.lo||!Nat.ble n room then none else match AA st.h o with
    |some (.cells ty' _ cs _)=>bif Nat.beq ty' ty&&Nat.ble (off+n) cs.length then
     match bytesOf ((cs.drop off).take n) with
     |some l=>some (.str l,{ st with h:=HY st.h o })
     |none=>none
     else none
    |_=>none
   |_=>none
 |none=>none
def FI (x c:AV)(st:St):R:=match x with
 |.str l=>match byteOf c with
  |some c=>some (.int .i64 (match l.findIdx? (fun b=>b==c) with|some i=>i|none=>-1),st)
  |_=>none
 |_=>none
def Ji (x y:AV)(st:St):R:=match x with
 |.str a=>match y with
  |.str b=>some (.int .i64 (if a==b then 0 else if Op.bytesLess a b then -1 else 1),st)
  |_=>none
 |_=>none
def bG (e:Ext)(args:List AV)(st:St):R:=match e with
 |.same=>GV args fun x=>some (x,st)
 |.indexByte=>Gv args fun x y=>FI x y st
 |.compare=>Gv args fun x y=>Ji x y st
def b1 (l:List AV)(f:AV->B):B:=match l with
 |[x]=>f x
 |_=>none
def b2 (l:List AV)(f:AV->AV->B):B:=match l with
 |[x,y]=>f x y
 |_=>none
def born (s:Nat)(k:AK)(args:List AV):B:=
 match k with
 |.alloc id ty sz zero=>some (.AO (s+id) 0,.cells ty sz zero false)
 |.box id ty sz=>b1 args fun x=>Dr (s+id) ty sz x
 |.buildSlice id ty sz len zero offs=>Ay (s+id) ty sz len zero offs args
 |.JQ id ty=>b1 args fun x=>Pe (s+id) ty x
 |.mkMap id=>some (.Bv (s+id),.map [] [] [] 0)
 |.mkSlice id ty sz bytes zero=>b2 args fun l c=>GH (s+id) ty sz bytes zero l c
 |_=>none
def step (s:Nat)(k:AK)(args:List AV)(st:St):R:=
 match k with
 |.fail=>none
 |.move=>GV args fun x=>some (x,st)
 |.pick=>TV args fun c a b=>Mi c a b st
 |.alloc id ty sz zero=>Nj (s+id) (born s (.alloc id ty sz zero) args) st
 |.box id ty sz=>Nj (s+id) (born s (.box id ty sz) args) st
 |.build zero places=>FJ st ((BB zero places args).map .agg)
 |.buildSlice id ty sz len zero offs=>Nj (s+id) (born s (.buildSlice id ty sz len zero offs) args) st
 |.load agg=>GV args fun p=>FJ st (Hw st.h agg p)
 |.store n=>Gv args fun p v=>Bc n p v st
 |.nilCheck=>GV args fun x=>Dv x st
 |.bin op=>Gv args fun x y=>FJ st (bin op x y)
 |.eq neg k=>Gv args fun x y=>FJ st (YA neg k x y)
 |.RP neg ts=>Gv args fun x y=>SX neg ts x y st
 |.un op=>GV args fun x=>FJ st (un op x)
 |.CG k=>GV args fun x=>JC k x st
 |.Kb=>GV args fun x=>JB x st
 |.JQ id ty=>Nj (s+id) (born s (.JQ id ty) args) st
 |.Kc=>GV args fun x=>Jh x st
 |.Cr t=>GV args fun x=>some (.iface t x,st)
 |.Ht f n=>some (.fn f (args.take n) (args.drop n),st)
 |.mkMap id=>Nj (s+id) (born s (.mkMap id) args) st
 |.mkSlice id ty sz bytes zero=>Nj (s+id) (born s (.mkSlice id ty sz bytes zero) args) st
 |.Dt lo hi=>Hq lo hi args st
 |.slice sz lo hi mx=>CF sz lo hi mx args st
 |.Kv len sz lo hi=>IE len sz lo hi args st
 |.fieldAddr off=>GV args fun p=>Dn off p st
 |.field off agg=>GV args fun x=>Na off agg x st
 |.indexAddr sz=>Gv args fun x i=>Aa sz x i st
 |.Gb len sz=>Gv args fun x i=>JA len sz x i st
 |.Co=>Gv args fun x i=>DC x i st
 |.lookup kk zero ok=>Gv args fun m k=>DR kk zero ok m k st
 |.mapUpdate kk=>TV args fun m k v=>Cg kk m k v st
 |.mapEntry kk zero=>Gv args fun m k=>Jz kk zero m k st
 |.entryStore=>TV args fun m b v=>Ib m b v st
 |.rangeMap id=>GV args fun m=>Hr (s+id) m st
 |.next=>none
 |.entry=>GV args fun it=>KV it st
 |.extract i=>GV args fun x=>IL i x st
 |.len k=>GV args fun x=>BO k x st
 |.cap=>GV args fun x=>Nn x st
 |.min=>Ql args st
 |.max=>Qm args st
 |.append id ty sz bytes=>Gv args fun x y=>BU (s+id) ty sz bytes x y st
 |.LU id ty=>Gv args fun x y=>JV (s+id) ty x y st
 |.copy sz=>Gv args fun d y=>Lp sz d y st
 |.clear zero=>GV args fun x=>Dk zero x st
 |.Oe ty n=>GV args fun x=>NZ ty n x st
 |.Me=>GV args fun x=>JU x st
 |.Kt ty=>Gv args fun p n=>Jy ty p n st
 |.call _=>none
 |.Dz=>none
 |.invoke _=>none
 |.ext e=>bG e args st
end Go.Am
end
section
namespace Go.Am
open Go
inductive II where
 |tmp (t:Nat)
 |val (v:AV)
 deriving Inhabited
structure Cj where
 dst:Option Nat
 guard:Option (Nat × Bool)
 k:AK
 args:List II
 deriving Inhabited
inductive Ag where
 |skip
 |region (na:Nat) (ops:List Cj)
 |draw (na:Nat) (ops:List (Nat × Cj × List Nat))
 |seq (a b:Ag)
 |cond (c:II) (a b:Ag)
 |block (id:Nat) (body:Ag)
 |loop (body:Ag)
 |exit (id:Nat)
 |ret
 |bad
 deriving Inhabited
inductive WO where
 |tmp (t:Nat)
 |cell (t:Nat) (agg:Option Nat)
 deriving Inhabited
inductive Hd where
 |normal|exit (id:Nat)|ret
 deriving DecidableEq,Inhabited
inductive xU where
 |BG|own|pure|DN|lN
 deriving DecidableEq,Inhabited
structure Bh where
 results:List WO
 kY:xU
 body:Ag
 deriving Inhabited
structure Env where
 code:Nat->Option Bh
 ll:Nat->String->Option Nat
 k:Nat
 QN:Nat->Option (List AV->Option AV)
inductive TS where
 |nil
 |node (v:AV) (l r:TS)
 deriving Inhabited
namespace TS
def get:TS->Nat->AV
 |nil,_=>.undef
 |node v l r,i=>bif Nat.beq i 0 then v else bif Nat.beq (i % 2) 1 then l.get (i / 2) else r.get (i / 2-1)
def single (v:AV):Nat->Nat->TS
 |0,_=>.nil
 |n+1,i=>bif Nat.beq i 0 then .node v .nil .nil else bif Nat.beq (i % 2) 1 then .node .undef (single v n (i / 2)) .nil else .node .undef .nil (single v n (i / 2-1))
def set:TS->Nat->AV->TS
 |nil,i,x=>single x 16 i
 |node v l r,i,x=>bif Nat.beq i 0 then .node x l r else bif Nat.beq (i % 2) 1 then .node v (l.set (i / 2) x) r else .node v l (r.set (i / 2-1) x)
def CY:List AV->Nat->TS->TS
 |[],_,t=>t
 |v::l,i,t=>CY l (i+1) (t.set i v)
end TS
def ev (ts:TS)(o:II):AV:=match o with
 |.tmp t=>ts.get t
 |.val v=>v
def Ul (ts:TS):List II->List AV
 |[]=>[]
 |o::l=>ev ts o::Ul ts l
def put (ts:TS)(d:Option Nat)(v:AV):TS:=
 match d with
 |some d=>ts.set d v
 |none=>ts
def isBool (b:Bool)(v:AV):Bool:=match v with
 |.bool c=>c==b
 |_=>false
def wanted (g:Option (Nat × Bool))(ts:TS):Bool:=
 match g with
 |none=>true
 |some (t,b)=>isBool b (ts.get t)
def candidates (bs:List Nat)(since:Nat)(seen:List Nat):List (Option Nat):=
 let left:=bs.filter fun b=>!seen.contains b
 let Bw:=left.filter (·<since)
 let new:=left.filter (since<=·)
 (if Bw.isEmpty then [none] else [])++(Bw++new).map some
def rows (sz:Nat):Nat->List AV->List AV
 |0,_=>[]
 |n+1,cs=>(bif Nat.beq sz 1 then cs.headD .undef else .agg (cs.take sz))::rows sz n (cs.drop sz)
def CP (f:AV->Option AV):List AV->Option (List AV)
 |[]=>some []
 |v::l=>match f v with
  |some v=>match CP f l with
   |some l=>some (v::l)
   |none=>none
  |none=>none
def Bp (c:Nat)(h:Af):Nat->AV->Option AV
 |0,_=>none
 |n+1,v=>
  bif v.Bw c then some v else
  match v with
  |.AO o off=>
   match AA h o with
   |some (.cells _ _ cs _)=>bif Nat.ble off cs.length then (match CP (Bp c h n) (cs.drop off) with|some cs=>some (.BC cs)|none=>none) else none
   |_=>none
  |.AQ o off len cap=>
   match AA h o with
   |some (.cells _ sz cs _)=>
    bif Nat.blt 0 sz&&Nat.ble (off+len*sz) cs.length then
     match CP (Bp c h n) ((cs.drop off).take (len*sz)) with
     |some cs=>some (.list (match cap with|some c=>Nat.beq c len|none=>false) sz (rows sz len cs))
     |none=>none
    else none
   |_=>none
  |.Bv o=>
   match AA h o with
   |some (.map ks vs _ _)=>match CP (Bp c h n) ks with
    |some ks=>match CP (Bp c h n) vs with
     |some vs=>some (.GM ks vs)
     |none=>none
    |none=>none
   |_=>none
  |.BC cs=>match CP (Bp c h n) cs with|some cs=>some (.BC cs)|none=>none
  |.list t sz xs=>match CP (Bp c h n) xs with|some xs=>some (.list t sz xs)|none=>none
  |.GM ks vs=>match CP (Bp c h n) ks with
   |some ks=>match CP (Bp c h n) vs with
    |some vs=>some (.GM ks vs)
    |none=>none
   |none=>none
  |.fn f a b=>match CP (Bp c h n) a with
   |some a=>match CP (Bp c h n) b with
    |some b=>some (.fn f a b)
    |none=>none
   |none=>none
  |.iface t v=>match Bp c h n v with|some v=>some (.iface t v)|none=>none
  |.agg cs=>match CP (Bp c h n) cs with|some cs=>some (.agg cs)|none=>none
  |.tuple cs=>match CP (Bp c h n) cs with|some cs=>some (.tuple cs)|none=>none
  |_=>none
def Bu:Nat:=64
section
variable (E:Env)(call:Nat->List AV->St->M (AV × St))
def Sd (o i since:Nat)(seen:List Nat)(ks vs:List AV)(bs:List Nat)(clock:Nat)(st:St)(c:Option (Option Nat)):M (AV × St):=
 match c with
 |some none=>.ret (.tuple [.bool false],st)
 |some (some b)=>match JK bs b with
  |some e=>match ks[e]?,vs[e]? with
   |some k,some v=>.ret (.tuple [.bool true,k,v],{ st with h:=Ab st.h i (.iter (some o) since (seen++[b]) clock) })
   |_,_=>.fail
  |none=>.fail
 |none=>.fail
def Lt (args:List AV)(st:St):M (AV × St):=
 match args with
 |[.AO i 0]=>match AA st.h i with
  |some (.iter none _ _ _)=>.ret (.tuple [.bool false],st)
  |some (.iter (some o) since seen stepped)=>
   bif Nat.blt i st.lo then .fail else
   match AA st.h o with
   |some (.map ks vs bs clock)=>
    bif !seen.isEmpty&&!bs.isEmpty&&bs.all (Nat.ble stepped) then .fail else
    .ask ((candidates bs since seen).length-1) fun j=>Sd o i since seen ks vs bs clock st (candidates bs since seen)[j]?
   |_=>.fail
  |_=>.fail
 |_=>.fail
def LP (args:List AV)(st:St):M (AV × St):=match args with
 |.fn (.func f) a b::l=>call f (a++(l++b)) st
 |_=>.fail
def callMethod (name:String)(args:List AV)(st:St):M (AV × St):=match args with
 |.iface t v::l=>match E.ll t name with
  |some f=>call f (v::l) st
  |none=>.fail
 |_=>.fail
def Ha (s:Nat)(k:AK)(args:List AV)(st:St):M (AV × St):=
 match k with
 |.next=>Lt args st
 |.call f=>call f args st
 |.Dz=>LP call args st
 |.invoke name=>callMethod E call name args st
 |k=>M.CX (step s k args st)
def KS (s:Nat)(o:Cj)(ts:TS)(st:St):M (TS × St):=
 bif wanted o.guard ts then (Ha E call s o.k (Ul ts o.args) st).bind fun r=>.ret (put ts o.dst r.1,r.2)
 else .ret (put ts o.dst .undef,st)
def IY (s:Nat):List Cj->TS->St->M (TS × St)
 |[],ts,st=>.ret (ts,st)
 |o::l,ts,st=>(KS E call s o ts st).bind fun r=>IY s l r.1 r.2
abbrev MZ:=List (List Nat × AK × List AV × AV)
def Iw (s:Nat)(i:Nat):MZ->St->Bool
 |[],_=>true
 |(js,k,args,v)::p,st=>(!js.any (Nat.beq i)||(match step s k args st with|some r=>AV.beq v r.1|none=>false))&&Iw s i p st
def QC (o:Cj)(js:List Nat)(ts ts':TS)(p:MZ):MZ:=
 match js with
 |[]=>p
 |js=>bif wanted o.guard ts then match o.dst with
  |some d=>(js,o.k,Ul ts o.args,ts'.get d)::p
  |none=>p
  else p
def Dp (s:Nat):List (Nat × Cj × List Nat)->MZ->TS->St->M (TS × St)
 |[],_,ts,st=>.ret (ts,st)
 |(i,o,js)::l,p,ts,st=>
  (KS E call s o ts st).bind fun r=>bif Iw s i p r.2 then Dp s l (QC o js ts r.1 p) r.1 r.2 else .fail
def CJ (body:TS->St->M (Hd × TS × St)):Nat->TS->St->M (Hd × TS × St)
 |0,_,_=>.fail
 |n+1,ts,st=>(body ts st).bind fun r=>match r.1 with
  |.normal=>CJ body n r.2.1 r.2.2
  |_=>.ret r
def Ar:Ag->TS->St->M (Hd × TS × St)
 |.skip,ts,st=>.ret (.normal,ts,st)
 |.region na ops,ts,st=>(IY E call st.c ops ts { st with c:=st.c+na }).bind fun r=>.ret (.normal,r)
 |.draw na ops,ts,st=>(Dp E call st.c ops [] ts { st with c:=st.c+na }).bind fun r=>.ret (.normal,r)
 |.seq a b,ts,st=>(Ar a ts st).bind fun r=>match r.1 with
  |.normal=>Ar b r.2.1 r.2.2
  |_=>.ret r
 |.cond c a b,ts,st=>match ev ts c with
  |.bool t=>bif t then Ar a ts st else Ar b ts st
  |_=>.fail
 |.block id a,ts,st=>(Ar a ts st).bind fun r=>match r.1 with
  |.exit i=>.ret (bif Nat.beq i id then .normal else .exit i,r.2)
  |_=>.ret r
 |.loop a,ts,st=>CJ (Ar a) E.k ts st
 |.exit id,ts,st=>.ret (.exit id,ts,st)
 |.ret,ts,st=>.ret (.ret,ts,st)
 |.bad,_,_=>.fail
end
def ML (h:Af)(ts:TS)(r:WO):Option AV:=match r with
 |.tmp t=>some (ts.get t)
 |.cell t agg=>Hw h agg (ts.get t)
def AY (h:Af)(ts:TS):List WO->Option (List AV)
 |[]=>some []
 |r::l=>match ML h ts r with
  |some v=>match AY h ts l with
   |some l=>some (v::l)
   |none=>none
  |none=>none
def results (rs:List WO)(h:Af)(ts:TS):Option AV:=
 match AY h ts rs with
 |some [v]=>some v
 |some l=>some (.tuple l)
 |none=>none
def leave (rs:List WO)(r:Hd × TS × St):M (AV × St):=
 match r.1 with
 |.exit _=>.fail
 |_=>match results rs r.2.2.h r.2.1 with
  |some v=>.ret (v,r.2.2)
  |none=>.fail
def BA (c:Nat)(st:St)(r:AV × St):M (AV × St):=
 match Bp c r.2.h Bu r.1 with
 |some v=>.ret (v,st)
 |none=>.fail
def Ai.Bw (c:Nat):Ai->Bool
 |.cells _ _ cs _=>AV.CL c cs
 |.map ks vs _ _=>AV.CL c ks&&AV.CL c vs
 |.iter m _ _ _=>match m with
  |some o=>Nat.blt o c
  |none=>true
def Gu (c:Nat):Af->Af
 |[]=>[]
 |(i,x)::h=>bif Nat.ble c i then Gu c h else (i,x)::Gu c h
def holds (c:Nat):Af->Bool
 |[]=>true
 |(i,x)::h=>Nat.blt i c&&Ai.Bw c x&&holds c h
def Gz (c:Nat)(r:AV × St):M (AV × St):=
 match Bp c r.2.h Bu r.1 with
 |some v=>bif holds c (Gu c r.2.h) then .ret (v,{ r.2 with h:=Gu c r.2.h,c:=c }) else .fail
 |none=>.fail
def Dj (E:Env)(call:Nat->List AV->St->M (AV × St))(fn:Bh)(args:List AV)(st:St):M (AV × St):=
 bif Nat.ble args.length 1000 then (Ar E call fn.body (TS.CY args 0 .nil) st).bind (leave fn.results) else .fail
def M.leftmost {α:Type}:M α->Option α
 |.ret a=>some a
 |.fail=>none
 |.ask _ k=>(k 0).leftmost
def M.TY {α:Type}(f:α->Bool):M α->Bool
 |.ret a=>f a
 |.fail=>false
 |.ask n k=>(List.range (n+1)).all fun i=>(k i).TY f
def Gl (st:St)(m:M (AV × St)):M (AV × St):=
 match m.leftmost with
 |some r=>bif m.TY (fun r'=>AV.beq r.1 r'.1) then .ret (r.1,st) else .fail
 |none=>.fail
def AU (E:Env):Nat->Nat->List AV->St->M (AV × St)
 |0,_,_,_=>.fail
 |n+1,f,args,st=>
  match E.QN f with
  |some g=>match g args with
   |some v=>.ret (v,st)
   |none=>.fail
  |none=>match E.code f with
   |none=>.fail
   |some fn=>match fn.kY with
    |.BG=>Dj E (AU E n) fn args st
    |.own=>(Dj E (AU E n) fn args st).bind (Gz st.c)
    |.pure=>(Dj E (AU E n) fn args { st with lo:=st.c }).bind (BA st.c st)
    |.lN=>Gl st ((Dj E (AU E n) fn args { st with lo:=st.c }).bind (BA st.c st))
    |.DN=>bif AV.CL 0 args then (Dj E (AU E n) fn args ⟨[],0,0⟩).bind (BA 0 st) else .fail
end Go.Am
end
