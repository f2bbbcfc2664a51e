/- A part of tablesStay. -/
import Derived.Below
import Derived.Calls
namespace Go.Am
open Go
abbrev Aw:=@decide_eq_true_eq
abbrev Aq:=@Bool.and_eq_true
abbrev Ad:=@cond_eq_ite
abbrev AJ:=@if_neg
abbrev Bu:=@List.getElem?_eq_getElem
abbrev BH:=@List.getElem_mem
abbrev Bd:=@List.length_append
abbrev Bt:=@Nat.lt_of_lt_of_le
abbrev BK:=@List.mem_cons
abbrev AX:=@if_pos
abbrev Ao:=@Nat.le_refl
abbrev BQ:=@run_underlying
abbrev Cb:=@Nat.eq_of_beq_eq_true
abbrev Cu:=@List.mem_cons_of_mem
abbrev BP:=@List.mem_map
abbrev Bw:=@decide_eq_true
abbrev Cn:=@List.flatMap_cons
abbrev Ct:=@Option.some.injEq
abbrev Ca:=@List.mem_append
abbrev Aj:=@Ne.symm
abbrev DN:=@List.mem_cons_self
abbrev CJ:=@Sem.run_bind
abbrev Dv:=@Nat.ble_eq_true_of_le
abbrev Gy:=@List.take_succ_eq_append_getElem
abbrev Gn:=@List.eq_nil_of_length_eq_zero
abbrev Ba:=@cond_true
abbrev GJ:=@List.getElem?_eq_some_iff
abbrev Bj:=@cond_false
abbrev Dj:=@Result.andThen_ok
abbrev Di:=@List.mem_singleton
abbrev Du:=@List.getElem_of_mem
abbrev Fq:=@List.length_singleton
abbrev Cs:=@Sem.run_pure
abbrev BX:=@and_true
abbrev Gf:=@Option.map_eq_some_iff
abbrev GA:=@Bool.false_eq_true
abbrev FW:=@List.getElem?_set
abbrev Fp:=@Bool.not_eq_true'
abbrev Gx:=@List.take_of_length_le
abbrev Dh:=@List.map_cons
abbrev CZ:=@Nat.zero_le
abbrev FQ:=@List.take_length
abbrev Ot:=@congrArg
abbrev FV:=@List.length_cons
abbrev DV:=@Nat.le_trans
abbrev FP:=@decide_eq_false
abbrev FO:=@Bool.or_eq_true
abbrev Gm:=@beq_eq_false_iff_ne
abbrev Fj:=@List.all_eq_true
abbrev FB:=@List.drop_zero
abbrev Io:=@Array.getElem?_eq_some_iff
abbrev IX:=@List.getElem_append_left
abbrev Fh:=@List.append_nil
abbrev FN:=@Bool.and_self
abbrev Fz:=@List.length_map
abbrev Gl:=@List.getElem?_map
abbrev IW:=@Array.getElem?_toList
abbrev GY:=@List.length_nil
abbrev Hg:=@List.pairwise_cons
abbrev Fg:=@Nat.add_assoc
abbrev Dz:=@Nat.zero_add
abbrev Gv:=@List.length_take
abbrev Im:=@Nat.mul_le_mul_right
abbrev Ji:=@decide_eq_false_iff_not
abbrev FU:=@Nat.lt_or_ge
abbrev Gd:=@List.mem_range
abbrev Hz:=@List.append_assoc
abbrev Hf:=@List.map_append
abbrev NY:=@List.set_eq_take_append_cons_drop
abbrev Ff:=@decide_true
abbrev Kr:=@List.mem_or_eq_of_mem_set
abbrev GX:=@List.map_set
abbrev IV:=@List.length_drop
abbrev Hy:=@beq_false_of_ne
abbrev Fe:=@Nat.mul_one
abbrev Dn:=@if_false
abbrev MP:=@List.drop_eq_getElem_cons
abbrev MO:=@Array.getElem?_eq_getElem
abbrev IU:=@List.length_set
abbrev KI:=@List.mem_append_left
abbrev Jh:=@List.set_cons_zero
abbrev Jg:=@List.set_cons_succ
abbrev Kq:=@List.take_append_drop
abbrev KH:=@List.flatMap_append
abbrev NW:=@List.getElem?_replicate
abbrev NV:=@List.getElem?_append_right
abbrev JK:=@Option.some.inj
abbrev JJ:=@List.nil_append
abbrev Hw:=@Nat.testBit_or
abbrev MN:=@Nat.pow_lt_pow_right
abbrev KG:=@Option.getD_some
abbrev KF:=@Nat.le_add_right
abbrev NU:=@List.getElem_cons_zero
abbrev Oq:=@List.getElem_append_right
abbrev Oo:=@List.getElem?_append_left
abbrev MM:=@List.map_eq_flatMap
abbrev ML:=@List.getElem_set_ne
abbrev Jf:=@run_getObj_map
abbrev Je:=@List.take_left
abbrev Il:=@Nat.succ_mul
abbrev Ju:=@List.not_mem_nil
abbrev FC:=@if_true
abbrev IK:=@Nat.add_zero
abbrev Kb:=@List.ext_getElem?
abbrev Hq:=@Nat.add_mul
abbrev Jt:=@Option.map_some
abbrev Js:=@List.nodup_cons
abbrev ND:=@Nat.le_of_ble_eq_true
abbrev Ka:=@List.mem_flatMap
abbrev JL:=@Prod.mk.injEq
abbrev NC:=@List.mem_of_mem_drop
abbrev Lm:=@Function.comp_def
abbrev OU:=@List.getElem?_cons_zero
abbrev OT:=@List.getElem?_cons_succ
abbrev Ho:=@bne_iff_ne
abbrev KZ:=@Bool.eq_iff_iff
abbrev OQ:=@List.drop_eq_nil_of_le
abbrev Ll:=@List.flatMap_map
abbrev Lj:=@List.cons_append
abbrev IJ:=@beq_iff_eq
abbrev ME:=@run_loadCells_list
abbrev OP:=@List.mem_append_right
abbrev OO:=@Array.getElem?_modify
abbrev Qb:=@Classical.byContradiction
abbrev Li:=@Nat.min_eq_left
abbrev Lh:=@List.range_succ
abbrev Lg:=@List.cons.injEq
abbrev Jr:=@getElem!_pos
abbrev Mx:=@List.nodup_append
abbrev OM:=@List.pairwise_append
abbrev Jq:=@Calls.mono
abbrev TH:=@Array.getElem?_setIfInBounds_ne
abbrev Qa:=@World.block_lt_of_cell?
abbrev TG:=@List.take_append_of_le_length
abbrev Mw:=@List.mem_filter
abbrev Lf:=@Bool.not_true
abbrev QZ:=@List.set_append_right
abbrev QY:=@List.getElem_set_self
abbrev QX:=@List.getElem?_toArray
abbrev OL:=@Int.toNat_natCast
abbrev TF:=@Array.getD_eq_getD_getElem?
abbrev Ld:=@Array.ext'
abbrev Lb:=@decide_false
abbrev La:=@Nat.zero_mul
abbrev QW:=@Bool.true_and
abbrev QV:=@List.mem_replicate
abbrev QU:=@List.getElem?_drop
abbrev Mv:=@List.map_map
abbrev QT:=@of_decide_eq_true
abbrev TD:=@List.countP_cons
abbrev QS:=@List.any_eq_true
abbrev Jp:=@or_false
abbrev TC:=@World.cell?_of_block
abbrev TB:=@Nat.pow_le_pow_right
abbrev TA:=@List.mem_of_mem_take
abbrev QR:=@Option.map_none
abbrev QP:=@Nat.zero_lt_one
abbrev OJ:=@Nat.sub_zero
abbrev OI:=@Nat.beq_refl
abbrev OH:=@Bool.or_self
abbrev QO:=@Nat.mul_le_mul
abbrev SE:=@Nat.lt_of_le_of_lt
abbrev Sz:=@Int.tmod_lt_of_pos
abbrev WZ:=@Nat.le_of_mul_le_mul_right
inductive AV where
 |bool (b:Bool)
 |int (k:IntKind) (n:Int)
 |str (s:List UInt8)
 |DY
 |AL (o off:Nat)
 |CB (cs:List AV)
 |AO
 |list (tight:Bool) (sz:Nat) (xs:List AV)
 |AU (o off len:Nat) (cap:Option Nat)
 |IZ
 |Cq (o:Nat)
 |CR (ks vs:List AV)
 |fn (f:Fn) (first captured:List AV)
 |Nc
 |iface (t:Nat) (v:AV)
 |Ij
 |agg (cs:List AV)
 |tuple (vs:List AV)
 deriving Inhabited
def AV.undef:AV:=.tuple []
def AV.cells:AV->List AV
 |.agg cs=>cs
 |v=>[v]
def AV.isTuple:AV->Bool
 |.tuple _=>true
 |_=>false
inductive BJ where
 |cells (ty sz:Nat) (cs:List AV) (ext:Bool)
 |map (ks vs:List AV) (borns:List Nat) (clock:Nat)
 |iter (m:Option Nat) (since:Nat) (seen:List Nat) (stepped:Nat)
 deriving Inhabited
inductive M (α:Type) where
 |ret (a:α)
 |fail
 |ask (n:Nat) (k:Nat->M α)
namespace M
variable {α β:Type}
def bind:M α->(α->M β)->M β
 |.ret a,f=>f a
 |.fail,_=>.fail
 |.ask n k,f=>.ask n fun i=>(k i).bind f
def all(Q:α->Prop):M α->Prop
 |.ret a=>Q a
 |.fail=>False
 |.ask n k=>∀i,i<=n->(k i).all Q
def FM:Option α->M α
 |some a=>.ret a
 |none=>.fail
end M
abbrev Aa:=List (Nat×BJ)
def AA:Aa->Nat->Option BJ
 |[],_=>none
 |(i,x)::h,o=>bif Nat.beq i o then some x else AA h o
def Ah:Aa->Nat->BJ->Aa
 |[],_,_=>[]
 |(i,x)::h,o,y=>bif Nat.beq i o then (i,y)::h else (i,x)::Ah h o y
def Jv:Aa->Nat->Aa
 |[],_=>[]
 |(i,x)::h,o=>bif Nat.beq i o then Jv h o else (i,x)::Jv h o
def Qw:Aa->Nat->BJ->Option Aa
 |[],o,y=>some [(o,y)]
 |(i,x)::h,o,y=>bif Nat.blt i o then some ((o,y)::(i,x)::h) else bif Nat.beq i o then none else match Qw h o y with
  |some h=>some ((i,x)::h)
  |none=>none
structure St where
 h:Aa
 c:Nat
 lo:Nat
 deriving Inhabited
inductive Ext where
 |same|indexByte|compare
 deriving Inhabited
inductive CK where
 |bool|int|str
 deriving DecidableEq,Inhabited
inductive KK where
 |one (c:CK)
 |many (cs:List CK)
 deriving DecidableEq,Inhabited
inductive EK where
 |key (k:KK)|ptr|slice|map|func|iface
 deriving DecidableEq,Inhabited
inductive LK where
 |str|slice|map
 deriving DecidableEq,Inhabited
inductive AK where
 |fail
 |move
 |pick
 |alloc (id ty sz:Nat) (zero:List AV)
 |box (id ty sz:Nat)
 |build (zero:List AV) (places:List (Nat×Nat))
 |buildSlice (id ty sz len:Nat) (zero:List AV) (offs:List Nat)
 |load (agg:Option Nat)
 |store (n:Nat)
 |nilCheck
 |bin (op:BinOp)
 |eq (neg:Bool) (k:EK)
 |XN (neg:Bool) (ts:List (Nat×CK))
 |un (op:UnOp)
 |De (k:IntKind)
 |PR
 |NJ (id ty:Nat)
 |PS
 |GN (t:Nat)
 |Nk (f:Fn) (nfirst:Nat)
 |mkMap (id:Nat)
 |mkSlice (id ty sz bytes:Nat) (zero:List AV)
 |IP (lo hi:Bool)
 |slice (sz:Nat) (lo hi mx:Bool)
 |Pq (len sz:Nat) (lo hi:Bool)
 |fieldAddr (off:Nat)
 |field (off:Nat) (agg:Option Nat)
 |indexAddr (sz:Nat)
 |KC (len sz:Nat)
 |Fw
 |lookup (kk:KK) (zero:AV) (ok:Bool)
 |mapUpdate (kk:KK)
 |mapEntry (kk:KK) (zero:AV)
 |entryStore
 |rangeMap (id:Nat)
 |next
 |entry
 |extract (i:Nat)
 |len (k:LK)
 |cap
 |min
 |max
 |append (id ty sz bytes:Nat)
 |OG (id ty:Nat)
 |copy (sz:Nat)
 |clear (zero:List AV)
 |UO (ty n:Nat)
 |Rk
 |Pn (ty:Nat)
 |call (f:Nat)
 |Ko
 |invoke (name:String)
 |ext (e:Ext)
 deriving Inhabited
 mutual
def AV.beq:AV->AV->Bool
 |.bool a,.bool b=>a==b
 |.int k a,.int j b=>k==j&&a==b
 |.str a,.str b=>a==b
 |.DY,.DY=>true
 |.AL o a,.AL p b=>o==p&&a==b
 |.CB a,.CB b=>AV.VJ a b
 |.AO,.AO=>true
 |.list t n a,.list u m b=>t==u&&n==m&&AV.VJ a b
 |.AU o a l c,.AU p b m d=>o==p&&a==b&&l==m&&c==d
 |.IZ,.IZ=>true
 |.Cq o,.Cq p=>o==p
 |.CR a b,.CR c d=>AV.VJ a c&&AV.VJ b d
 |.fn f a b,.fn g c d=>decide (f=g)&&AV.VJ a c&&AV.VJ b d
 |.Nc,.Nc=>true
 |.iface t v,.iface u w=>t==u&&AV.beq v w
 |.Ij,.Ij=>true
 |.agg a,.agg b=>AV.VJ a b
 |.tuple a,.tuple b=>AV.VJ a b
 |_,_=>false
def AV.VJ:List AV->List AV->Bool
 |[],[]=>true
 |a::x,b::y=>AV.beq a b&&AV.VJ x y
 |_,_=>false
end
def VK:IntKind->IntKind->Bool
 |.i8,.i8|.i16,.i16|.i32,.i32|.i64,.i64|.u8,.u8|.u16,.u16|.u32,.u32|.u64,.u64=>true
 |_,_=>false
def je(c:CK)(x y:AV):Option Bool:=match c with
 |.bool=>match x,y with
  |.bool a,.bool b=>some (a==b)
  |_,_=>none
 |.int=>match x,y with
  |.int k a,.int j b=>bif VK k j then some (a==b) else none
  |_,_=>none
 |.str=>match x,y with
  |.str a,.str b=>some (a==b)
  |_,_=>none
def SS:List CK->List AV->List AV->Option Bool
 |[],[],[]=>some true
 |c::cs,a::x,b::y=>match je c a b with
  |some true=>SS cs x y
  |some false=>match SS cs x y with
   |some _=>some false
   |none=>none
  |none=>none
 |_,_,_=>none
def tu(k:KK)(x y:AV):Option Bool:=match k with
 |.one c=>je c x y
 |.many cs=>match x with
  |.agg a=>match y with
   |.agg b=>SS cs a b
   |_=>none
  |_=>none
def kK(k:EK)(x y:AV):Option Bool:=
 match k with
 |.key k=>tu k x y
 |.ptr=>match x,y with
  |.DY,.DY=>some true
  |.DY,.AL ..|.DY,.CB _|.AL ..,.DY|.CB _,.DY=>some false
  |.AL o a,.AL p b=>bif Nat.beq o p then some (Nat.beq a b) else none
  |_,_=>none
 |.slice=>match x,y with
  |.AO,.AO=>some true
  |.AO,.list ..|.AO,.AU ..|.list ..,.AO|.AU ..,.AO=>some false
  |_,_=>none
 |.map=>match x,y with
  |.IZ,.IZ=>some true
  |.IZ,.Cq _|.IZ,.CR ..|.Cq _,.IZ|.CR ..,.IZ=>some false
  |_,_=>none
 |.func=>match x,y with
  |.Nc,.Nc=>some true
  |.Nc,.fn ..|.fn ..,.Nc=>some false
  |_,_=>none
 |.iface=>match x,y with
  |.Ij,.Ij=>some true
  |.Ij,.iface ..|.iface ..,.Ij=>some false
  |_,_=>none
def Nj(k:KK)(x:AV):Bool:=match k with
 |.one _=>true
 |.many cs=>match x with
  |.agg a=>Nat.beq a.length cs.length
  |_=>false
def Ii(kk:KK):List AV->AV->Option (Option Nat)
 |[],_=>some none
 |k::ks,x=>match tu kk x k with
  |some true=>some (some 0)
  |some false=>match Ii kk ks x with
   |some (some i)=>some (some (i+1))
   |some none=>some none
   |none=>none
  |none=>none
def intBits(op:BinOp)(k:IntKind)(x y:Int):Option AV:=
 let a:=BitVec.ofInt k.bits x
 let b:=BitVec.ofInt k.bits y
 match op with
 |.and=>some (.int k (k.wrap (a &&& b).toNat))
 |.or=>some (.int k (k.wrap (a ||| b).toNat))
 |.xor=>some (.int k (k.wrap (a ^^^ b).toNat))
 |.andNot=>some (.int k (k.wrap (a &&& ~~~b).toNat))
 |_=>none
def oq(op:BinOp)(k:IntKind)(a b:Int):Option AV:=
 match op with
 |.add=>some (.int k (k.wrap (a+b)))
 |.sub=>some (.int k (k.wrap (a-b)))
 |.mul=>some (.int k (k.wrap (a*b)))
 |.quo=>if b=0 then none else some (.int k (k.wrap (a.tdiv b)))
 |.rem=>if b=0 then none else some (.int k (a.tmod b))
 |.eql=>some (.bool (a==b))
 |.neq=>some (.bool (a !=b))
 |.lss=>some (.bool (decide (a<b)))
 |.leq=>some (.bool (decide (a<=b)))
 |.gtr=>some (.bool (decide (b<a)))
 |.geq=>some (.bool (decide (b<=a)))
 |op=>intBits op k a b
def jv(op:BinOp)(k:IntKind)(a b:Int):Option AV:=
 if b<0 then none else
 match op with
 |.shl=>some (.int k (k.wrap (a*2^min b.toNat k.bits)))
 |.shr=>some (.int k (a.fdiv (2^min b.toNat k.bits)))
 |_=>none
def Uq:BinOp->Bool
 |.shl|.shr=>true
 |_=>false
def oh(op:BinOp)(a b:List UInt8):Option AV:=
 match op with
 |.add=>if a.length+b.length<=2^62 then some (.str (a++b)) else none
 |.eql=>some (.bool (a==b))
 |.neq=>some (.bool !(a==b))
 |.lss=>some (.bool (Op.bytesLess a b))
 |.leq=>some (.bool (Op.bytesLess a b||a==b))
 |.gtr=>some (.bool !(Op.bytesLess a b||a==b))
 |.geq=>some (.bool !(Op.bytesLess a b))
 |_=>none
def bin(op:BinOp)(x y:AV):Option AV:=
 match x with
 |.int k a=>match y with
  |.int j b=>bif Uq op then jv op k a b else bif VK k j then oq op k a b else none
  |_=>none
 |.str a=>match y with
  |.str b=>oh op a b
  |_=>none
 |_=>none
def Uz(neg:Bool)(k:EK)(x y:AV):Option AV:=match kK k x y with
 |some e=>some (.bool (e !=neg))
 |none=>none
def un(op:UnOp)(x:AV):Option AV:=
 match op,x with
 |.neg,.int k n=>some (.int k (k.wrap (0-n)))
 |.xor,.int k n=>intBits .xor k (if k.signed then -1 else k.max) n
 |.not,.bool b=>some (.bool !b)
 |_,_=>none
def Ak(h:Aa)(p:AV)(n:Nat):Option (List AV):=
 match p with
 |.AL o off=>match AA h o with
  |some (.cells _ _ cs _)=>bif Nat.ble (off+n) cs.length then some ((cs.drop off).take n) else none
  |_=>none
 |.CB cs=>bif Nat.ble n cs.length then some (cs.take n) else none
 |_=>none
def AQ(h:Aa)(p:AV):Option AV:=
 match p with
 |.AL o off=>match AA h o with
  |some (.cells _ _ cs _)=>cs[off]?
  |_=>none
 |.CB (v::_)=>some v
 |_=>none
def LB(h:Aa)(agg:Option Nat)(p:AV):Option AV:=
 match agg with
 |some n=>(Ak h p n).map .agg
 |none=>AQ h p
def Bl(cs:List AV)(off:Nat)(vs:List AV):List AV:=cs.take off++(vs++cs.drop (off+vs.length))
def CO(st:St)(o off:Nat)(vs:List AV):Option St:=
 bif Nat.blt o st.lo then none else
 match AA st.h o with
 |some (.cells ty sz cs ext)=>bif Nat.ble (off+vs.length) cs.length then some { st with h:=Ah st.h o (.cells ty sz (Bl cs off vs) ext) } else none
 |_=>none
def BA(o:Nat)(ob:BJ)(st:St):Option St:=
 match Qw st.h o ob with
 |some h=>some { st with h }
 |none=>none
def BS(h:Aa)(sz n:Nat)(v:AV):Option (List AV):=
 match v with
 |.AO=>bif Nat.beq n 0 then some [] else none
 |.list _ sz' xs=>bif Nat.ble n xs.length&&Nat.beq sz' sz then some ((xs.take n).flatMap AV.cells) else none
 |.AU o off len _=>match AA h o with
  |some (.cells _ sz' cs _)=>bif Nat.beq sz' sz&&Nat.ble n len&&Nat.ble (off+n*sz) cs.length then some ((cs.drop off).take (n*sz)) else none
  |_=>none
 |_=>none
def asNat:AV->Option Nat
 |.int _ (.ofNat n)=>some n
 |_=>none
def lenOf:AV->Option Nat
 |.AO=>some 0
 |.list _ _ xs=>some xs.length
 |.AU _ _ len _=>some len
 |.str s=>some s.length
 |_=>none
def room:Nat:=2^40
def grow(o ty sz bytes len n:Nat)(cs:List AV)(st:St):Option (AV×St):=
 bif Nat.ble ((len+n)*bytes) room&&Nat.ble (len+n) room then
  match BA o (.cells ty sz cs true) st with
  |some st=>some (.AU o 0 (len+n) none,st)
  |none=>none
 else none
def GG(o' ty sz bytes n:Nat)(new:List AV)(st:St)(o off len:Nat)(cap:Option Nat):Option (AV×St):=
 match AA st.h o with
 |some (.cells ty' sz' cs ext)=>
  bif Nat.beq ty' ty&&Nat.beq sz' sz&&Nat.ble (off+len*sz) cs.length then
   match cap with
   |some c=>
    bif Nat.ble (len+n) c then
     match CO st o (off+len*sz) new with
     |some st=>some (.AU o off (len+n) cap,st)
     |none=>none
    else grow o' ty sz bytes len n ((cs.drop off).take (len*sz)++new) st
   |none=>
    bif Nat.ble (off+(len+n)*sz) cs.length then
     match CO st o (off+len*sz) new with
     |some st=>some (.AU o off (len+n) cap,st)
     |none=>none
    else bif ext&&Nat.ble st.lo o then grow o' ty sz bytes len n ((cs.drop off).take (len*sz)++new) { st with h:=Jv st.h o } else none
  else none
 |_=>none
def CX(o' ty sz bytes:Nat)(x:AV)(n:Nat)(new:List AV)(st:St):Option (AV×St):=
 bif Nat.beq sz 0 then none else
 match x with
 |.AO=>bif Nat.beq n 0 then some (.AO,st) else grow o' ty sz bytes 0 n new st
 |.list tight sz' xs=>
  bif Nat.beq n 0 then some (x,st)
  else bif tight&&Nat.beq sz' sz then grow o' ty sz bytes xs.length n (xs.flatMap AV.cells++new) st else none
 |.AU o off len cap=>bif Nat.beq n 0 then some (x,st) else GG o' ty sz bytes n new st o off len cap
 |_=>none
def Sg(tight:Bool)(sz:Nat)(xs:List AV)(lo hi mx:Option Nat):Option AV:=
 let h:=hi.getD xs.length
 let l:=lo.getD 0
 match mx with
 |none=>bif Nat.ble l h&&Nat.ble h xs.length then some (.list (tight&&Nat.beq h xs.length) sz ((xs.take h).drop l)) else none
 |some m=>bif Nat.ble l h&&Nat.ble h m&&Nat.ble m xs.length then some (.list (Nat.beq m h) sz ((xs.take h).drop l)) else none
def He(n sz o off len:Nat)(cap lo hi mx:Option Nat):Option AV:=
 let e:=hi.getD len
 let l:=lo.getD 0
 bif Nat.ble l e then
  match mx,cap with
  |none,some c=>bif Nat.ble e c then some (.AU o (off+l*sz) (e-l) (some (c-l))) else none
  |none,none=>bif Nat.ble (off+e*sz) n then some (.AU o (off+l*sz) (e-l) none) else none
  |some m,some c=>bif Nat.ble e m&&Nat.ble m c then some (.AU o (off+l*sz) (e-l) (some (m-l))) else none
  |some m,none=>bif Nat.ble e m&&Nat.ble (off+m*sz) n then some (.AU o (off+l*sz) (e-l) (some (m-l))) else none
 else none
def GK(sz:Nat)(x:AV)(lo hi mx:Option Nat)(h:Aa):Option AV:=
 match x with
 |.AO=>bif Nat.beq (lo.getD 0) 0&&Nat.beq (hi.getD 0) 0&&Nat.beq (mx.getD 0) 0 then some .AO else none
 |.list tight sz' xs=>bif Nat.beq sz' sz then Sg tight sz xs lo hi mx else none
 |.AU o off len cap=>match AA h o with
  |some (.cells _ sz' cs _)=>bif Nat.beq sz' sz&&Nat.blt 0 sz then He cs.length sz o off len cap lo hi mx else none
  |_=>none
 |_=>none
def Gi(is:Bool)(l:List AV):Option (Option Nat×List AV):=
 match is with
 |false=>some (none,l)
 |true=>match l with
  |a::l=>match asNat a with
   |some n=>some (some n,l)
   |none=>none
  |[]=>none
def Bp:List AV->List (Nat×Nat)->List AV->Option (List AV)
 |cs,[],[]=>some cs
 |cs,(off,size)::ps,v::vs=>
  bif v.isTuple then none
  else bif Nat.beq v.cells.length size&&Nat.ble (off+size) cs.length then Bp (Bl cs off v.cells) ps vs else none
 |_,_,_=>none
def Tt(k:IntKind)(x:Int):List AV->Option AV
 |[]=>some (.int k x)
 |.int _ y::l=>Tt k (if y<x then y else x) l
 |_=>none
def Tu(k:IntKind)(x:Int):List AV->Option AV
 |[]=>some (.int k x)
 |.int _ y::l=>Tu k (if y>x then y else x) l
 |_=>none
def FZ(zero:List AV):Nat->List AV
 |0=>[]
 |n+1=>zero++FZ zero n
def byteOf:AV->Option UInt8
 |.int .u8 n=>some (UInt8.ofNat n.toNat)
 |_=>none
def bytesOf:List AV->Option (List UInt8)
 |[]=>some []
 |c::l=>match byteOf c with
  |some b=>match bytesOf l with
   |some l=>some (b::l)
   |none=>none
  |none=>none
def IY(l:List UInt8):List AV:=l.map fun b=>.int .u8 b.toNat
 mutual
def AV.CY(c:Nat):AV->Bool
 |.AL o _|.AU o _ _ _|.Cq o=>Nat.blt o c
 |.CB cs|.agg cs|.tuple cs|.list _ _ cs=>AV.Dq c cs
 |.CR a b|.fn _ a b=>AV.Dq c a&&AV.Dq c b
 |.iface _ v=>AV.CY c v
 |_=>true
def AV.Dq(c:Nat):List AV->Bool
 |[]=>true
 |v::l=>AV.CY c v&&AV.Dq c l
end
abbrev R:=Option (AV×St)
def Jd(l:List AV)(f:AV->R):R:=match l with
 |[x]=>f x
 |_=>none
def Ke(l:List AV)(f:AV->AV->R):R:=match l with
 |[x,y]=>f x y
 |_=>none
def ZV(l:List AV)(f:AV->AV->AV->R):R:=match l with
 |[x,y,z]=>f x y z
 |_=>none
def Ia(st:St)(v:Option AV):R:=match v with
 |some v=>some (v,st)
 |none=>none
def Fs(v:AV)(st:Option St):R:=match st with
 |some st=>some (v,st)
 |none=>none
def Rq(c a b:AV)(st:St):R:=match c with
 |.bool t=>some (bif t then a else b,st)
 |_=>none
abbrev B:=Option (AV×BJ)
def TP(o:Nat)(r:B)(st:St):R:=match r with
 |some (v,ob)=>Fs v (BA o ob st)
 |none=>none
def Ls(o ty sz:Nat)(x:AV):B:=bif x.isTuple then none else some (.AL o 0,.cells ty sz x.cells false)
def BC(o ty sz len:Nat)(zero:List AV)(offs:List Nat)(parts:List AV):B:=
 bif Nat.blt 0 sz then
  match Bp zero (offs.map fun i=>(i*sz,sz)) parts with
  |some cs=>bif Nat.beq cs.length (len*sz) then some (.AU o 0 len (some len),.cells ty sz cs false) else none
  |none=>none
 else none
def BM(n:Nat)(p v:AV)(st:St):R:=match p with
 |.AL o off=>bif v.isTuple||!Nat.beq v.cells.length n then none else Fs .undef (CO st o off v.cells)
 |_=>none
def DT(x:AV)(st:St):R:=match x with
 |.AL ..|.CB _=>some (x,st)
 |.fn (.func _) _ _=>some (x,st)
 |_=>none
def yc:List (Nat×CK)->Nat->Option CK
 |[],_=>none
 |(u,c)::l,t=>bif Nat.beq u t then some c else yc l t
def YU(neg:Bool)(ts:List (Nat×CK))(x y:AV)(st:St):R:=match x with
 |.Ij=>match y with
  |.iface ..=>some (.bool neg,st)
  |_=>none
 |.iface t a=>match y with
  |.Ij=>some (.bool neg,st)
  |.iface u b=>bif Nat.beq t u then (match yc ts t with
   |some c=>match je c a b with
    |some e=>some (.bool (e !=neg),st)
    |none=>none
   |none=>none) else some (.bool neg,st)
  |_=>none
 |_=>none
def Mi(k:IntKind)(x:AV)(st:St):R:=match x with
 |.int _ n=>some (.int k (k.wrap n),st)
 |_=>none
def LQ(x:AV)(st:St):R:=match x with
 |.str _=>some (x,st)
 |.int _ (.ofNat n)=>if n<128 then some (.str [UInt8.ofNat n],st) else none
 |_=>none
def Nv(x:AV)(st:St):R:=match x with
 |.str _=>none
 |x=>match lenOf x with
  |some n=>match BS st.h 1 n x with
   |some cs=>Ia st ((bytesOf cs).map .str)
   |none=>none
  |none=>none
def VL(o ty:Nat)(x:AV):B:=match x with
 |.str l=>bif Nat.ble l.length room then some (.AU o 0 l.length none,.cells ty 1 (IY l) true) else none
 |_=>none
def Dy(o ty sz bytes:Nat)(zero:List AV)(l c:AV):B:=match asNat l with
 |some l=>match asNat c with
  |some c=>bif Nat.ble l c&&Nat.ble (c*bytes) room&&Nat.ble c room&&Nat.blt 0 sz&&Nat.beq zero.length sz then
   some (.AU o 0 l (some c),.cells ty sz (FZ zero c) false) else none
  |none=>none
 |none=>none
def Kz(lo hi:Bool)(l:List AV)(st:St):R:=match l with
 |.str x::l=>match Gi lo l with
  |some (a,l)=>match Gi hi l with
   |some (b,[])=>
    let e:=b.getD x.length
    let f:=a.getD 0
    bif Nat.ble f e&&Nat.ble e x.length then some (.str ((x.take e).drop f),st) else none
   |_=>none
  |none=>none
 |_=>none
def DW(sz:Nat)(lo hi mx:Bool)(l:List AV)(st:St):R:=match l with
 |x::l=>match Gi lo l with
  |some (a,l)=>match Gi hi l with
   |some (b,l)=>match Gi mx l with
    |some (m,[])=>Ia st (GK sz x a b m st.h)
    |_=>none
   |none=>none
  |none=>none
 |_=>none
def Mg(len sz:Nat)(lo hi:Bool)(l:List AV)(st:St):R:=match l with
 |.AL o off::l=>match Gi lo l with
  |some (a,l)=>match Gi hi l with
   |some (b,[])=>match AA st.h o with
    |some (.cells _ sz' cs false)=>
     let e:=b.getD len
     let f:=a.getD 0
     bif Nat.beq sz' sz&&Nat.blt 0 sz&&Nat.ble f e&&Nat.ble e len&&Nat.ble (off+len*sz) cs.length then some (.AU o (off+f*sz) (e-f) (some (len-f)),st) else none
    |_=>none
   |_=>none
  |none=>none
 |_=>none
def Cx(off:Nat)(p:AV)(st:St):R:=match p with
 |.AL o a=>some (.AL o (a+off),st)
 |.CB cs=>some (.CB (cs.drop off),st)
 |_=>none
def Sk(off:Nat)(agg:Option Nat)(x:AV)(st:St):R:=match x with
 |.agg cs=>match agg with
  |some n=>bif Nat.ble (off+n) cs.length then some (.agg ((cs.drop off).take n),st) else none
  |none=>Ia st cs[off]?
 |_=>none
def AY(sz:Nat)(x i:AV)(st:St):R:=match asNat i with
 |some i=>match x with
  |.list _ sz' xs=>bif Nat.beq sz' sz then match xs[i]? with
   |some v=>some (.CB v.cells,st)
   |none=>none
   else none
  |.AU o off len _=>match AA st.h o with
   |some (.cells _ sz' _ _)=>bif Nat.blt i len&&Nat.beq sz' sz then some (.AL o (off+i*sz),st) else none
   |_=>none
  |_=>none
 |none=>none
def Mh(len sz:Nat)(p i:AV)(st:St):R:=match asNat i with
 |some i=>bif Nat.blt i len then match p with
  |.AL o off=>some (.AL o (off+i*sz),st)
  |.CB cs=>some (.CB (cs.drop (i*sz)),st)
  |_=>none
  else none
 |none=>none
def IQ(x i:AV)(st:St):R:=match asNat i with
 |some i=>match x with
  |.str l=>match l[i]? with
   |some b=>some (.int .u8 b.toNat,st)
   |none=>none
  |_=>none
 |none=>none
def MJ(zero:AV)(ok:Bool)(r:Option AV)(st:St):R:=
 some (bif ok then .tuple [r.getD zero,.bool r.isSome] else r.getD zero,st)
def LA(kk:KK)(zero:AV)(ok:Bool)(ks vs:List AV)(k:AV)(st:St):R:=bif Nj kk k then match Ii kk ks k with
 |some none=>MJ zero ok none st
 |some (some i)=>match vs[i]? with
  |some v=>MJ zero ok (some v) st
  |none=>none
 |none=>none
 else none
def FT(kk:KK)(zero:AV)(ok:Bool)(m k:AV)(st:St):R:=match m with
 |.IZ=>LA kk zero ok [] [] k st
 |.Cq o=>match AA st.h o with
  |some (.map ks vs _ _)=>LA kk zero ok ks vs k st
  |_=>none
 |.CR ks vs=>LA kk zero ok ks vs k st
 |_=>none
def FL(kk:KK)(m k v:AV)(st:St):R:=match m with
 |.Cq o=>bif Nat.blt o st.lo||!Nj kk k then none else match AA st.h o with
  |some (.map ks vs bs clock)=>match Ii kk ks k with
   |some (some i)=>some (.undef,{ st with h:=Ah st.h o (.map ks (vs.set i v) bs clock) })
   |some none=>some (.undef,{ st with h:=Ah st.h o (.map (ks++[k]) (vs++[v]) (bs++[clock]) (clock+1)) })
   |none=>none
  |_=>none
 |_=>none
def Ir(kk:KK)(zero m k:AV)(st:St):R:=match m with
 |.Cq o=>bif Nat.blt o st.lo||!Nj kk k then none else match AA st.h o with
  |some (.map ks vs bs clock)=>match Ii kk ks k with
   |some (some i)=>match vs[i]?,bs[i]? with
    |some v,some b=>some (.tuple [v,.int .i64 b],st)
    |_,_=>none
   |some none=>some (.tuple [zero,.int .i64 clock],{ st with h:=Ah st.h o (.map (ks++[k]) (vs++[zero]) (bs++[clock]) (clock+1)) })
   |none=>none
  |_=>none
 |_=>none
def Mt:List Nat->Nat->Option Nat
 |[],_=>none
 |x::bs,b=>bif Nat.beq x b then some 0 else match Mt bs b with
  |some i=>some (i+1)
  |none=>none
def Ha(m b v:AV)(st:St):R:=match asNat b with
 |some b=>match m with
  |.Cq o=>bif Nat.blt o st.lo then none else match AA st.h o with
   |some (.map ks vs bs clock)=>match Mt bs b with
    |some i=>some (.undef,{ st with h:=Ah st.h o (.map ks (vs.set i v) bs clock) })
    |none=>none
   |_=>none
  |_=>none
 |none=>none
def KE(o:Nat)(m:AV)(st:St):R:=match m with
 |.IZ=>Fs (.AL o 0) (BA o (.iter none 0 [] 0) st)
 |.Cq x=>match AA st.h x with
  |some (.map _ _ _ clock)=>Fs (.AL o 0) (BA o (.iter (some x) clock [] clock) st)
  |_=>none
 |_=>none
def NH(it:AV)(st:St):R:=match it with
 |.AL i 0=>match AA st.h i with
  |some (.iter (some o) _ seen stepped)=>match AA st.h o with
   |some (.map ks vs bs clock)=>bif Nat.beq clock stepped then match seen.getLast? with
    |some b=>match Mt bs b with
     |some j=>match ks[j]?,vs[j]? with
      |some k,some v=>some (.tuple [k,v],st)
      |_,_=>none
     |none=>none
    |none=>none
    else none
   |_=>none
  |_=>none
 |_=>none
def LP(i:Nat)(x:AV)(st:St):R:=match x with
 |.tuple vs=>Ia st vs[i]?
 |_=>none
def Vt(x:AV):Option Nat:=match x with
 |.str l=>some l.length
 |_=>none
def CV(x:AV):Option Nat:=match x with
 |.AO=>some 0
 |.list _ _ xs=>some xs.length
 |.AU _ _ len _=>some len
 |_=>none
def Vu(h:Aa)(x:AV):Option Nat:=match x with
 |.IZ=>some 0
 |.Cq o=>match AA h o with
  |some (.map ks _ _ _)=>some ks.length
  |_=>none
 |.CR ks _=>some ks.length
 |_=>none
def BZ(k:LK)(x:AV)(st:St):R:=match (match k with|.str=>Vt x|.slice=>CV x|.map=>Vu st.h x) with
 |some n=>some (.int .i64 n,st)
 |none=>none
def TV(x:AV)(st:St):R:=match x with
 |.AO=>some (.int .i64 0,st)
 |.list true _ xs=>some (.int .i64 xs.length,st)
 |.AU _ _ _ (some c)=>some (.int .i64 c,st)
 |_=>none
def Ub(l:List AV)(st:St):R:=match l with
 |.int k x::l=>Ia st (Tt k x l)
 |_=>none
def TU(l:List AV)(st:St):R:=match l with
 |.int k x::l=>Ia st (Tu k x l)
 |_=>none
def Bq(o ty sz bytes:Nat)(x y:AV)(st:St):R:=match y with
 |.str _=>none
 |y=>match lenOf y with
  |some n=>match BS st.h sz n y with
   |some new=>CX o ty sz bytes x n new st
   |none=>none
  |none=>none
def NN(o ty:Nat)(x y:AV)(st:St):R:=match y with
 |.str l=>CX o ty 1 1 x l.length (IY l) st
 |_=>none
def Qm(sz:Nat)(d y:AV)(st:St):R:=match y with
 |.str _=>none
 |y=>match lenOf y with
  |some b=>match d with
   |.AO=>some (.int .i64 0,st)
   |.AU o off a _=>match BS st.h sz (Nat.min b a) y with
    |some cs=>bif Nat.beq (Nat.min b a) 0 then some (.int .i64 0,st) else match AA st.h o with
     |some (.cells _ sz' _ _)=>bif Nat.beq sz' sz then Fs (.int .i64 (Nat.min b a)) (CO st o off cs) else none
     |_=>none
    |none=>none
   |_=>none
  |none=>none
def Lu(zero:List AV)(x:AV)(st:St):R:=match x with
 |.AO=>some (.tuple [],st)
 |.AU o off len _=>bif Nat.beq len 0 then some (.tuple [],st) else match AA st.h o with
  |some (.cells _ sz _ _)=>bif Nat.beq zero.length sz then Fs (.tuple []) (CO st o off (FZ zero len)) else none
  |_=>none
 |_=>none
def Oy(ty n:Nat)(x:AV)(st:St):R:=match x with
 |.DY=>some (x,st)
 |.AL o 0=>match AA st.h o with
  |some (.cells ty' _ cs false)=>bif Nat.beq ty' ty&&Nat.ble n cs.length then some (x,st) else none
  |_=>none
 |_=>none
def Kk(x:AV)(st:St):R:=match x with
 |.AO=>some (.DY,st)
 |.AU o off len _=>bif Nat.blt 0 len then some (.AL o off,st) else none
 |_=>none
def Ky(ty:Nat)(p n:AV)(st:St):R:=match asNat n with
 |some n=>bif Nat.beq n 0 then (match p with
  |.DY|.AL ..=>some (.str [],st)
  |_=>none)
  else match p with
   |.AL o off=>bif Nat.blt o st.lo||!Nat.ble n room then none else match AA st.h o with
    |some (.cells ty' _ cs _)=>bif Nat.beq ty' ty&&Nat.ble (off+n) cs.length then
     match bytesOf ((cs.drop off).take n) with
     |some l=>some (.str l,{ st with h:=Jv st.h o })
     |none=>none
     else none
    |_=>none
   |_=>none
 |none=>none
def LJ(x c:AV)(st:St):R:=match x with
 |.str l=>match byteOf c with
  |some c=>some (.int .i64 (match l.findIdx? (fun b=>b==c) with|some i=>i|none=>-1),st)
  |_=>none
 |_=>none
def LU(x y:AV)(st:St):R:=match x with
 |.str a=>match y with
  |.str b=>some (.int .i64 (if a==b then 0 else if Op.bytesLess a b then -1 else 1),st)
  |_=>none
 |_=>none
def gM(e:Ext)(args:List AV)(st:St):R:=match e with
 |.same=>Jd args fun x=>some (x,st)
 |.indexByte=>Ke args fun x y=>LJ x y st
 |.compare=>Ke args fun x y=>LU x y st
def b1(l:List AV)(f:AV->B):B:=match l with
 |[x]=>f x
 |_=>none
def b2(l:List AV)(f:AV->AV->B):B:=match l with
 |[x,y]=>f x y
 |_=>none
def born(s:Nat)(k:AK)(args:List AV):B:=
 match k with
 |.alloc id ty sz zero=>some (.AL (s+id) 0,.cells ty sz zero false)
 |.box id ty sz=>b1 args fun x=>Ls (s+id) ty sz x
 |.buildSlice id ty sz len zero offs=>BC (s+id) ty sz len zero offs args
 |.NJ id ty=>b1 args fun x=>VL (s+id) ty x
 |.mkMap id=>some (.Cq (s+id),.map [] [] [] 0)
 |.mkSlice id ty sz bytes zero=>b2 args fun l c=>Dy (s+id) ty sz bytes zero l c
 |_=>none
def step(s:Nat)(k:AK)(args:List AV)(st:St):R:=
 match k with
 |.fail=>none
 |.move=>Jd args fun x=>some (x,st)
 |.pick=>ZV args fun c a b=>Rq c a b st
 |.alloc id ty sz zero=>TP (s+id) (born s (.alloc id ty sz zero) args) st
 |.box id ty sz=>TP (s+id) (born s (.box id ty sz) args) st
 |.build zero places=>Ia st ((Bp zero places args).map .agg)
 |.buildSlice id ty sz len zero offs=>TP (s+id) (born s (.buildSlice id ty sz len zero offs) args) st
 |.load agg=>Jd args fun p=>Ia st (LB st.h agg p)
 |.store n=>Ke args fun p v=>BM n p v st
 |.nilCheck=>Jd args fun x=>DT x st
 |.bin op=>Ke args fun x y=>Ia st (bin op x y)
 |.eq neg k=>Ke args fun x y=>Ia st (Uz neg k x y)
 |.XN neg ts=>Ke args fun x y=>YU neg ts x y st
 |.un op=>Jd args fun x=>Ia st (un op x)
 |.De k=>Jd args fun x=>Mi k x st
 |.PR=>Jd args fun x=>LQ x st
 |.NJ id ty=>TP (s+id) (born s (.NJ id ty) args) st
 |.PS=>Jd args fun x=>Nv x st
 |.GN t=>Jd args fun x=>some (.iface t x,st)
 |.Nk f n=>some (.fn f (args.take n) (args.drop n),st)
 |.mkMap id=>TP (s+id) (born s (.mkMap id) args) st
 |.mkSlice id ty sz bytes zero=>TP (s+id) (born s (.mkSlice id ty sz bytes zero) args) st
 |.IP lo hi=>Kz lo hi args st
 |.slice sz lo hi mx=>DW sz lo hi mx args st
 |.Pq len sz lo hi=>Mg len sz lo hi args st
 |.fieldAddr off=>Jd args fun p=>Cx off p st
 |.field off agg=>Jd args fun x=>Sk off agg x st
 |.indexAddr sz=>Ke args fun x i=>AY sz x i st
 |.KC len sz=>Ke args fun x i=>Mh len sz x i st
 |.Fw=>Ke args fun x i=>IQ x i st
 |.lookup kk zero ok=>Ke args fun m k=>FT kk zero ok m k st
 |.mapUpdate kk=>ZV args fun m k v=>FL kk m k v st
 |.mapEntry kk zero=>Ke args fun m k=>Ir kk zero m k st
 |.entryStore=>ZV args fun m b v=>Ha m b v st
 |.rangeMap id=>Jd args fun m=>KE (s+id) m st
 |.next=>none
 |.entry=>Jd args fun it=>NH it st
 |.extract i=>Jd args fun x=>LP i x st
 |.len k=>Jd args fun x=>BZ k x st
 |.cap=>Jd args fun x=>TV x st
 |.min=>Ub args st
 |.max=>TU args st
 |.append id ty sz bytes=>Ke args fun x y=>Bq (s+id) ty sz bytes x y st
 |.OG id ty=>Ke args fun x y=>NN (s+id) ty x y st
 |.copy sz=>Ke args fun d y=>Qm sz d y st
 |.clear zero=>Jd args fun x=>Lu zero x st
 |.UO ty n=>Jd args fun x=>Oy ty n x st
 |.Rk=>Jd args fun x=>Kk x st
 |.Pn ty=>Ke args fun p n=>Ky ty p n st
 |.call _=>none
 |.Ko=>none
 |.invoke _=>none
 |.ext e=>gM e args st
end Go.Am
namespace Go.Am
open Go
inductive Ki where
 |tmp (t:Nat)
 |val (v:AV)
 deriving Inhabited
structure Dr where
 dst:Option Nat
 guard:Option (Nat×Bool)
 k:AK
 args:List Ki
 deriving Inhabited
inductive BD where
 |skip
 |region (na:Nat) (ops:List Dr)
 |draw (na:Nat) (ops:List (Nat×Dr×List Nat))
 |lN (na:Nat) (ops:List (Nat×Dr×List Nat)) (x y:Nat×Dr×List Nat)
 |seq (a b:BD)
 |cond (c:Ki) (a b:BD)
 |block (id:Nat) (body:BD)
 |loop (body:BD)
 |exit (id:Nat)
 |ret
 |bad
 deriving Inhabited
inductive ku where
 |tmp (t:Nat)
 |cell (t:Nat) (agg:Option Nat)
 deriving Inhabited
inductive KN where
 |normal|exit (id:Nat)|ret
 deriving DecidableEq,Inhabited
inductive Pol where
 |Bo|own|pure|Kw|ACQ|yF
 deriving DecidableEq,Inhabited
structure DF where
 results:List ku
 pol:Pol
 body:BD
 deriving Inhabited
structure Env where
 code:Nat->Option DF
 AAV:Nat->String->Option Nat
 k:Nat
 WG:Nat->Option (St->List AV->Option (AV×St))
inductive TS where
 |nil
 |node (v:AV) (l r:TS)
 deriving Inhabited
namespace TS
def get:TS->Nat->AV
 |nil,_=>.undef
 |node v l r,i=>bif Nat.beq i 0 then v else bif Nat.beq (i % 2) 1 then l.get (i / 2) else r.get (i / 2-1)
def single(v:AV):Nat->Nat->TS
 |0,_=>.nil
 |n+1,i=>bif Nat.beq i 0 then .node v .nil .nil else bif Nat.beq (i % 2) 1 then .node .undef (single v n (i / 2)) .nil else .node .undef .nil (single v n (i / 2-1))
def set:TS->Nat->AV->TS
 |nil,i,x=>single x 16 i
 |node v l r,i,x=>bif Nat.beq i 0 then .node x l r else bif Nat.beq (i % 2) 1 then .node v (l.set (i / 2) x) r else .node v l (r.set (i / 2-1) x)
def FK:List AV->Nat->TS->TS
 |[],_,t=>t
 |v::l,i,t=>FK l (i+1) (t.set i v)
end TS
def ev(ts:TS)(o:Ki):AV:=match o with
 |.tmp t=>ts.get t
 |.val v=>v
def WL(ts:TS):List Ki->List AV
 |[]=>[]
 |o::l=>ev ts o::WL ts l
def put(ts:TS)(d:Option Nat)(v:AV):TS:=
 match d with
 |some d=>ts.set d v
 |none=>ts
def isBool(b:Bool)(v:AV):Bool:=match v with
 |.bool c=>c==b
 |_=>false
def wanted(g:Option (Nat×Bool))(ts:TS):Bool:=
 match g with
 |none=>true
 |some (t,b)=>isBool b (ts.get t)
def candidates(bs:List Nat)(since:Nat)(seen:List Nat):List (Option Nat):=
 let left:=bs.filter fun b=>!seen.contains b
 let CY:=left.filter (·<since)
 let new:=left.filter (since<=·)
 (if CY.isEmpty then [none] else [])++(CY++new).map some
def rows(sz:Nat):Nat->List AV->List AV
 |0,_=>[]
 |n+1,cs=>(bif Nat.beq sz 1 then cs.headD .undef else .agg (cs.take sz))::rows sz n (cs.drop sz)
def DD(f:AV->Option AV):List AV->Option (List AV)
 |[]=>some []
 |v::l=>match f v with
  |some v=>match DD f l with
   |some l=>some (v::l)
   |none=>none
  |none=>none
def Ce(c:Nat)(h:Aa):Nat->AV->Option AV
 |0,_=>none
 |n+1,v=>
  bif v.CY c then some v else
  match v with
  |.AL o off=>
   match AA h o with
   |some (.cells _ _ cs _)=>bif Nat.ble off cs.length then (match DD (Ce c h n) (cs.drop off) with|some cs=>some (.CB cs)|none=>none) else none
   |_=>none
  |.AU o off len cap=>
   match AA h o with
   |some (.cells _ sz cs _)=>
    bif Nat.blt 0 sz&&Nat.ble (off+len*sz) cs.length then
     match DD (Ce c h n) ((cs.drop off).take (len*sz)) with
     |some cs=>some (.list (match cap with|some c=>Nat.beq c len|none=>false) sz (rows sz len cs))
     |none=>none
    else none
   |_=>none
  |.Cq o=>
   match AA h o with
   |some (.map ks vs _ _)=>match DD (Ce c h n) ks with
    |some ks=>match DD (Ce c h n) vs with
     |some vs=>some (.CR ks vs)
     |none=>none
    |none=>none
   |_=>none
  |.CB cs=>match DD (Ce c h n) cs with|some cs=>some (.CB cs)|none=>none
  |.list t sz xs=>match DD (Ce c h n) xs with|some xs=>some (.list t sz xs)|none=>none
  |.CR ks vs=>match DD (Ce c h n) ks with
   |some ks=>match DD (Ce c h n) vs with
    |some vs=>some (.CR ks vs)
    |none=>none
   |none=>none
  |.fn f a b=>match DD (Ce c h n) a with
   |some a=>match DD (Ce c h n) b with
    |some b=>some (.fn f a b)
    |none=>none
   |none=>none
  |.iface t v=>match Ce c h n v with|some v=>some (.iface t v)|none=>none
  |.agg cs=>match DD (Ce c h n) cs with|some cs=>some (.agg cs)|none=>none
  |.tuple cs=>match DD (Ce c h n) cs with|some cs=>some (.tuple cs)|none=>none
  |_=>none
def Ck:Nat:=64
section
variable (E:Env)(call:Nat->List AV->St->M (AV×St))
def Yd(o i since:Nat)(seen:List Nat)(ks vs:List AV)(bs:List Nat)(clock:Nat)(st:St)(c:Option (Option Nat)):M (AV×St):=
 match c with
 |some none=>.ret (.tuple [.bool false],st)
 |some (some b)=>match Mt bs b with
  |some e=>match ks[e]?,vs[e]? with
   |some k,some v=>.ret (.tuple [.bool true,k,v],{ st with h:=Ah st.h i (.iter (some o) since (seen++[b]) clock) })
   |_,_=>.fail
  |none=>.fail
 |none=>.fail
def Qp(args:List AV)(st:St):M (AV×St):=
 match args with
 |[.AL i 0]=>match AA st.h i with
  |some (.iter none _ _ _)=>.ret (.tuple [.bool false],st)
  |some (.iter (some o) since seen stepped)=>
   bif Nat.blt i st.lo then .fail else
   match AA st.h o with
   |some (.map ks vs bs clock)=>
    bif !seen.isEmpty&&!bs.isEmpty&&bs.all (Nat.ble stepped) then .fail else
    .ask ((candidates bs since seen).length-1) fun j=>Yd o i since seen ks vs bs clock st (candidates bs since seen)[j]?
   |_=>.fail
  |_=>.fail
 |_=>.fail
def QL(args:List AV)(st:St):M (AV×St):=match args with
 |.fn (.func f) a b::l=>call f (a++(l++b)) st
 |_=>.fail
def callMethod(name:String)(args:List AV)(st:St):M (AV×St):=match args with
 |.iface t v::l=>match E.AAV t name with
  |some f=>call f (v::l) st
  |none=>.fail
 |_=>.fail
def Kg(s:Nat)(k:AK)(args:List AV)(st:St):M (AV×St):=
 match k with
 |.next=>Qp args st
 |.call f=>call f args st
 |.Ko=>QL call args st
 |.invoke name=>callMethod E call name args st
 |k=>M.FM (step s k args st)
def MK(s:Nat)(o:Dr)(ts:TS)(st:St):M (TS×St):=
 bif wanted o.guard ts then (Kg E call s o.k (WL ts o.args) st).bind fun r=>.ret (put ts o.dst r.1,r.2)
 else .ret (put ts o.dst .undef,st)
def MV(s:Nat):List Dr->TS->St->M (TS×St)
 |[],ts,st=>.ret (ts,st)
 |o::l,ts,st=>(MK E call s o ts st).bind fun r=>MV s l r.1 r.2
abbrev Na:=List (List Nat×AK×List AV×AV)
def Fv(s:Nat)(i:Nat):Na->St->Bool
 |[],_=>true
 |(js,k,args,v)::p,st=>(!js.any (Nat.beq i)||(match step s k args st with|some r=>AV.beq v r.1|none=>false))&&Fv s i p st
def Re(o:Dr)(js:List Nat)(ts ts':TS)(p:Na):Na:=
 match js with
 |[]=>p
 |js=>bif wanted o.guard ts then match o.dst with
  |some d=>(js,o.k,WL ts o.args,ts'.get d)::p
  |none=>p
  else p
def Db(s:Nat):List (Nat×Dr×List Nat)->Na->TS->St->M (TS×St)
 |[],_,ts,st=>.ret (ts,st)
 |(i,o,js)::l,p,ts,st=>
  (MK E call s o ts st).bind fun r=>bif Fv s i p r.2 then Db s l (Re o js ts r.1 p) r.1 r.2 else .fail
def XY(o:Dr)(ts:TS):Option Nat:=match o.guard with
 |some _=>none
 |none=>match o.dst with
  |some _=>none
  |none=>match o.k with
   |.store _=>match WL ts o.args with
    |[.AL i _,_]=>some i
    |_=>none
   |_=>none
def M.aY{α:Type}:M α->Bool
 |.ret _=>true
 |_=>false
def VN(s:Nat)(x y:Nat×Dr×List Nat):List (Nat×Dr×List Nat)->Na->TS->St->M (TS×St)
 |[],p,ts,st=>match XY x.2.1 ts with
  |some i=>match XY y.2.1 ts with
   |some j=>bif !Nat.beq i j&&(x.2.2.isEmpty&&y.2.2.isEmpty&&(Db E call s [y,x] p ts st).aY) then Db E call s [x,y] p ts st else .fail
   |none=>.fail
  |none=>.fail
 |(i,o,js)::l,p,ts,st=>
  (MK E call s o ts st).bind fun r=>bif Fv s i p r.2 then VN s x y l (Re o js ts r.1 p) r.1 r.2 else .fail
def Dm(body:TS->St->M (KN×TS×St)):Nat->TS->St->M (KN×TS×St)
 |0,_,_=>.fail
 |n+1,ts,st=>(body ts st).bind fun r=>match r.1 with
  |.normal=>Dm body n r.2.1 r.2.2
  |_=>.ret r
def Bc:BD->TS->St->M (KN×TS×St)
 |.skip,ts,st=>.ret (.normal,ts,st)
 |.region na ops,ts,st=>(MV E call st.c ops ts { st with c:=st.c+na }).bind fun r=>.ret (.normal,r)
 |.draw na ops,ts,st=>(Db E call st.c ops [] ts { st with c:=st.c+na }).bind fun r=>.ret (.normal,r)
 |.lN na ops x y,ts,st=>(VN E call st.c x y ops [] ts { st with c:=st.c+na }).bind fun r=>.ret (.normal,r)
 |.seq a b,ts,st=>(Bc a ts st).bind fun r=>match r.1 with
  |.normal=>Bc b r.2.1 r.2.2
  |_=>.ret r
 |.cond c a b,ts,st=>match ev ts c with
  |.bool t=>bif t then Bc a ts st else Bc b ts st
  |_=>.fail
 |.block id a,ts,st=>(Bc a ts st).bind fun r=>match r.1 with
  |.exit i=>.ret (bif Nat.beq i id then .normal else .exit i,r.2)
  |_=>.ret r
 |.loop a,ts,st=>Dm (Bc a) E.k ts st
 |.exit id,ts,st=>.ret (.exit id,ts,st)
 |.ret,ts,st=>.ret (.ret,ts,st)
 |.bad,_,_=>.fail
end
def fq(h:Aa)(ts:TS)(r:ku):Option AV:=match r with
 |.tmp t=>some (ts.get t)
 |.cell t agg=>LB h agg (ts.get t)
def Af(h:Aa)(ts:TS):List ku->Option (List AV)
 |[]=>some []
 |r::l=>match fq h ts r with
  |some v=>match Af h ts l with
   |some l=>some (v::l)
   |none=>none
  |none=>none
def results(rs:List ku)(h:Aa)(ts:TS):Option AV:=
 match Af h ts rs with
 |some [v]=>some v
 |some l=>some (.tuple l)
 |none=>none
def Al(rs:List ku)(r:KN×TS×St):M (AV×St):=
 match r.1 with
 |.exit _=>.fail
 |_=>match results rs r.2.2.h r.2.1 with
  |some v=>.ret (v,r.2.2)
  |none=>.fail
def BU(c:Nat)(st:St)(r:AV×St):M (AV×St):=
 match Ce c r.2.h Ck r.1 with
 |some v=>.ret (v,st)
 |none=>.fail
def BJ.CY(c:Nat):BJ->Bool
 |.cells _ _ cs _=>AV.Dq c cs
 |.map ks vs _ _=>AV.Dq c ks&&AV.Dq c vs
 |.iter m _ _ _=>match m with
  |some o=>Nat.blt o c
  |none=>true
def Kc(c:Nat):Aa->Aa
 |[]=>[]
 |(i,x)::h=>bif Nat.ble c i then Kc c h else (i,x)::Kc c h
def holds(c:Nat):Aa->Bool
 |[]=>true
 |(i,x)::h=>Nat.blt i c&&BJ.CY c x&&holds c h
def Kn(c:Nat)(r:AV×St):M (AV×St):=
 match Ce c r.2.h Ck r.1 with
 |some v=>bif holds c (Kc c r.2.h) then .ret (v,{ r.2 with h:=Kc c r.2.h,c:=c }) else .fail
 |none=>.fail
def Gt(E:Env)(call:Nat->List AV->St->M (AV×St))(fn:DF)(args:List AV)(st:St):M (AV×St):=
 bif Nat.ble args.length 1000 then (Bc E call fn.body (TS.FK args 0 .nil) st).bind (Al fn.results) else .fail
def M.leftmost{α:Type}:M α->Option α
 |.ret a=>some a
 |.fail=>none
 |.ask _ k=>(k 0).leftmost
def M.ZW{α:Type}(f:α->Bool):M α->Bool
 |.ret a=>f a
 |.fail=>false
 |.ask n k=>(List.range (n+1)).all fun i=>(k i).ZW f
def Jj(st:St)(m:M (AV×St)):M (AV×St):=
 match m.leftmost with
 |some r=>bif m.ZW (fun r'=>AV.beq r.1 r'.1) then .ret (r.1,st) else .fail
 |none=>.fail
 mutual
def AV.plain:AV->Bool
 |.bool _=>true
 |.int _ _=>true
 |.str _=>true
 |.tuple l=>AV.YS l
 |.agg l=>AV.YS l
 |_=>false
def AV.YS:List AV->Bool
 |[]=>true
 |v::l=>AV.plain v&&AV.YS l
end
def LC(st:St)(r:AV×St):M (AV×St):=bif r.1.plain then .ret (r.1,st) else .fail
def Me(g:Aa->List AV->Option AV)(st:St)(args:List AV):Option (AV×St):=match g st.h args with
 |some v=>some (v,st)
 |none=>none
def Ab(E:Env):Nat->Nat->List AV->St->M (AV×St)
 |0,_,_,_=>.fail
 |n+1,f,args,st=>
  match E.WG f with
  |some g=>match g st args with
   |some r=>.ret r
   |none=>.fail
  |none=>match E.code f with
   |none=>.fail
   |some fn=>match fn.pol with
    |.Bo=>Gt E (Ab E n) fn args st
    |.own=>(Gt E (Ab E n) fn args st).bind (Kn st.c)
    |.pure=>(Gt E (Ab E n) fn args { st with lo:=st.c }).bind (BU st.c st)
    |.ACQ=>Jj st ((Gt E (Ab E n) fn args { st with lo:=st.c }).bind (BU st.c st))
    |.Kw=>bif AV.Dq 0 args then (Gt E (Ab E n) fn args ⟨[],0,0⟩).bind (BU 0 st) else (Gt E (Ab E n) fn args { st with lo:=st.c }).bind (BU st.c st)
    |.yF=>match DD (Ce 0 st.h Ck) args with
     |some args'=>(Gt E (Ab E n) fn args' ⟨[],0,0⟩).bind (LC st)
     |none=>.fail
end Go.Am
namespace Go.Am
open Go
section
variable {α:Type}
def Yt(lt:α->α->Bool)(x:α):List α->List α
 |[]=>[x]
 |y::l=>bif lt y x then y::Yt lt x l else x::y::l
def Hl(lt:α->α->Bool):List α->List α
 |[]=>[]
 |x::l=>Yt lt x (Hl lt l)
def JY(k:Nat)(dec:List AV->Option (List α))(encA:α->List AV)(ltf:AV->Option (α->α->Bool))(st:St)(args:List AV):Option (AV×St):=match args with
 |[s,fv]=>match ltf fv with
  |some lt=>match s with
   |.AO=>some (.tuple [],st)
   |.AU o off len cap=>bif Nat.beq len 0 then some (.tuple [],st) else match BS st.h k len (.AU o off len cap) with
    |some cs=>match dec cs with
     |some xs=>match CO st o off ((Hl lt xs).flatMap encA) with
      |some st'=>some (.tuple [],st')
      |none=>none
     |none=>none
    |none=>none
   |_=>none
  |none=>none
 |_=>none
end
abbrev Place:=Int×Nat
def Bh(p:Place):List AV:=[.int .i64 p.1,.int .i64 (p.2:Int)]
def Iz(x y:Place):Bool:=decide (x.1<y.1)||(decide (x.1=y.1)&&Nat.blt x.2 y.2)
def Vl(p:Place):Bool:=Nat.ble p.2 1000000&&match p.1 with
 |.ofNat n=>Nat.ble n 1000000
 |.negSucc n=>Nat.ble n 1000000
def KU:List AV->Option (List Place)
 |[]=>some []
 |.int .i64 r::.int .i64 (.ofNat d)::l=>bif Vl (r,d) then (match KU l with
  |some xs=>some ((r,d)::xs)
  |none=>none) else none
 |_=>none
def Te(cs:List AV):Option (List Place):=bif Nat.ble cs.length 2000000 then KU cs else none
def Lt(f:Nat):AV->Option (Place->Place->Bool)
 |.fn (.func g) [] []=>bif Nat.beq g f then some Iz else none
 |_=>none
section
variable {α:Type}
structure MR (lt:α->α->Bool):Prop where
 irr:∀x,lt x x=false
 tr:∀x y z,lt x y=true->lt y z=true->lt x z=true
 tot:∀x y,lt x y=false->lt y x=false->x=y
theorem MR.le_trans{a:α->α->Bool}(h:MR a){x y z:α}(c:a y x=false)(b:a z y=false):a z x=false:=by
 cases h3:a z x with
 |false=>rfl
 |true=>
  cases h4:a x y with
  |true=>rw[h.tr _ _ _ h3 h4]at b;cases b
  |false=>have:=h.tot _ _ h4 c;subst this;rw[h3]at b;cases b
theorem MR.asym{a:α->α->Bool}(h:MR a){x y:α}(b:a x y=true):a y x=false:=by
 cases h2:a y x with
 |false=>rfl
 |true=>have:=h.tr _ _ _ b h2;rw[h.irr]at this;cases this
theorem WA(a:α->α->Bool)(x:α):∀l,(Yt a x l).Perm (x::l)
 |[]=>.refl _
 |y::l=>by
  unfold Yt;cases a y x with
  |true=>exact ((WA a x l).cons y).trans (.swap _ _ _)
  |false=>exact .refl _
theorem Ip(a:α->α->Bool):∀l,(Hl a l).Perm l
 |[]=>.refl _
 |x::l=>(WA a x _).trans ((Ip a l).cons x)
theorem qH{c:α->α->Bool}(h:MR c)(x:α):∀{l},l.Pairwise (fun a b=>c b a=false)->(Yt c x l).Pairwise fun a b=>c b a=false
 |[],_=>by simp[Yt]
 |y::l,d=>by
  rw[Hg]at d;unfold Yt;cases hy:c y x with
  |true=>
   rw[Ba,Hg];refine⟨fun z f=>?_,qH h x d.2⟩;rcases BK.1 ((WA c x l).mem_iff.1 f)with e|e
   ·subst e;exact h.asym hy
   ·exact d.1 z e
  |false=>
   rw[Bj,Hg];refine⟨fun z f=>?_,Hg.2 d⟩;rcases BK.1 f with e|e
   ·subst e;exact hy
   ·exact h.le_trans hy (d.1 z e)
theorem UU{c:α->α->Bool}(h:MR c):∀l,(Hl c l).Pairwise fun a b=>c b a=false
 |[]=>.nil
 |x::l=>qH h x (UU h l)
theorem wF{c:α->α->Bool}(h:MR c){l m:List α}(d:m.Perm l)(g:m.Pairwise fun a b=>c b a=false):m=Hl c l:=
 List.Perm.eq_of_pairwise (fun a b _ _ f e=>h.tot _ _ e f) g (UU h l) (d.trans (Ip c l).symm)
end
end Go.Am
