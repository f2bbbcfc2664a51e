/- A part of the proof of GrammarsChecked (merged by a program). -/
import Derived.Calls
import Derived.Below
section
namespace Go.Am
open Go
inductive AV where
 | bool (b : Bool)
 | int (k : IntKind) (n : Int)
 | str (s : List UInt8)
 | pnil
 | pobj (o off : Nat)
 | pval (cs : List AV)
 | snil
 | list (tight : Bool) (sz : Nat) (xs : List AV)
 | sobj (o off len : Nat) (cap : Option Nat)
 | mnil
 | mobj (o : Nat)
 | mval (ks vs : List AV)
 | fn (f : Fn) (first captured : List AV)
 | fnil
 | iface (t : Nat) (v : AV)
 | inil
 | agg (cs : List AV)
 | tuple (vs : List AV)
 deriving Inhabited
def AV.undef : AV := .tuple []
def AV.cells : AV -> List AV
 | .agg cs => cs
 | v => [v]
def AV.isTuple : AV -> Bool
 | .tuple _ => true
 | _ => false
inductive Qe where
 | cells (ty sz : Nat) (cs : List AV) (ext : Bool)
 | map (ks vs : List AV) (borns : List Nat) (clock : Nat)
 | iter (m : Option Nat) (since : Nat) (seen : List Nat) (stepped : Nat)
 deriving Inhabited
inductive M (α : Type) where
 | ret (a : α)
 | fail
 | ask (n : Nat) (k : Nat -> M α)
namespace M
variable {α β : Type}
def bind : M α -> (α -> M β) -> M β
 | .ret a, f => f a
 | .fail, _ => .fail
 | .ask n k, f => .ask n fun i => (k i).bind f
def all (Q : α -> Prop) : M α -> Prop
 | .ret a => Q a
 | .fail => False
 | .ask n k => ∀ i, i <= n -> (k i).all Q
def ofOpt : Option α -> M α
 | some a => .ret a
 | none => .fail
end M
abbrev Qc := List (Nat × Qe)
def Q0 : Qc -> Nat -> Option Qe
 | [], _ => none
 | (i, x) :: h, o => bif Nat.beq i o then some x else Q0 h o
def hset : Qc -> Nat -> Qe -> Qc
 | [], _, _ => []
 | (i, x) :: h, o, y => bif Nat.beq i o then (i, y) :: h else (i, x) :: hset h o y
def hdel : Qc -> Nat -> Qc
 | [], _ => []
 | (i, x) :: h, o => bif Nat.beq i o then hdel h o else (i, x) :: hdel h o
def Q44 : Qc -> Nat -> Qe -> Option Qc
 | [], o, y => some [(o, y)]
 | (i, x) :: h, o, y => bif Nat.blt i o then some ((o, y) :: (i, x) :: h) else bif Nat.beq i o then none else match Q44 h o y with
  | some h => some ((i, x) :: h)
  | none => none
structure St where
 h : Qc
 c : Nat
 lo : Nat
 deriving Inhabited
inductive Ext where
 | same | indexByte | compare
 deriving Inhabited
inductive CK where
 | bool | int | str
 deriving DecidableEq, Inhabited
inductive KK where
 | one (c : CK)
 | many (cs : List CK)
 deriving DecidableEq, Inhabited
inductive EK where
 | key (k : KK) | ptr | slice | map | func | iface
 deriving DecidableEq, Inhabited
inductive LK where
 | str | slice | map
 deriving DecidableEq, Inhabited
inductive AK where
 | fail
 | move
 | pick
 | alloc (id ty sz : Nat) (zero : List AV)
 | box (id ty sz : Nat)
 | build (zero : List AV) (places : List (Nat × Nat))
 | buildSlice (id ty sz len : Nat) (zero : List AV) (offs : List Nat)
 | load (agg : Option Nat)
 | store (n : Nat)
 | nilCheck
 | bin (op : BinOp)
 | eq (neg : Bool) (k : EK)
 | ifEq (neg : Bool) (ts : List (Nat × CK))
 | un (op : UnOp)
 | convInt (k : IntKind)
 | convStr
 | convS2B (id ty : Nat)
 | convB2S
 | mkIface (t : Nat)
 | mkFn (f : Fn) (nfirst : Nat)
 | mkMap (id : Nat)
 | mkSlice (id ty sz bytes : Nat) (zero : List AV)
 | sliceStr (lo hi : Bool)
 | slice (sz : Nat) (lo hi mx : Bool)
 | sliceArr (len sz : Nat) (lo hi : Bool)
 | fieldAddr (off : Nat)
 | field (off : Nat) (agg : Option Nat)
 | indexAddr (sz : Nat)
 | indexArr (len sz : Nat)
 | indexStr
 | lookup (kk : KK) (zero : AV) (ok : Bool)
 | mapUpdate (kk : KK)
 | mapEntry (kk : KK) (zero : AV)
 | entryStore
 | rangeMap (id : Nat)
 | next
 | entry
 | extract (i : Nat)
 | len (k : LK)
 | cap
 | min
 | max
 | append (id ty sz bytes : Nat)
 | appendStr (id ty : Nat)
 | copy (sz : Nat)
 | clear (zero : List AV)
 | usPtr (ty n : Nat)
 | usData
 | usString (ty : Nat)
 | call (f : Nat)
 | callv
 | invoke (name : String)
 | ext (e : Ext)
 deriving Inhabited
 mutual
def AV.beq : AV -> AV -> Bool
 | .bool a, .bool b => a == b
 | .int k a, .int j b => k == j && a == b
 | .str a, .str b => a == b
 | .pnil, .pnil => true
 | .pobj o a, .pobj p b => o == p && a == b
 | .pval a, .pval b => AV.beqs a b
 | .snil, .snil => true
 | .list t n a, .list u m b => t == u && n == m && AV.beqs a b
 | .sobj o a l c, .sobj p b m d => o == p && a == b && l == m && c == d
 | .mnil, .mnil => true
 | .mobj o, .mobj p => o == p
 | .mval a b, .mval c d => AV.beqs a c && AV.beqs b d
 | .fn f a b, .fn g c d => decide (f = g) && AV.beqs a c && AV.beqs b d
 | .fnil, .fnil => true
 | .iface t v, .iface u w => t == u && AV.beq v w
 | .inil, .inil => true
 | .agg a, .agg b => AV.beqs a b
 | .tuple a, .tuple b => AV.beqs a b
 | _, _ => false
def AV.beqs : List AV -> List AV -> Bool
 | [], [] => true
 | a :: x, b :: y => AV.beq a b && AV.beqs x y
 | _, _ => false
end
def Q9s : IntKind -> IntKind -> Bool
 | .i8, .i8 | .i16, .i16 | .i32, .i32 | .i64, .i64 | .u8, .u8 | .u16, .u16 | .u32, .u32 | .u64, .u64 => true
 | _, _ => false
def ceq (c : CK) (x y : AV) : Option Bool := match c with
 | .bool => match x, y with
  | .bool a, .bool b => some (a == b)
  | _, _ => none
 | .int => match x, y with
  | .int k a, .int j b => bif Q9s k j then some (a == b) else none
  | _, _ => none
 | .str => match x, y with
  | .str a, .str b => some (a == b)
  | _, _ => none
def Q3u : List CK -> List AV -> List AV -> Option Bool
 | [], [], [] => some true
 | c :: cs, a :: x, b :: y => match ceq c a b with
  | some true => Q3u cs x y
  | some false => match Q3u cs x y with
   | some _ => some false
   | none => none
  | none => none
 | _, _, _ => none
def keq (k : KK) (x y : AV) : Option Bool := match k with
 | .one c => ceq c x y
 | .many cs => match x with
  | .agg a => match y with
   | .agg b => Q3u cs a b
   | _ => none
  | _ => none
def aeq (k : EK) (x y : AV) : Option Bool :=
 match k with
 | .key k => keq k x y
 | .ptr => match x, y with
  | .pnil, .pnil => some true
  | .pnil, .pobj .. | .pnil, .pval _ | .pobj .., .pnil | .pval _, .pnil => some false
  | .pobj o a, .pobj p b => bif Nat.beq o p then some (Nat.beq a b) else none
  | _, _ => none
 | .slice => match x, y with
  | .snil, .snil => some true
  | .snil, .list .. | .snil, .sobj .. | .list .., .snil | .sobj .., .snil => some false
  | _, _ => none
 | .map => match x, y with
  | .mnil, .mnil => some true
  | .mnil, .mobj _ | .mnil, .mval .. | .mobj _, .mnil | .mval .., .mnil => some false
  | _, _ => none
 | .func => match x, y with
  | .fnil, .fnil => some true
  | .fnil, .fn .. | .fn .., .fnil => some false
  | _, _ => none
 | .iface => match x, y with
  | .inil, .inil => some true
  | .inil, .iface .. | .iface .., .inil => some false
  | _, _ => none
def Q38 (k : KK) (x : AV) : Bool := match k with
 | .one _ => true
 | .many cs => match x with
  | .agg a => Nat.beq a.length cs.length
  | _ => false
def Q1e (kk : KK) : List AV -> AV -> Option (Option Nat)
 | [], _ => some none
 | k :: ks, x => match keq kk x k with
  | some true => some (some 0)
  | some false => match Q1e kk ks x with
   | some (some i) => some (some (i + 1))
   | some none => some none
   | none => none
  | none => none
def intBits (op : BinOp) (k : IntKind) (x y : Int) : Option AV :=
 let a := BitVec.ofInt k.bits x
 let b := BitVec.ofInt k.bits y
 match op with
 | .and => some (.int k (k.wrap (a &&& b).toNat))
 | .or => some (.int k (k.wrap (a ||| b).toNat))
 | .xor => some (.int k (k.wrap (a ^^^ b).toNat))
 | .andNot => some (.int k (k.wrap (a &&& ~~~b).toNat))
 | _ => none
def Qjh (op : BinOp) (k : IntKind) (a b : Int) : Option AV :=
 match op with
 | .add => some (.int k (k.wrap (a + b)))
 | .sub => some (.int k (k.wrap (a - b)))
 | .mul => some (.int k (k.wrap (a * b)))
 | .quo => if b = 0 then none else some (.int k (k.wrap (a.tdiv b)))
 | .rem => if b = 0 then none else some (.int k (a.tmod b))
 | .eql => some (.bool (a == b))
 | .neq => some (.bool (a != b))
 | .lss => some (.bool (decide (a < b)))
 | .leq => some (.bool (decide (a <= b)))
 | .gtr => some (.bool (decide (b < a)))
 | .geq => some (.bool (decide (b <= a)))
 | op => intBits op k a b
def Qjg (op : BinOp) (k : IntKind) (a b : Int) : Option AV :=
 if b < 0 then none else
 match op with
 | .shl => some (.int k (k.wrap (a * 2 ^ min b.toNat k.bits)))
 | .shr => some (.int k (a.fdiv (2 ^ min b.toNat k.bits)))
 | _ => none
def Q9l : BinOp -> Bool
 | .shl | .shr => true
 | _ => false
def Qjf (op : BinOp) (a b : List UInt8) : Option AV :=
 match op with
 | .add => if a.length + b.length <= 2 ^ 62 then some (.str (a ++ b)) else none
 | .eql => some (.bool (a == b))
 | .neq => some (.bool !(a == b))
 | .lss => some (.bool (Op.bytesLess a b))
 | .leq => some (.bool (Op.bytesLess a b || a == b))
 | .gtr => some (.bool !(Op.bytesLess a b || a == b))
 | .geq => some (.bool !(Op.bytesLess a b))
 | _ => none
def bin (op : BinOp) (x y : AV) : Option AV :=
 match x with
 | .int k a => match y with
  | .int j b => bif Q9l op then Qjg op k a b else bif Q9s k j then Qjh op k a b else none
  | _ => none
 | .str a => match y with
  | .str b => Qjf op a b
  | _ => none
 | _ => none
def Qar (neg : Bool) (k : EK) (x y : AV) : Option AV := match aeq k x y with
 | some e => some (.bool (e != neg))
 | none => none
def un (op : UnOp) (x : AV) : Option AV :=
 match op, x with
 | .neg, .int k n => some (.int k (k.wrap (0 - n)))
 | .xor, .int k n => intBits .xor k (if k.signed then -1 else k.max) n
 | .not, .bool b => some (.bool !b)
 | _, _ => none
def Ql (h : Qc) (p : AV) (n : Nat) : Option (List AV) :=
 match p with
 | .pobj o off => match Q0 h o with
  | some (.cells _ _ cs _) => bif Nat.ble (off + n) cs.length then some ((cs.drop off).take n) else none
  | _ => none
 | .pval cs => bif Nat.ble n cs.length then some (cs.take n) else none
 | _ => none
def Q5 (h : Qc) (p : AV) : Option AV :=
 match p with
 | .pobj o off => match Q0 h o with
  | some (.cells _ _ cs _) => cs[off]?
  | _ => none
 | .pval (v :: _) => some v
 | _ => none
def Q2x (h : Qc) (agg : Option Nat) (p : AV) : Option AV :=
 match agg with
 | some n => (Ql h p n).map .agg
 | none => Q5 h p
def splice (cs : List AV) (off : Nat) (vs : List AV) : List AV := cs.take off ++ (vs ++ cs.drop (off + vs.length))
def Q0m (st : St) (o off : Nat) (vs : List AV) : Option St :=
 bif Nat.blt o st.lo then none else
 match Q0 st.h o with
 | some (.cells ty sz cs ext) => bif Nat.ble (off + vs.length) cs.length then some { st with h := hset st.h o (.cells ty sz (splice cs off vs) ext) } else none
 | _ => none
def newObj (o : Nat) (ob : Qe) (st : St) : Option St :=
 match Q44 st.h o ob with
 | some h => some { st with h }
 | none => none
def Q01 (h : Qc) (sz n : Nat) (v : AV) : Option (List AV) :=
 match v with
 | .snil => bif Nat.beq n 0 then some [] else none
 | .list _ sz' xs => bif Nat.ble n xs.length && Nat.beq sz' sz then some ((xs.take n).flatMap AV.cells) else none
 | .sobj o off len _ => match Q0 h o with
  | some (.cells _ sz' cs _) => bif Nat.beq sz' sz && Nat.ble n len && Nat.ble (off + n * sz) cs.length then some ((cs.drop off).take (n * sz)) else none
  | _ => none
 | _ => none
def Q2j : AV -> Option Nat
 | .int _ (.ofNat n) => some n
 | _ => none
def lenOf : AV -> Option Nat
 | .snil => some 0
 | .list _ _ xs => some xs.length
 | .sobj _ _ len _ => some len
 | .str s => some s.length
 | _ => none
def room : Nat := 2 ^ 40
def grow (o ty sz bytes len n : Nat) (cs : List AV) (st : St) : Option (AV × St) :=
 bif Nat.ble ((len + n) * bytes) room && Nat.ble (len + n) room then
  match newObj o (.cells ty sz cs true) st with
  | some st => some (.sobj o 0 (len + n) none, st)
  | none => none
 else none
def Q16 (o' ty sz bytes n : Nat) (new : List AV) (st : St) (o off len : Nat) (cap : Option Nat) : Option (AV × St) :=
 match Q0 st.h o with
 | some (.cells ty' sz' cs ext) =>
  bif Nat.beq ty' ty && Nat.beq sz' sz && Nat.ble (off + len * sz) cs.length then
   match cap with
   | some c =>
    bif Nat.ble (len + n) c then
     match Q0m st o (off + len * sz) new with
     | some st => some (.sobj o off (len + n) cap, st)
     | none => none
    else grow o' ty sz bytes len n ((cs.drop off).take (len * sz) ++ new) st
   | none =>
    bif Nat.ble (off + (len + n) * sz) cs.length then
     match Q0m st o (off + len * sz) new with
     | some st => some (.sobj o off (len + n) cap, st)
     | none => none
    else bif ext && Nat.ble st.lo o then grow o' ty sz bytes len n ((cs.drop off).take (len * sz) ++ new) { st with h := hdel st.h o } else none
  else none
 | _ => none
def Q08 (o' ty sz bytes : Nat) (x : AV) (n : Nat) (new : List AV) (st : St) : Option (AV × St) :=
 bif Nat.beq sz 0 then none else
 match x with
 | .snil => bif Nat.beq n 0 then some (.snil, st) else grow o' ty sz bytes 0 n new st
 | .list tight sz' xs =>
  bif Nat.beq n 0 then some (x, st)
  else bif tight && Nat.beq sz' sz then grow o' ty sz bytes xs.length n (xs.flatMap AV.cells ++ new) st else none
 | .sobj o off len cap => bif Nat.beq n 0 then some (x, st) else Q16 o' ty sz bytes n new st o off len cap
 | _ => none
def Q8f (tight : Bool) (sz : Nat) (xs : List AV) (lo hi mx : Option Nat) : Option AV :=
 let h := hi.getD xs.length
 let l := lo.getD 0
 match mx with
 | none => bif Nat.ble l h && Nat.ble h xs.length then some (.list (tight && Nat.beq h xs.length) sz ((xs.take h).drop l)) else none
 | some m => bif Nat.ble l h && Nat.ble h m && Nat.ble m xs.length then some (.list (Nat.beq m h) sz ((xs.take h).drop l)) else none
def Q26 (n sz o off len : Nat) (cap lo hi mx : Option Nat) : Option AV :=
 let e := hi.getD len
 let l := lo.getD 0
 bif Nat.ble l e then
  match mx, cap with
  | none, some c => bif Nat.ble e c then some (.sobj o (off + l * sz) (e - l) (some (c - l))) else none
  | none, none => bif Nat.ble (off + e * sz) n then some (.sobj o (off + l * sz) (e - l) none) else none
  | some m, some c => bif Nat.ble e m && Nat.ble m c then some (.sobj o (off + l * sz) (e - l) (some (m - l))) else none
  | some m, none => bif Nat.ble e m && Nat.ble (off + m * sz) n then some (.sobj o (off + l * sz) (e - l) (some (m - l))) else none
 else none
def Q17 (sz : Nat) (x : AV) (lo hi mx : Option Nat) (h : Qc) : Option AV :=
 match x with
 | .snil => bif Nat.beq (lo.getD 0) 0 && Nat.beq (hi.getD 0) 0 && Nat.beq (mx.getD 0) 0 then some .snil else none
 | .list tight sz' xs => bif Nat.beq sz' sz then Q8f tight sz xs lo hi mx else none
 | .sobj o off len cap => match Q0 h o with
  | some (.cells _ sz' cs _) => bif Nat.beq sz' sz && Nat.blt 0 sz then Q26 cs.length sz o off len cap lo hi mx else none
  | _ => none
 | _ => none
def Q1a (is : Bool) (l : List AV) : Option (Option Nat × List AV) :=
 match is with
 | false => some (none, l)
 | true => match l with
  | a :: l => match Q2j a with
   | some n => some (some n, l)
   | none => none
  | [] => none
def Q00 : List AV -> List (Nat × Nat) -> List AV -> Option (List AV)
 | cs, [], [] => some cs
 | cs, (off, size) :: ps, v :: vs =>
  bif v.isTuple then none
  else bif Nat.beq v.cells.length size && Nat.ble (off + size) cs.length then Q00 (splice cs off v.cells) ps vs else none
 | _, _, _ => none
def Q9i (k : IntKind) (x : Int) : List AV -> Option AV
 | [] => some (.int k x)
 | .int _ y :: l => Q9i k (if y < x then y else x) l
 | _ => none
def Q9j (k : IntKind) (x : Int) : List AV -> Option AV
 | [] => some (.int k x)
 | .int _ y :: l => Q9j k (if y > x then y else x) l
 | _ => none
def Q0x (zero : List AV) : Nat -> List AV
 | 0 => []
 | n + 1 => zero ++ Q0x zero n
def byteOf : AV -> Option UInt8
 | .int .u8 n => some (UInt8.ofNat n.toNat)
 | _ => none
def bytesOf : List AV -> Option (List UInt8)
 | [] => some []
 | c :: l => match byteOf c with
  | some b => match bytesOf l with
   | some l => some (b :: l)
   | none => none
  | none => none
def Q9q (l : List UInt8) : List AV := l.map fun b => .int .u8 b.toNat
 mutual
def AV.old (c : Nat) : AV -> Bool
 | .pobj o _ | .sobj o _ _ _ | .mobj o => Nat.blt o c
 | .pval cs | .agg cs | .tuple cs | .list _ _ cs => AV.olds c cs
 | .mval a b | .fn _ a b => AV.olds c a && AV.olds c b
 | .iface _ v => AV.old c v
 | _ => true
def AV.olds (c : Nat) : List AV -> Bool
 | [] => true
 | v :: l => AV.old c v && AV.olds c l
end
abbrev R := Option (AV × St)
def Q1p (l : List AV) (f : AV -> R) : R := match l with
 | [x] => f x
 | _ => none
def Q24 (l : List AV) (f : AV -> AV -> R) : R := match l with
 | [x, y] => f x y
 | _ => none
def Qb0 (l : List AV) (f : AV -> AV -> AV -> R) : R := match l with
 | [x, y, z] => f x y z
 | _ => none
def give (st : St) (v : Option AV) : R := match v with
 | some v => some (v, st)
 | none => none
def Q0v (v : AV) (st : Option St) : R := match st with
 | some st => some (v, st)
 | none => none
def Q6z (c a b : AV) (st : St) : R := match c with
 | .bool t => some (bif t then a else b, st)
 | _ => none
abbrev B := Option (AV × Qe)
def Q53 (o : Nat) (r : B) (st : St) : R := match r with
 | some (v, ob) => Q0v v (newObj o ob st)
 | none => none
def Q0z (o ty sz : Nat) (x : AV) : B := bif x.isTuple then none else some (.pobj o 0, .cells ty sz x.cells false)
def Qz (o ty sz len : Nat) (zero : List AV) (offs : List Nat) (parts : List AV) : B :=
 bif Nat.blt 0 sz then
  match Q00 zero (offs.map fun i => (i * sz, sz)) parts with
  | some cs => bif Nat.beq cs.length (len * sz) then some (.sobj o 0 len (some len), .cells ty sz cs false) else none
  | none => none
 else none
def Q0n (n : Nat) (p v : AV) (st : St) : R := match p with
 | .pobj o off => bif v.isTuple || !Nat.beq v.cells.length n then none else Q0v .undef (Q0m st o off v.cells)
 | _ => none
def Q1v (x : AV) (st : St) : R := match x with
 | .pobj .. | .pval _ => some (x, st)
 | .fn (.func _) _ _ => some (x, st)
 | _ => none
def Qj8 : List (Nat × CK) -> Nat -> Option CK
 | [], _ => none
 | (u, c) :: l, t => bif Nat.beq u t then some c else Qj8 l t
def Qbx (neg : Bool) (ts : List (Nat × CK)) (x y : AV) (st : St) : R := match x with
 | .inil => match y with
  | .iface .. => some (.bool neg, st)
  | _ => none
 | .iface t a => match y with
  | .inil => some (.bool neg, st)
  | .iface u b => bif Nat.beq t u then (match Qj8 ts t with
    | some c => match ceq c a b with
     | some e => some (.bool (e != neg), st)
     | none => none
    | none => none) else some (.bool neg, st)
  | _ => none
 | _ => none
def Q4o (k : IntKind) (x : AV) (st : St) : R := match x with
 | .int _ n => some (.int k (k.wrap n), st)
 | _ => none
def Q4n (x : AV) (st : St) : R := match x with
 | .str _ => some (x, st)
 | _ => none
def Q5m (x : AV) (st : St) : R := match x with
 | .str _ => none
 | x => match lenOf x with
  | some n => match Q01 st.h 1 n x with
   | some cs => give st ((bytesOf cs).map .str)
   | none => none
  | none => none
def Qaz (o ty : Nat) (x : AV) : B := match x with
 | .str l => bif Nat.ble l.length room then some (.sobj o 0 l.length none, .cells ty 1 (Q9q l) true) else none
 | _ => none
def Q2n (o ty sz bytes : Nat) (zero : List AV) (l c : AV) : B := match Q2j l with
 | some l => match Q2j c with
  | some c => bif Nat.ble l c && Nat.ble (c * bytes) room && Nat.ble c room && Nat.blt 0 sz && Nat.beq zero.length sz then
    some (.sobj o 0 l (some c), .cells ty sz (Q0x zero c) false) else none
  | none => none
 | none => none
def Q41 (lo hi : Bool) (l : List AV) (st : St) : R := match l with
 | .str x :: l => match Q1a lo l with
  | some (a, l) => match Q1a hi l with
   | some (b, []) =>
    let e := b.getD x.length
    let f := a.getD 0
    bif Nat.ble f e && Nat.ble e x.length then some (.str ((x.take e).drop f), st) else none
   | _ => none
  | none => none
 | _ => none
def Q0o (sz : Nat) (lo hi mx : Bool) (l : List AV) (st : St) : R := match l with
 | x :: l => match Q1a lo l with
  | some (a, l) => match Q1a hi l with
   | some (b, l) => match Q1a mx l with
    | some (m, []) => give st (Q17 sz x a b m st.h)
    | _ => none
   | none => none
  | none => none
 | _ => none
def Q4t (len sz : Nat) (lo hi : Bool) (l : List AV) (st : St) : R := match l with
 | .pobj o off :: l => match Q1a lo l with
  | some (a, l) => match Q1a hi l with
   | some (b, []) => match Q0 st.h o with
    | some (.cells _ sz' cs false) =>
     let e := b.getD len
     let f := a.getD 0
     bif Nat.beq sz' sz && Nat.blt 0 sz && Nat.ble f e && Nat.ble e len && Nat.ble (off + len * sz) cs.length then some (.sobj o (off + f * sz) (e - f) (some (len - f)), st) else none
    | _ => none
   | _ => none
  | none => none
 | _ => none
def Q1t (off : Nat) (p : AV) (st : St) : R := match p with
 | .pobj o a => some (.pobj o (a + off), st)
 | .pval cs => some (.pval (cs.drop off), st)
 | _ => none
def Q7v (off : Nat) (agg : Option Nat) (x : AV) (st : St) : R := match x with
 | .agg cs => match agg with
  | some n => bif Nat.ble (off + n) cs.length then some (.agg ((cs.drop off).take n), st) else none
  | none => give st cs[off]?
 | _ => none
def Qj (sz : Nat) (x i : AV) (st : St) : R := match Q2j i with
 | some i => match x with
  | .list _ sz' xs => bif Nat.beq sz' sz then match xs[i]? with
   | some v => some (.pval v.cells, st)
   | none => none
   else none
  | .sobj o off len _ => match Q0 st.h o with
   | some (.cells _ sz' _ _) => bif Nat.blt i len && Nat.beq sz' sz then some (.pobj o (off + i * sz), st) else none
   | _ => none
  | _ => none
 | none => none
def Q4u (len sz : Nat) (p i : AV) (st : St) : R := match Q2j i with
 | some i => bif Nat.blt i len then match p with
  | .pobj o off => some (.pobj o (off + i * sz), st)
  | .pval cs => some (.pval (cs.drop (i * sz)), st)
  | _ => none
  else none
 | none => none
def Q1b (x i : AV) (st : St) : R := match Q2j i with
 | some i => match x with
  | .str l => match l[i]? with
   | some b => some (.int .u8 b.toNat, st)
   | none => none
  | _ => none
 | none => none
def Q3p (zero : AV) (ok : Bool) (r : Option AV) (st : St) : R :=
 some (bif ok then .tuple [r.getD zero, .bool r.isSome] else r.getD zero, st)
def Q2w (kk : KK) (zero : AV) (ok : Bool) (ks vs : List AV) (k : AV) (st : St) : R := bif Q38 kk k then match Q1e kk ks k with
 | some none => Q3p zero ok none st
 | some (some i) => match vs[i]? with
  | some v => Q3p zero ok (some v) st
  | none => none
 | none => none
 else none
def Q1w (kk : KK) (zero : AV) (ok : Bool) (m k : AV) (st : St) : R := match m with
 | .mnil => Q2w kk zero ok [] [] k st
 | .mobj o => match Q0 st.h o with
  | some (.map ks vs _ _) => Q2w kk zero ok ks vs k st
  | _ => none
 | .mval ks vs => Q2w kk zero ok ks vs k st
 | _ => none
def Q1s (kk : KK) (m k v : AV) (st : St) : R := match m with
 | .mobj o => bif Nat.blt o st.lo || !Q38 kk k then none else match Q0 st.h o with
  | some (.map ks vs bs clock) => match Q1e kk ks k with
   | some (some i) => some (.undef, { st with h := hset st.h o (.map ks (vs.set i v) bs clock) })
   | some none => some (.undef, { st with h := hset st.h o (.map (ks ++ [k]) (vs ++ [v]) (bs ++ [clock]) (clock + 1)) })
   | none => none
  | _ => none
 | _ => none
def Q5x (kk : KK) (zero m k : AV) (st : St) : R := match m with
 | .mobj o => bif Nat.blt o st.lo || !Q38 kk k then none else match Q0 st.h o with
  | some (.map ks vs bs clock) => match Q1e kk ks k with
   | some (some i) => match vs[i]?, bs[i]? with
    | some v, some b => some (.tuple [v, .int .i64 b], st)
    | _, _ => none
   | some none => some (.tuple [zero, .int .i64 clock], { st with h := hset st.h o (.map (ks ++ [k]) (vs ++ [zero]) (bs ++ [clock]) (clock + 1)) })
   | none => none
  | _ => none
 | _ => none
def Q59 : List Nat -> Nat -> Option Nat
 | [], _ => none
 | x :: bs, b => bif Nat.beq x b then some 0 else match Q59 bs b with
  | some i => some (i + 1)
  | none => none
def Q4m (m b v : AV) (st : St) : R := match Q2j b with
 | some b => match m with
  | .mobj o => bif Nat.blt o st.lo then none else match Q0 st.h o with
   | some (.map ks vs bs clock) => match Q59 bs b with
    | some i => some (.undef, { st with h := hset st.h o (.map ks (vs.set i v) bs clock) })
    | none => none
   | _ => none
  | _ => none
 | none => none
def Q5w (o : Nat) (m : AV) (st : St) : R := match m with
 | .mnil => Q0v (.pobj o 0) (newObj o (.iter none 0 [] 0) st)
 | .mobj x => match Q0 st.h x with
  | some (.map _ _ _ clock) => Q0v (.pobj o 0) (newObj o (.iter (some x) clock [] clock) st)
  | _ => none
 | _ => none
def Q7w (it : AV) (st : St) : R := match it with
 | .pobj i 0 => match Q0 st.h i with
  | some (.iter (some o) _ seen stepped) => match Q0 st.h o with
   | some (.map ks vs bs clock) => bif Nat.beq clock stepped then match seen.getLast? with
    | some b => match Q59 bs b with
     | some j => match ks[j]?, vs[j]? with
      | some k, some v => some (.tuple [k, v], st)
      | _, _ => none
     | none => none
    | none => none
    else none
   | _ => none
  | _ => none
 | _ => none
def Q3y (i : Nat) (x : AV) (st : St) : R := match x with
 | .tuple vs => give st vs[i]?
 | _ => none
def Q56 (x : AV) : Option Nat := match x with
 | .str l => some l.length
 | _ => none
def Q0k (x : AV) : Option Nat := match x with
 | .snil => some 0
 | .list _ _ xs => some xs.length
 | .sobj _ _ len _ => some len
 | _ => none
def Qc1 (h : Qc) (x : AV) : Option Nat := match x with
 | .mnil => some 0
 | .mobj o => match Q0 h o with
  | some (.map ks _ _ _) => some ks.length
  | _ => none
 | .mval ks _ => some ks.length
 | _ => none
def Qw (k : LK) (x : AV) (st : St) : R := match (match k with | .str => Q56 x | .slice => Q0k x | .map => Qc1 st.h x) with
 | some n => some (.int .i64 n, st)
 | none => none
def Q6o (x : AV) (st : St) : R := match x with
 | .snil => some (.int .i64 0, st)
 | .list true _ xs => some (.int .i64 xs.length, st)
 | .sobj _ _ _ (some c) => some (.int .i64 c, st)
 | _ => none
def Q8j (l : List AV) (st : St) : R := match l with
 | .int k x :: l => give st (Q9i k x l)
 | _ => none
def Q8k (l : List AV) (st : St) : R := match l with
 | .int k x :: l => give st (Q9j k x l)
 | _ => none
def Q0f (o ty sz bytes : Nat) (x y : AV) (st : St) : R := match y with
 | .str _ => none
 | y => match lenOf y with
  | some n => match Q01 st.h sz n y with
   | some new => Q08 o ty sz bytes x n new st
   | none => none
  | none => none
def Q55 (o ty : Nat) (x y : AV) (st : St) : R := match y with
 | .str l => Q08 o ty 1 1 x l.length (Q9q l) st
 | _ => none
def Q5y (sz : Nat) (d y : AV) (st : St) : R := match y with
 | .str _ => none
 | y => match lenOf y with
  | some b => match d with
   | .snil => some (.int .i64 0, st)
   | .sobj o off a _ => match Q01 st.h sz (Nat.min b a) y with
    | some cs => bif Nat.beq (Nat.min b a) 0 then some (.int .i64 0, st) else match Q0 st.h o with
     | some (.cells _ sz' _ _) => bif Nat.beq sz' sz then Q0v (.int .i64 (Nat.min b a)) (Q0m st o off cs) else none
     | _ => none
    | none => none
   | _ => none
  | none => none
def Q28 (zero : List AV) (x : AV) (st : St) : R := match x with
 | .snil => some (.tuple [], st)
 | .sobj o off len _ => bif Nat.beq len 0 then some (.tuple [], st) else match Q0 st.h o with
  | some (.cells _ sz _ _) => bif Nat.beq zero.length sz then Q0v (.tuple []) (Q0m st o off (Q0x zero len)) else none
  | _ => none
 | _ => none
def Q7u (ty n : Nat) (x : AV) (st : St) : R := match x with
 | .pnil => some (x, st)
 | .pobj o 0 => match Q0 st.h o with
  | some (.cells ty' _ cs false) => bif Nat.beq ty' ty && Nat.ble n cs.length then some (x, st) else none
  | _ => none
 | _ => none
def Q4l (x : AV) (st : St) : R := match x with
 | .snil => some (.pnil, st)
 | .sobj o off len _ => bif Nat.blt 0 len then some (.pobj o off, st) else none
 | _ => none
def Q5v (ty : Nat) (p n : AV) (st : St) : R := match Q2j n with
 | some n => bif Nat.beq n 0 then (match p with
   | .pnil | .pobj .. => some (.str [], st)
   | _ => none)
  else match p with
   | .pobj o off => bif Nat.blt o st.lo || !Nat.ble n room then none else match Q0 st.h o with
    | some (.cells ty' _ cs _) => bif Nat.beq ty' ty && Nat.ble (off + n) cs.length then
      match bytesOf ((cs.drop off).take n) with
      | some l => some (.str l, { st with h := hdel st.h o })
      | none => none
     else none
    | _ => none
   | _ => none
 | none => none
def Q2d (x c : AV) (st : St) : R := match x with
 | .str l => match byteOf c with
  | some c => some (.int .i64 (match l.findIdx? (fun b => b == c) with | some i => i | none => -1), st)
  | _ => none
 | _ => none
def Q5n (x y : AV) (st : St) : R := match x with
 | .str a => match y with
  | .str b => some (.int .i64 (if a == b then 0 else if Op.bytesLess a b then -1 else 1), st)
  | _ => none
 | _ => none
def Qhm (e : Ext) (args : List AV) (st : St) : R := match e with
 | .same => Q1p args fun x => some (x, st)
 | .indexByte => Q24 args fun x y => Q2d x y st
 | .compare => Q24 args fun x y => Q5n x y st
def b1 (l : List AV) (f : AV -> B) : B := match l with
 | [x] => f x
 | _ => none
def b2 (l : List AV) (f : AV -> AV -> B) : B := match l with
 | [x, y] => f x y
 | _ => none
def born (s : Nat) (k : AK) (args : List AV) : B :=
 match k with
 | .alloc id ty sz zero => some (.pobj (s + id) 0, .cells ty sz zero false)
 | .box id ty sz => b1 args fun x => Q0z (s + id) ty sz x
 | .buildSlice id ty sz len zero offs => Qz (s + id) ty sz len zero offs args
 | .convS2B id ty => b1 args fun x => Qaz (s + id) ty x
 | .mkMap id => some (.mobj (s + id), .map [] [] [] 0)
 | .mkSlice id ty sz bytes zero => b2 args fun l c => Q2n (s + id) ty sz bytes zero l c
 | _ => none
def step (s : Nat) (k : AK) (args : List AV) (st : St) : R :=
 match k with
 | .fail => none
 | .move => Q1p args fun x => some (x, st)
 | .pick => Qb0 args fun c a b => Q6z c a b st
 | .alloc id ty sz zero => Q53 (s + id) (born s (.alloc id ty sz zero) args) st
 | .box id ty sz => Q53 (s + id) (born s (.box id ty sz) args) st
 | .build zero places => give st ((Q00 zero places args).map .agg)
 | .buildSlice id ty sz len zero offs => Q53 (s + id) (born s (.buildSlice id ty sz len zero offs) args) st
 | .load agg => Q1p args fun p => give st (Q2x st.h agg p)
 | .store n => Q24 args fun p v => Q0n n p v st
 | .nilCheck => Q1p args fun x => Q1v x st
 | .bin op => Q24 args fun x y => give st (bin op x y)
 | .eq neg k => Q24 args fun x y => give st (Qar neg k x y)
 | .ifEq neg ts => Q24 args fun x y => Qbx neg ts x y st
 | .un op => Q1p args fun x => give st (un op x)
 | .convInt k => Q1p args fun x => Q4o k x st
 | .convStr => Q1p args fun x => Q4n x st
 | .convS2B id ty => Q53 (s + id) (born s (.convS2B id ty) args) st
 | .convB2S => Q1p args fun x => Q5m x st
 | .mkIface t => Q1p args fun x => some (.iface t x, st)
 | .mkFn f n => some (.fn f (args.take n) (args.drop n), st)
 | .mkMap id => Q53 (s + id) (born s (.mkMap id) args) st
 | .mkSlice id ty sz bytes zero => Q53 (s + id) (born s (.mkSlice id ty sz bytes zero) args) st
 | .sliceStr lo hi => Q41 lo hi args st
 | .slice sz lo hi mx => Q0o sz lo hi mx args st
 | .sliceArr len sz lo hi => Q4t len sz lo hi args st
 | .fieldAddr off => Q1p args fun p => Q1t off p st
 | .field off agg => Q1p args fun x => Q7v off agg x st
 | .indexAddr sz => Q24 args fun x i => Qj sz x i st
 | .indexArr len sz => Q24 args fun x i => Q4u len sz x i st
 | .indexStr => Q24 args fun x i => Q1b x i st
 | .lookup kk zero ok => Q24 args fun m k => Q1w kk zero ok m k st
 | .mapUpdate kk => Qb0 args fun m k v => Q1s kk m k v st
 | .mapEntry kk zero => Q24 args fun m k => Q5x kk zero m k st
 | .entryStore => Qb0 args fun m b v => Q4m m b v st
 | .rangeMap id => Q1p args fun m => Q5w (s + id) m st
 | .next => none
 | .entry => Q1p args fun it => Q7w it st
 | .extract i => Q1p args fun x => Q3y i x st
 | .len k => Q1p args fun x => Qw k x st
 | .cap => Q1p args fun x => Q6o x st
 | .min => Q8j args st
 | .max => Q8k args st
 | .append id ty sz bytes => Q24 args fun x y => Q0f (s + id) ty sz bytes x y st
 | .appendStr id ty => Q24 args fun x y => Q55 (s + id) ty x y st
 | .copy sz => Q24 args fun d y => Q5y sz d y st
 | .clear zero => Q1p args fun x => Q28 zero x st
 | .usPtr ty n => Q1p args fun x => Q7u ty n x st
 | .usData => Q1p args fun x => Q4l x st
 | .usString ty => Q24 args fun p n => Q5v ty p n st
 | .call _ => none
 | .callv => none
 | .invoke _ => none
 | .ext e => Qhm e args st
end Go.Am
end
section
namespace Go.Am
open Go
inductive Q1q where
 | tmp (t : Nat)
 | val (v : AV)
 deriving Inhabited
structure Q0q where
 dst : Option Nat
 guard : Option (Nat × Bool)
 k : AK
 args : List Q1q
 deriving Inhabited
inductive Qd where
 | skip
 | region (na : Nat) (ops : List Q0q)
 | draw (na : Nat) (ops : List (Nat × Q0q × List Nat))
 | seq (a b : Qd)
 | cond (c : Q1q) (a b : Qd)
 | block (id : Nat) (body : Qd)
 | loop (body : Qd)
 | exit (id : Nat)
 | ret
 | bad
 deriving Inhabited
inductive Q99 where
 | tmp (t : Nat)
 | cell (t : Nat) (agg : Option Nat)
 deriving Inhabited
inductive Q3f where
 | normal | exit (id : Nat) | ret
 deriving DecidableEq, Inhabited
inductive Pol where
 | keep | own | pure | sealed | sole
 deriving DecidableEq, Inhabited
structure AFn where
 results : List Q99
 pol : Pol
 body : Qd
 deriving Inhabited
structure Env where
 code : Nat -> Option AFn
 meth : Nat -> String -> Option Nat
 k : Nat
 hook : Nat -> Option (List AV -> Option AV)
inductive TS where
 | nil
 | node (v : AV) (l r : TS)
 deriving Inhabited
namespace TS
def get : TS -> Nat -> AV
 | nil, _ => .undef
 | node v l r, i => bif Nat.beq i 0 then v else bif Nat.beq (i % 2) 1 then l.get (i / 2) else r.get (i / 2 - 1)
def single (v : AV) : Nat -> Nat -> TS
 | 0, _ => .nil
 | n + 1, i => bif Nat.beq i 0 then .node v .nil .nil else bif Nat.beq (i % 2) 1 then .node .undef (single v n (i / 2)) .nil else .node .undef .nil (single v n (i / 2 - 1))
def set : TS -> Nat -> AV -> TS
 | nil, i, x => single x 16 i
 | node v l r, i, x => bif Nat.beq i 0 then .node x l r else bif Nat.beq (i % 2) 1 then .node v (l.set (i / 2) x) r else .node v l (r.set (i / 2 - 1) x)
def ofArgs : List AV -> Nat -> TS -> TS
 | [], _, t => t
 | v :: l, i, t => ofArgs l (i + 1) (t.set i v)
end TS
def ev (ts : TS) (o : Q1q) : AV := match o with
 | .tmp t => ts.get t
 | .val v => v
def evs (ts : TS) : List Q1q -> List AV
 | [] => []
 | o :: l => ev ts o :: evs ts l
def put (ts : TS) (d : Option Nat) (v : AV) : TS :=
 match d with
 | some d => ts.set d v
 | none => ts
def isBool (b : Bool) (v : AV) : Bool := match v with
 | .bool c => c == b
 | _ => false
def wanted (g : Option (Nat × Bool)) (ts : TS) : Bool :=
 match g with
 | none => true
 | some (t, b) => isBool b (ts.get t)
def Q47 (bs : List Nat) (since : Nat) (seen : List Nat) : List (Option Nat) :=
 let left := bs.filter fun b => !seen.contains b
 let old := left.filter (· < since)
 let new := left.filter (since <= ·)
 (if old.isEmpty then [none] else []) ++ (old ++ new).map some
def rows (sz : Nat) : Nat -> List AV -> List AV
 | 0, _ => []
 | n + 1, cs => (bif Nat.beq sz 1 then cs.headD .undef else .agg (cs.take sz)) :: rows sz n (cs.drop sz)
def thaws (f : AV -> Option AV) : List AV -> Option (List AV)
 | [] => some []
 | v :: l => match f v with
  | some v => match thaws f l with
   | some l => some (v :: l)
   | none => none
  | none => none
def thaw (c : Nat) (h : Qc) : Nat -> AV -> Option AV
 | 0, _ => none
 | n + 1, v =>
  bif v.old c then some v else
  match v with
  | .pobj o off =>
   match Q0 h o with
   | some (.cells _ _ cs _) => bif Nat.ble off cs.length then (match thaws (thaw c h n) (cs.drop off) with | some cs => some (.pval cs) | none => none) else none
   | _ => none
  | .sobj o off len cap =>
   match Q0 h o with
   | some (.cells _ sz cs _) =>
    bif Nat.blt 0 sz && Nat.ble (off + len * sz) cs.length then
     match thaws (thaw c h n) ((cs.drop off).take (len * sz)) with
     | some cs => some (.list (match cap with | some c => Nat.beq c len | none => false) sz (rows sz len cs))
     | none => none
    else none
   | _ => none
  | .mobj o =>
   match Q0 h o with
   | some (.map ks vs _ _) => match thaws (thaw c h n) ks with
    | some ks => match thaws (thaw c h n) vs with
     | some vs => some (.mval ks vs)
     | none => none
    | none => none
   | _ => none
  | .pval cs => match thaws (thaw c h n) cs with | some cs => some (.pval cs) | none => none
  | .list t sz xs => match thaws (thaw c h n) xs with | some xs => some (.list t sz xs) | none => none
  | .mval ks vs => match thaws (thaw c h n) ks with
   | some ks => match thaws (thaw c h n) vs with
    | some vs => some (.mval ks vs)
    | none => none
   | none => none
  | .fn f a b => match thaws (thaw c h n) a with
   | some a => match thaws (thaw c h n) b with
    | some b => some (.fn f a b)
    | none => none
   | none => none
  | .iface t v => match thaw c h n v with | some v => some (.iface t v) | none => none
  | .agg cs => match thaws (thaw c h n) cs with | some cs => some (.agg cs) | none => none
  | .tuple cs => match thaws (thaw c h n) cs with | some cs => some (.tuple cs) | none => none
  | _ => none
def Q0c : Nat := 64
section
variable (E : Env) (call : Nat -> List AV -> St -> M (AV × St))
def Qes (o i since : Nat) (seen : List Nat) (ks vs : List AV) (bs : List Nat) (clock : Nat) (st : St) (c : Option (Option Nat)) : M (AV × St) :=
 match c with
 | some none => .ret (.tuple [.bool false], st)
 | some (some b) => match Q59 bs b with
  | some e => match ks[e]?, vs[e]? with
   | some k, some v => .ret (.tuple [.bool true, k, v], { st with h := hset st.h i (.iter (some o) since (seen ++ [b]) clock) })
   | _, _ => .fail
  | none => .fail
 | none => .fail
def Q80 (args : List AV) (st : St) : M (AV × St) :=
 match args with
 | [.pobj i 0] => match Q0 st.h i with
  | some (.iter none _ _ _) => .ret (.tuple [.bool false], st)
  | some (.iter (some o) since seen stepped) =>
   bif Nat.blt i st.lo then .fail else
   match Q0 st.h o with
   | some (.map ks vs bs clock) =>
    bif !seen.isEmpty && !bs.isEmpty && bs.all (Nat.ble stepped) then .fail else
    .ask ((Q47 bs since seen).length - 1) fun j => Qes o i since seen ks vs bs clock st (Q47 bs since seen)[j]?
   | _ => .fail
  | _ => .fail
 | _ => .fail
def Q76 (args : List AV) (st : St) : M (AV × St) := match args with
 | .fn (.func f) a b :: l => call f (a ++ (l ++ b)) st
 | _ => .fail
def callMethod (name : String) (args : List AV) (st : St) : M (AV × St) := match args with
 | .iface t v :: l => match E.meth t name with
  | some f => call f (v :: l) st
  | none => .fail
 | _ => .fail
def aop (s : Nat) (k : AK) (args : List AV) (st : St) : M (AV × St) :=
 match k with
 | .next => Q80 args st
 | .call f => call f args st
 | .callv => Q76 call args st
 | .invoke name => callMethod E call name args st
 | k => M.ofOpt (step s k args st)
def Q31 (s : Nat) (o : Q0q) (ts : TS) (st : St) : M (TS × St) :=
 bif wanted o.guard ts then (aop E call s o.k (evs ts o.args) st).bind fun r => .ret (put ts o.dst r.1, r.2)
 else .ret (put ts o.dst .undef, st)
def Q23 (s : Nat) : List Q0q -> TS -> St -> M (TS × St)
 | [], ts, st => .ret (ts, st)
 | o :: l, ts, st => (Q31 E call s o ts st).bind fun r => Q23 s l r.1 r.2
abbrev Q4d := List (List Nat × AK × List AV × AV)
def Q3l (s : Nat) (i : Nat) : Q4d -> St -> Bool
 | [], _ => true
 | (js, k, args, v) :: p, st => (!js.any (Nat.beq i) || (match step s k args st with | some r => AV.beq v r.1 | none => false)) && Q3l s i p st
def pend (o : Q0q) (js : List Nat) (ts ts' : TS) (p : Q4d) : Q4d :=
 match js with
 | [] => p
 | js => bif wanted o.guard ts then match o.dst with
  | some d => (js, o.k, evs ts o.args, ts'.get d) :: p
  | none => p
  else p
def Q15 (s : Nat) : List (Nat × Q0q × List Nat) -> Q4d -> TS -> St -> M (TS × St)
 | [], _, ts, st => .ret (ts, st)
 | (i, o, js) :: l, p, ts, st =>
  (Q31 E call s o ts st).bind fun r => bif Q3l s i p r.2 then Q15 s l (pend o js ts r.1 p) r.1 r.2 else .fail
def Q0l (body : TS -> St -> M (Q3f × TS × St)) : Nat -> TS -> St -> M (Q3f × TS × St)
 | 0, _, _ => .fail
 | n + 1, ts, st => (body ts st).bind fun r => match r.1 with
  | .normal => Q0l body n r.2.1 r.2.2
  | _ => .ret r
def Qn : Qd -> TS -> St -> M (Q3f × TS × St)
 | .skip, ts, st => .ret (.normal, ts, st)
 | .region na ops, ts, st => (Q23 E call st.c ops ts { st with c := st.c + na }).bind fun r => .ret (.normal, r)
 | .draw na ops, ts, st => (Q15 E call st.c ops [] ts { st with c := st.c + na }).bind fun r => .ret (.normal, r)
 | .seq a b, ts, st => (Qn a ts st).bind fun r => match r.1 with
  | .normal => Qn b r.2.1 r.2.2
  | _ => .ret r
 | .cond c a b, ts, st => match ev ts c with
  | .bool t => bif t then Qn a ts st else Qn b ts st
  | _ => .fail
 | .block id a, ts, st => (Qn a ts st).bind fun r => match r.1 with
  | .exit i => .ret (bif Nat.beq i id then .normal else .exit i, r.2)
  | _ => .ret r
 | .loop a, ts, st => Q0l (Qn a) E.k ts st
 | .exit id, ts, st => .ret (.exit id, ts, st)
 | .ret, ts, st => .ret (.ret, ts, st)
 | .bad, _, _ => .fail
end
def Qcs (h : Qc) (ts : TS) (r : Q99) : Option AV := match r with
 | .tmp t => some (ts.get t)
 | .cell t agg => Q2x h agg (ts.get t)
def Q9 (h : Qc) (ts : TS) : List Q99 -> Option (List AV)
 | [] => some []
 | r :: l => match Qcs h ts r with
  | some v => match Q9 h ts l with
   | some l => some (v :: l)
   | none => none
  | none => none
def results (rs : List Q99) (h : Qc) (ts : TS) : Option AV :=
 match Q9 h ts rs with
 | some [v] => some v
 | some l => some (.tuple l)
 | none => none
def Qb (rs : List Q99) (r : Q3f × TS × St) : M (AV × St) :=
 match r.1 with
 | .exit _ => .fail
 | _ => match results rs r.2.2.h r.2.1 with
  | some v => .ret (v, r.2.2)
  | none => .fail
def Qt (c : Nat) (st : St) (r : AV × St) : M (AV × St) :=
 match thaw c r.2.h Q0c r.1 with
 | some v => .ret (v, st)
 | none => .fail
def Qe.old (c : Nat) : Qe -> Bool
 | .cells _ _ cs _ => AV.olds c cs
 | .map ks vs _ _ => AV.olds c ks && AV.olds c vs
 | .iter m _ _ _ => match m with
  | some o => Nat.blt o c
  | none => true
def Q2h (c : Nat) : Qc -> Qc
 | [] => []
 | (i, x) :: h => bif Nat.ble c i then Q2h c h else (i, x) :: Q2h c h
def holds (c : Nat) : Qc -> Bool
 | [] => true
 | (i, x) :: h => Nat.blt i c && Qe.old c x && holds c h
def Q3h (c : Nat) (r : AV × St) : M (AV × St) :=
 match thaw c r.2.h Q0c r.1 with
 | some v => bif holds c (Q2h c r.2.h) then .ret (v, { r.2 with h := Q2h c r.2.h, c := c }) else .fail
 | none => .fail
def Q12 (E : Env) (call : Nat -> List AV -> St -> M (AV × St)) (fn : AFn) (args : List AV) (st : St) : M (AV × St) :=
 bif Nat.ble args.length 1000 then (Qn E call fn.body (TS.ofArgs args 0 .nil) st).bind (Qb fn.results) else .fail
def M.leftmost {α : Type} : M α -> Option α
 | .ret a => some a
 | .fail => none
 | .ask _ k => (k 0).leftmost
def M.allB {α : Type} (f : α -> Bool) : M α -> Bool
 | .ret a => f a
 | .fail => false
 | .ask n k => (List.range (n + 1)).all fun i => (k i).allB f
def Q4s (st : St) (m : M (AV × St)) : M (AV × St) :=
 match m.leftmost with
 | some r => bif m.allB (fun r' => AV.beq r.1 r'.1) then .ret (r.1, st) else .fail
 | none => .fail
def Q6 (E : Env) : Nat -> Nat -> List AV -> St -> M (AV × St)
 | 0, _, _, _ => .fail
 | n + 1, f, args, st =>
  match E.hook f with
  | some g => match g args with
   | some v => .ret (v, st)
   | none => .fail
  | none => match E.code f with
   | none => .fail
   | some fn => match fn.pol with
    | .keep => Q12 E (Q6 E n) fn args st
    | .own => (Q12 E (Q6 E n) fn args st).bind (Q3h st.c)
    | .pure => (Q12 E (Q6 E n) fn args { st with lo := st.c }).bind (Qt st.c st)
    | .sole => Q4s st ((Q12 E (Q6 E n) fn args { st with lo := st.c }).bind (Qt st.c st))
    | .sealed => bif AV.olds 0 args then (Q12 E (Q6 E n) fn args ⟨[], 0, 0⟩).bind (Qt 0 st) else .fail
end Go.Am
end
