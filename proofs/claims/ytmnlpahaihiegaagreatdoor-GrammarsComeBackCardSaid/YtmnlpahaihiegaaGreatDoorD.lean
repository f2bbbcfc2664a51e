/- A part of the proof of grammarsComeBack (merged by a program). -/
import Derived.Test.YtmnlpahaihiegaaGreatDoorV
import Derived.Test.YtmnlpahaihiegaaGreatDoorB
import Derived.Test.YtmnlpahaihiegaaGreatDoorE
import Derived.Test.YtmnlpahaihiegaaGreatDoorC
namespace Go.Am
open Go
abbrev BB:=List UInt8
def strs (l:List BB):List AV:=l.map .str
@[simp] theorem UB (l:List BB):(strs l).length=l.length:=by simp[strs]
def idxOf (l:List BB)(x:List UInt8):Int:=match l.findIdx? (·==x) with|some i=>i|none=>-1
theorem Ci.Jr {v:AV}{l:List BB}{st:St}(h:Ci v 1 (strs l)){i:Nat}(hi:i<l.length):Ad 1 v (.int .i64 i) st=some (.BN [.str l[i]],st):=by
 rw[h.idx (by simpa using hi)]; simp[strs,AV.cells]
theorem AY {h:Heap}{o:Nat}{y x:Al}(hx:AA h o=some x)(p:Nat):AA (Aa h o y) p=if o=p then some y else AA h p:=Fa h o y (by rw[hx]; rfl) p
theorem OX (h:Heap)(o:Nat)(x y:Al):Aa (Aa h o x) o y=Aa h o y:=by
 induction h with
 |nil=>rfl
 |cons p h ih=>
  obtain⟨i,z⟩:=p
  simp only[Aa,beq_eq,cond_eq_ite,decide_eq_true_eq]
  by_cases e:i=o
  ·simp[e,Aa,beq_eq]
  ·simp[e,Aa,beq_eq,ih]
theorem Cr {st:St}{o off ty sz:Nat}{cs:List AV}{ext:Bool}{v:AV}(hf:AA st.h o=some (.cells ty sz cs ext))(hlo:st.lo<=o)(ho:off<cs.length)(hv:v.isTuple=false)(hc:v.cells=[v]) :
 BJ 1 (.AO o off) v st=some (.undef,{ st with h:=Aa st.h o (.cells ty sz (cs.set off v) ext) }):=by
 have h1:Nat.blt o st.lo=false:=by rw[blt_eq]; simp; omega
 have h2:Nat.ble (off+1) cs.length=true:=Nat.ble_eq_true_of_le (by omega)
 have h3:BS cs off [v]=cs.set off v:=by
  unfold BS
  rw[List.set_eq_take_append_cons_drop,if_pos ho]; rfl
 simp only[BJ,hv,hc,BI,h1,hf,h2,h3,CO,List.length_singleton,cond_true,cond_false,Bool.false_or]
 rfl
structure Bf where
 left:BB
 right:List BB
 level:Int
 deriving DecidableEq,Inhabited
structure Ak where
 kinds:List BB
 start:BB
 rules:List Bf
 deriving DecidableEq,Inhabited
def Mx (v:AV)(r:Bf):Prop:=∃rv,v=.agg [.str r.left,rv,.int .i64 r.level]/\Ci rv 1 (strs r.right)
inductive Bo:List AV->List Bf->Prop
 |nil:Bo [] []
 |cons {v:AV} {r:Bf} {l:List AV} {rs:List Bf} (h:Mx v r) (t:Bo l rs):Bo (v::l) (r::rs)
def Bl (v:AV)(g:Ak):Prop:=∃kv rv l,v=.agg [kv,.str g.start,rv]/\Ci kv 1 (strs g.kinds)/\Ci rv 3 l/\Bo l g.rules
theorem Bo.length {l:List AV}{rs:List Bf}(h:Bo l rs):l.length=rs.length:=by
 induction h with
 |nil=>rfl
 |cons _ _ ih=>simp[ih]
theorem Bo.get {l:List AV}{rs:List Bf}(h:Bo l rs):∀(i:Nat) (hi:i<rs.length),∃hl:i<l.length,Mx l[i] rs[i]:=by
 induction h with
 |nil=>intro i hi; simp at hi
 |cons h t ih=>
  intro i hi
  cases i with
  |zero=>exact⟨by simp,h⟩
  |succ i=>obtain⟨a,b⟩:=ih i (by simpa using hi); exact⟨by simpa using a,by simpa using b⟩
theorem Bo.append {a b:List AV}{r s:List Bf}(h:Bo a r)(k:Bo b s):Bo (a++b) (r++s):=by
 induction h with
 |nil=>exact k
 |cons h t ih=>exact .cons h ih
structure Bf.Small (r:Bf):Prop where
 left:r.left.length<=50
 right:r.right.length<=30
 names:∀s∈r.right,s.length<=50
 level:-9223372036854775808<=r.level/\r.level<9223372036854775808
structure Ak.Small (g:Ak):Prop where
 kinds:g.kinds.length<=10
 names:∀s∈g.kinds,s.length<=50
 start:g.start.length<=50
 many:g.rules.length<=12
 rules:∀r∈g.rules,r.Small
structure Bf.GA (r:Bf):Prop where
 left:r.left.length<=30000
 right:r.right.length<=30000
 names:∀s∈r.right,s.length<=30000
 level:-9223372036854775808<=r.level/\r.level<9223372036854775808
structure Ak.GA (g:Ak):Prop where
 kinds:g.kinds.length<=30000
 names:∀s∈g.kinds,s.length<=30000
 start:g.start.length<=30000
 many:g.rules.length<=30000
 rules:∀r∈g.rules,r.GA
theorem Ak.Small.wide {g:Ak}(h:g.Small):g.GA:=
 ⟨Nat.le_trans h.kinds (by omega),fun s hs=>Nat.le_trans (h.names s hs) (by omega),Nat.le_trans h.start (by omega),Nat.le_trans h.many (by omega),fun r hr=>⟨Nat.le_trans (h.rules r hr).left (by omega),Nat.le_trans (h.rules r hr).right (by omega),fun s hs=>Nat.le_trans ((h.rules r hr).names s hs) (by omega),(h.rules r hr).level⟩⟩
def YI:AV->Option (List BB)
 |.AB=>some []
 |.list _ 1 l=>strsOf l
 |_=>none
def TY:AV->Option Bf
 |.agg [.str a,rv,.int .i64 n]=>match YI rv with
  |some r=>some ⟨a,r,n⟩
  |none=>none
 |_=>none
def Nj:List AV->Option (List Bf)
 |[]=>some []
 |v::l=>match TY v with
  |some r=>match Nj l with
   |some rs=>some (r::rs)
   |none=>none
  |none=>none
def Pm:AV->Option Ak
 |.agg [kv,.str s,.list _ 3 l]=>match YI kv with
  |some ks=>match Nj l with
   |some rs=>some ⟨ks,s,rs⟩
   |none=>none
  |none=>none
 |_=>none
def KV:List AV->Option (List Ak)
 |[]=>some []
 |v::l=>match Pm v with
  |some g=>match KV l with
   |some gs=>some (g::gs)
   |none=>none
  |none=>none
theorem Rp:∀{l:List AV} {s:List BB},strsOf l=some s->l=strs s
 |[],s,h=>by cases h; rfl
 |v::l,s,h=>by
  cases v <;> simp[strsOf] at h
  case str a=>
   split at h
   ·rename_i t ht
    cases h
    rw[Rp ht]; rfl
   ·cases h
theorem VX {v:AV}{s:List BB}(h:YI v=some s):Ci v 1 (strs s):=by
 unfold YI at h
 split at h
 ·cases h; exact⟨.inl ⟨rfl,rfl⟩⟩
 ·rename_i t l; exact⟨.inr ⟨t,by rw[Rp h]⟩⟩
 ·cases h
theorem XT {v:AV}{r:Bf}(h:TY v=some r):Mx v r:=by
 unfold TY at h
 split at h
 ·split at h
  ·rename_i hs; cases h; exact⟨_,rfl,VX hs⟩
  ·cases h
 ·cases h
theorem PK:∀{l:List AV} {rs:List Bf},Nj l=some rs->Bo l rs
 |[],rs,h=>by cases h; exact .nil
 |v::l,rs,h=>by
  simp only[Nj] at h
  split at h
  ·rename_i r hr
   split at h
   ·rename_i t ht
    cases h
    exact .cons (XT hr) (PK ht)
   ·cases h
  ·cases h
theorem XU {v:AV}{g:Ak}(h:Pm v=some g):Bl v g:=by
 unfold Pm at h
 split at h
 ·rename_i kv s t l
  split at h
  ·rename_i ks hk
   split at h
   ·rename_i rs hr
    cases h
    exact⟨kv,_,l,rfl,VX hk,⟨.inr ⟨t,rfl⟩⟩,PK hr⟩
   ·cases h
  ·cases h
 ·cases h
def Md (r:Bf):Bool:=decide (r.left.length<=50)&&decide (r.right.length<=29)&&r.right.all (fun s=>decide (s.length<=50))&&decide (-9223372036854775808<=r.level)&&decide (r.level<9223372036854775808)
def JJ (g:Ak):Bool:=decide (g.kinds.length<=9)&&g.kinds.all (fun s=>decide (s.length<=50))&&decide (g.start.length<=50)&&decide (g.rules.length<=11)&&decide (0<g.rules.length)&&g.rules.all Md
def M.Mv {α:Type}(f:α->Bool):M α->Bool
 |.ret a=>f a
 |.fail=>false
 |.ask n k=>(List.range (n+1)).all fun i=>(k i).Mv f
theorem M.Vr {α:Type}{f:α->Bool}:∀{m:M α},m.Mv f=true->m.all fun a=>f a=true
 |.ret a,h=>h
 |.fail,h=>by cases h
 |.ask n k,h=>fun i hi=>M.Vr (List.all_eq_true.1 h i (List.mem_range.2 (by omega)))
def Je (c:Nat)(t:AV->Bool)(r:AV × St):Bool:=match Cf c r.2.h CV r.1 with
 |some v=>t v
 |none=>false
theorem JB {c:Nat}{t:AV->Bool}{m:M (AV × St)}{st:St}(h:m.Mv (Je c t)=true):(m.bind (Bn c st)).all fun r=>t r.1=true/\r.2=st:=by
 rw[M.Oh]
 refine M.Dt (M.Vr h) fun r hr=>?_
 unfold Je at hr
 unfold Bn
 split at hr
 ·rename_i v hv; rw[hv]; exact⟨hr,rfl⟩
 ·cases hr
def Lx (v:AV):Bool:=match v with|.tuple [w,.int .i64 n]=>(match Bu w with|some l=>l==2|none=>false)&&n==0|_=>false
def OV (v:AV):Bool:=match v with|.tuple [.int .i64 m,.int .i64 n]=>decide (4<m)&&n==0|_=>false
def JD (v:AV):Bool:=match v with|.tuple [.bool b,.int .i64 m,.int .i64 n]=>b&&n==0|_=>false
def Hu (v:AV):Bool:=match v with|.tuple [.int .i64 m,.int .i64 n]=>m==1&&n==0|_=>false
def kN:List UInt8:=[110,117,109]
def kP:List UInt8:=[112,108,117,115]
def kE:List UInt8:=[101]
def RP:Heap:=[(4,.cells 29 3 [.AU 0 0 2 (some 2),.str kE,.AU 3 0 2 (some 2)] false),(3,.cells 47 3 [.str kE,.AU 1 0 3 (some 3),.int .i64 0,.str kE,.AU 2 0 1 (some 1),.int .i64 0] false),(2,.cells 9 1 [.str kN] false),(1,.cells 9 1 [.str kE,.str kP,.str kN] false),(0,.cells 9 1 [.str kN,.str kP] false)]
def rG:AV:=.agg [.AU 0 0 2 (some 2),.str kE,.AU 3 0 2 (some 2)]
def aA:Heap:=(5,.cells 9 1 [.str kN,.str kP,.str kN] false)::RP
def ZE:Heap:=(6,.cells 9 1 [.str kN,.str kN] false)::aA
def YE:Heap:=(7,.cells 84 3 [.str kN,.str [],.str [49]] false)::ZE
def rT:AV:=.agg [.int .i64 1,.str [],.str [],.str [],.list false 5 [.agg [.int .i64 (-1),.str kN,.str [],.str [49],.AB]]]
def ky:Heap:=(8,.cells 87 5 rT.cells false)::YE
def VE:Heap:=(9,.cells 84 3 [.str kN,.str [],.str [49]] false)::ky
def Nb (v:AV):Bool:=AV.beq v (.tuple [rT,.int .i64 0,.int .i64 0])
def Na (v:AV):Bool:=AV.beq v (.tuple [.agg [.int .i64 1,.int .i64 1],.int .i64 0])
end Go.Am
