/- A part of tablesStay. -/
import Derived.Test.YthnghmpbgomacaaGreatDoorV
import Derived.Test.YthnghmpbgomacaaGreatDoorE
import Derived.Test.YthnghmpbgomacaaGreatDoorC
set_option exponentiation.threshold 99999
namespace Go.Am
open Go
abbrev Bz:=List UInt8
def Bf(l:List Bz):List AV:=l.map .str
@[simp] theorem Gb(l:List Bz):(Bf l).length=l.length:=by simp[Bf]
def idxOf(l:List Bz)(x:List UInt8):Int:=match l.findIdx? (·==x) with|some i=>i|none=>-1
theorem Co.WB{v:AV}{l:List Bz}{st:St}(h:Co v 1 (Bf l)){i:Nat}(a:i<l.length):AY 1 v (.int .i64 i) st=some (.CB [.str l[i]],st):=by rw[h.idx (by simpa using a)];simp[Bf,AV.cells]
theorem Ag{h:Aa}{o:Nat}{y x:BJ}(a:AA h o=some x)(p:Nat):AA (Ah h o y) p=if o=p then some y else AA h p:=JU h o y (by rw[a];rfl) p
theorem WC(h:Aa)(o:Nat)(x y:BJ):Ah (Ah h o x) o y=Ah h o y:=by
 induction h with
 |nil=>rfl
 |cons p h a=>
  obtain⟨i,z⟩:=p;simp only[Ah,beq_eq,Ad,Aw];by_cases e:i=o
  ·simp[e,Ah]
  ·simp[e,Ah,beq_eq,a]
theorem DZ{st:St}{o off ty sz:Nat}{cs:List AV}{ext:Bool}{v:AV}(a:AA st.h o=some (.cells ty sz cs ext))(c:st.lo<=o)(b:off<cs.length)(d:v.isTuple=false)(i:v.cells=[v]) :
 BM 1 (.AL o off) v st=some (.undef,{ st with h:=Ah st.h o (.cells ty sz (cs.set off v) ext) }):=by
 have f:Nat.blt o st.lo=false:=by rw[blt_eq];simp;omega
 have e:Nat.ble (off+1) cs.length=true:=Dv (by omega);have g:Bl cs off [v]=cs.set off v:=by unfold Bl;rw[NY,AX b];rfl
 simp only[BM,d,i,CO,f,a,e,g,Fs,Fq,Ba,Bj,Bool.false_or];rfl
end Go.Am
namespace Go.Am
 attribute [local irreducible] bigK
open Go
theorem FX{m:Nat}(h:m<1000000):m<E.k:=
 Nat.lt_trans h (by
  show 1000000<bigK
  unfold bigK
  exact Bt (by decide:1000000<2^20) (TB (by omega) (by omega)))
end Go.Am
namespace Go.Am
open Go
structure Dw where
 left:Bz
 right:List Bz
 level:Int
 deriving DecidableEq,Inhabited
structure Ac where
 Ae:List Bz
 Ai:Bz
 AP:List Dw
 deriving DecidableEq,Inhabited
def UK(v:AV)(r:Dw):Prop:=∃rv,v=.agg [.str r.left,rv,.int .i64 r.level]/\Co rv 1 (Bf r.right)
inductive Gg:List AV->List Dw->Prop
 |nil:Gg [] []
 |cons {v:AV} {r:Dw} {l:List AV} {rs:List Dw} (h:UK v r) (t:Gg l rs):Gg (v::l) (r::rs)
def GD(v:AV)(g:Ac):Prop:=∃kv rv l,v=.agg [kv,.str g.Ai,rv]/\Co kv 1 (Bf g.Ae)/\Co rv 3 l/\Gg l g.AP
theorem Gg.length{l:List AV}{rs:List Dw}(h:Gg l rs):l.length=rs.length:=by
 induction h with
 |nil=>rfl
 |cons _ _ a=>simp[a]
theorem Gg.get{l:List AV}{d:List Dw}(h:Gg l d):∀(i:Nat) (c:i<d.length),∃f:i<l.length,UK l[i] d[i]:=by
 induction h with
 |nil=>intro i c;simp at c
 |cons h t e=>
  intro i c;cases i with
  |zero=>exact⟨by simp,h⟩
  |succ i=>obtain⟨a,b⟩:=e i (by simpa using c);exact⟨by simpa using a,by simpa using b⟩
structure Dw.Small (r:Dw):Prop where
 left:r.left.length<=50
 right:r.right.length<=30
 AB:∀s∈r.right,s.length<=50
 level:-9223372036854775808<=r.level/\r.level<9223372036854775808
structure Ac.Small (g:Ac):Prop where
 Ae:g.Ae.length<=10
 AB:∀s∈g.Ae,s.length<=50
 Ai:g.Ai.length<=50
 many:g.AP.length<=12
 AP:∀r∈g.AP,r.Small
 few:g.Ae.length+g.AP.length<=12
structure Dw.We (r:Dw):Prop where
 left:r.left.length<=30000
 right:r.right.length<=30000
 AB:∀s∈r.right,s.length<=30000
 level:-9223372036854775808<=r.level/\r.level<9223372036854775808
structure Ac.We (g:Ac):Prop where
 Ae:g.Ae.length<=30000
 AB:∀s∈g.Ae,s.length<=30000
 Ai:g.Ai.length<=30000
 many:g.AP.length<=30000
 AP:∀r∈g.AP,r.We
theorem Ac.Small.wide{g:Ac}(h:g.Small):g.We:=
 ⟨DV h.Ae (by omega),fun s b=>DV (h.AB s b) (by omega),DV h.Ai (by omega),DV h.many (by omega),fun r a=>⟨DV (h.AP r a).left (by omega),DV (h.AP r a).right (by omega),fun s b=>DV ((h.AP r a).AB s b) (by omega),(h.AP r a).level⟩⟩
def qU:AV->Option (List Bz)
 |.AO=>some []
 |.list _ 1 l=>strsOf l
 |_=>none
def dh:AV->Option Dw
 |.agg [.str a,rv,.int .i64 n]=>match qU rv with
  |some r=>some ⟨a,r,n⟩
  |none=>none
 |_=>none
def VA:List AV->Option (List Dw)
 |[]=>some []
 |v::l=>match dh v with
  |some r=>match VA l with
   |some rs=>some (r::rs)
   |none=>none
  |none=>none
def Xh:AV->Option Ac
 |.agg [kv,.str s,.list _ 3 l]=>match qU kv with
  |some ks=>match VA l with
   |some rs=>some ⟨ks,s,rs⟩
   |none=>none
  |none=>none
 |_=>none
def Oj:List AV->Option (List Ac)
 |[]=>some []
 |v::l=>match Xh v with
  |some g=>match Oj l with
   |some gs=>some (g::gs)
   |none=>none
  |none=>none
theorem aJ:∀{l:List AV} {s:List Bz},strsOf l=some s->l=Bf s
 |[],s,h=>by cases h;rfl
 |v::l,s,h=>by
  cases v<;>simp[strsOf]at h;case str a=>
   split at h
   ·rename_i t b;cases h;rw[aJ b];rfl
   ·cases h
theorem jU{v:AV}{s:List Bz}(h:qU v=some s):Co v 1 (Bf s):=by
 unfold qU at h;split at h
 ·cases h;exact⟨.inl ⟨rfl,rfl⟩⟩
 ·rename_i t l;exact⟨.inr ⟨t,by rw[aJ h]⟩⟩
 ·cases h
theorem oC{v:AV}{r:Dw}(h:dh v=some r):UK v r:=by
 unfold dh at h;split at h
 ·split at h
  ·rename_i a;cases h;exact⟨_,rfl,jU a⟩
  ·cases h
 ·cases h
theorem XA:∀{l:List AV} {a:List Dw},VA l=some a->Gg l a
 |[],a,h=>by cases h;exact .nil
 |v::l,a,h=>by
  simp only[VA]at h;split at h
  ·rename_i r b;split at h
   ·rename_i t c;cases h;exact .cons (oC b) (XA c)
   ·cases h
  ·cases h
theorem oD{v:AV}{g:Ac}(h:Xh v=some g):GD v g:=by
 unfold Xh at h;split at h
 ·rename_i c s t l;split at h
  ·rename_i e a;split at h
   ·rename_i d b;cases h;exact⟨c,_,l,rfl,jU a,⟨.inr ⟨t,rfl⟩⟩,XA b⟩
   ·cases h
  ·cases h
 ·cases h
def Tk(r:Dw):Bool:=decide (r.left.length<=50)&&decide (r.right.length<=29)&&r.right.all (fun s=>decide (s.length<=50))&&decide (-9223372036854775808<=r.level)&&decide (r.level<9223372036854775808)
def OZ(g:Ac):Bool:=decide (g.Ae.length<=9)&&g.Ae.all (fun s=>decide (s.length<=50))&&decide (g.Ai.length<=50)&&decide (g.AP.length<=11)&&decide (0<g.AP.length)&&decide (g.Ae.length+g.AP.length<=11)&&g.AP.all Tk
def M.UH{α:Type}(f:α->Bool):M α->Bool
 |.ret a=>f a
 |.fail=>false
 |.ask n k=>(List.range (n+1)).all fun i=>(k i).UH f
theorem M.kF{α:Type}{f:α->Bool}:∀{m:M α},m.UH f=true->m.all fun a=>f a=true
 |.ret a,h=>h
 |.fail,h=>by cases h
 |.ask n k,h=>fun i b=>M.kF (Fj.1 h i (Gd.2 (by omega)))
def PK(c:Nat)(t:AV->Bool)(r:AV×St):Bool:=match Ce c r.2.h Ck r.1 with
 |some v=>t v
 |none=>false
theorem Nz{c:Nat}{t:AV->Bool}{m:M (AV×St)}{b:St}(h:m.UH (PK c t)=true):(m.bind (BU c b)).all fun r=>t r.1=true/\r.2=b:=by
 rw[M.Jo];refine M.GU (M.kF h) fun r a=>?_;unfold PK at a;unfold BU;split at a
 ·rename_i v d;rw[d];exact⟨a,rfl⟩
 ·cases a
def Sr(v:AV):Bool:=match v with|.tuple [w,.int .i64 n]=>(match CV w with|some l=>l==2|none=>false)&&n==0|_=>false
def Vx(v:AV):Bool:=match v with|.tuple [.int .i64 m,.int .i64 n]=>decide (4<m)&&n==0|_=>false
def OA(v:AV):Bool:=match v with|.tuple [.bool b,.int .i64 m,.int .i64 n]=>b&&n==0|_=>false
def Ml(v:AV):Bool:=match v with|.tuple [.int .i64 m,.int .i64 n]=>m==1&&n==0|_=>false
def kN:List UInt8:=[110,117,109]
def kP:List UInt8:=[112,108,117,115]
def kE:List UInt8:=[101]
def Zj:Aa:=[(4,.cells 29 3 [.AU 0 0 2 (some 2),.str kE,.AU 3 0 2 (some 2)] false),(3,.cells 63 3 [.str kE,.AU 1 0 3 (some 3),.int .i64 0,.str kE,.AU 2 0 1 (some 1),.int .i64 0] false),(2,.cells 9 1 [.str kN] false),(1,.cells 9 1 [.str kE,.str kP,.str kN] false),(0,.cells 9 1 [.str kN,.str kP] false)]
def rG:AV:=.agg [.AU 0 0 2 (some 2),.str kE,.AU 3 0 2 (some 2)]
def vP:Aa:=(5,.cells 9 1 [.str kN,.str kP,.str kN] false)::Zj
def vO:Aa:=(6,.cells 9 1 [.str kN,.str kN] false)::vP
def rE:Aa:=(7,.cells 99 3 [.str kN,.str [],.str [49]] false)::vO
def rT:AV:=.agg [.int .i64 1,.str [],.str [],.str [],.list false 5 [.agg [.int .i64 (-1),.str kN,.str [],.str [49],.AO]]]
def rH8:Aa:=(8,.cells 102 5 rT.cells false)::rE
def kz:Aa:=(9,.cells 99 3 [.str kN,.str [],.str [49]] false)::rH8
def Us(v:AV):Bool:=AV.beq v (.tuple [rT,.int .i64 0,.int .i64 0])
def Ur(v:AV):Bool:=AV.beq v (.tuple [.agg [.int .i64 1,.int .i64 1],.int .i64 0])
end Go.Am
