/- A part of the proof of beginningsTold (merged by a program). -/
import Derived.Test.YtehhlchbbdaipaaGreatDoorV
import Derived.Test.YtehhlchbbdaipaaGreatDoorB
import Derived.Test.YtehhlchbbdaipaaGreatDoorE
import Derived.Test.YtehhlchbbdaipaaGreatDoorC
namespace Go.Am
open Go
abbrev Aj:=List UInt8
def strs (l:List Aj):List AV:=l.map .str
@[simp] theorem DZ (l:List Aj):(strs l).length=l.length:=by simp[strs]
def idxOf (l:List Aj)(x:List UInt8):Int:=match l.findIdx? (·==x) with|some i=>i|none=>-1
theorem BI.JY {v:AV}{l:List Aj}{st:St}(h:BI v 1 (strs l)){i:Nat}(hi:i<l.length):Aa 1 v (.int .i64 i) st=some (.BC [.str l[i]],st):=by
 rw[h.idx (by simpa using hi)]; simp[strs,AV.cells]
theorem AR {h:Af}{o:Nat}{y x:Ai}(hx:AA h o=some x)(p:Nat):AA (Ab h o y) p=if o=p then some y else AA h p:=JD h o y (by rw[hx]; rfl) p
theorem Ue (h:Af)(o:Nat)(x y:Ai):Ab (Ab h o x) o y=Ab h o y:=by
 induction h with
 |nil=>rfl
 |cons p h ih=>
  obtain⟨i,z⟩:=p
  simp only[Ab,beq_eq,cond_eq_ite,decide_eq_true_eq]
  by_cases e:i=o
  ·simp[e,Ab,beq_eq]
  ·simp[e,Ab,beq_eq,ih]
theorem BX {st:St}{o off ty sz:Nat}{cs:List AV}{ext:Bool}{v:AV}(hf:AA st.h o=some (.cells ty sz cs ext))(hlo:st.lo<=o)(ho:off<cs.length)(hv:v.isTuple=false)(hc:v.cells=[v]) :
 Bc 1 (.AO o off) v st=some (.undef,{ st with h:=Ab st.h o (.cells ty sz (cs.set off v) ext) }):=by
 have h1:Nat.blt o st.lo=false:=by rw[blt_eq]; simp; omega
 have h2:Nat.ble (off+1) cs.length=true:=Nat.ble_eq_true_of_le (by omega)
 have h3:BM cs off [v]=cs.set off v:=by
  unfold BM
  rw[List.set_eq_take_append_cons_drop,if_pos ho]; rfl
 simp only[Bc,hv,hc,Bl,h1,hf,h2,h3,Cm,List.length_singleton,cond_true,cond_false,Bool.false_or]
 rfl
structure Ba where
 left:Aj
 right:List Aj
 level:Int
 deriving DecidableEq,Inhabited
structure AX where
 kinds:List Aj
 start:Aj
 rules:List Ba
 deriving DecidableEq,Inhabited
def Ob (v:AV)(r:Ba):Prop:=∃rv,v=.agg [.str r.left,rv,.int .i64 r.level]/\BI rv 1 (strs r.right)
inductive Bt:List AV->List Ba->Prop
 |nil:Bt [] []
 |cons {v:AV} {r:Ba} {l:List AV} {rs:List Ba} (h:Ob v r) (t:Bt l rs):Bt (v::l) (r::rs)
def BP (v:AV)(g:AX):Prop:=∃kv rv l,v=.agg [kv,.str g.start,rv]/\BI kv 1 (strs g.kinds)/\BI rv 3 l/\Bt l g.rules
theorem Bt.length {l:List AV}{rs:List Ba}(h:Bt l rs):l.length=rs.length:=by
 induction h with
 |nil=>rfl
 |cons _ _ ih=>simp[ih]
theorem Bt.get {l:List AV}{rs:List Ba}(h:Bt l rs):∀(i:Nat) (hi:i<rs.length),∃hl:i<l.length,Ob l[i] rs[i]:=by
 induction h with
 |nil=>intro i hi; simp at hi
 |cons h t ih=>
  intro i hi
  cases i with
  |zero=>exact⟨by simp,h⟩
  |succ i=>obtain⟨a,b⟩:=ih i (by simpa using hi); exact⟨by simpa using a,by simpa using b⟩
theorem Bt.append {a b:List AV}{r s:List Ba}(h:Bt a r)(k:Bt b s):Bt (a++b) (r++s):=by
 induction h with
 |nil=>exact k
 |cons h t ih=>exact .cons h ih
structure Ba.Small (r:Ba):Prop where
 left:r.left.length<=50
 right:r.right.length<=30
 names:∀s∈r.right,s.length<=50
 level:-9223372036854775808<=r.level/\r.level<9223372036854775808
structure AX.Small (g:AX):Prop where
 kinds:g.kinds.length<=10
 names:∀s∈g.kinds,s.length<=50
 start:g.start.length<=50
 many:g.rules.length<=12
 rules:∀r∈g.rules,r.Small
def bY:AV->Option (List Aj)
 |.AJ=>some []
 |.list _ 1 l=>strsOf l
 |_=>none
def Vv:AV->Option Ba
 |.agg [.str a,rv,.int .i64 n]=>match bY rv with
  |some r=>some ⟨a,r,n⟩
  |none=>none
 |_=>none
def PR:List AV->Option (List Ba)
 |[]=>some []
 |v::l=>match Vv v with
  |some r=>match PR l with
   |some rs=>some (r::rs)
   |none=>none
  |none=>none
def Rn:AV->Option AX
 |.agg [kv,.str s,.list _ 3 l]=>match bY kv with
  |some ks=>match PR l with
   |some rs=>some ⟨ks,s,rs⟩
   |none=>none
  |none=>none
 |_=>none
def LH:List AV->Option (List AX)
 |[]=>some []
 |v::l=>match Rn v with
  |some g=>match LH l with
   |some gs=>some (g::gs)
   |none=>none
  |none=>none
theorem UK:∀{l:List AV} {s:List Aj},strsOf l=some s->l=strs s
 |[],s,h=>by cases h; rfl
 |v::l,s,h=>by
  cases v <;> simp[strsOf] at h
  case str a=>
   split at h
   ·rename_i t ht
    cases h
    rw[UK ht]; rfl
   ·cases h
theorem YH {v:AV}{s:List Aj}(h:bY v=some s):BI v 1 (strs s):=by
 unfold bY at h
 split at h
 ·cases h; exact⟨.inl ⟨rfl,rfl⟩⟩
 ·rename_i t l; exact⟨.inr ⟨t,by rw[UK h]⟩⟩
 ·cases h
theorem aD {v:AV}{r:Ba}(h:Vv v=some r):Ob v r:=by
 unfold Vv at h
 split at h
 ·split at h
  ·rename_i hs; cases h; exact⟨_,rfl,YH hs⟩
  ·cases h
 ·cases h
theorem QE:∀{l:List AV} {rs:List Ba},PR l=some rs->Bt l rs
 |[],rs,h=>by cases h; exact .nil
 |v::l,rs,h=>by
  simp only[PR] at h
  split at h
  ·rename_i r hr
   split at h
   ·rename_i t ht
    cases h
    exact .cons (aD hr) (QE ht)
   ·cases h
  ·cases h
theorem aF {v:AV}{g:AX}(h:Rn v=some g):BP v g:=by
 unfold Rn at h
 split at h
 ·rename_i kv s t l
  split at h
  ·rename_i ks hk
   split at h
   ·rename_i rs hr
    cases h
    exact⟨kv,_,l,rfl,YH hk,⟨.inr ⟨t,rfl⟩⟩,QE hr⟩
   ·cases h
  ·cases h
 ·cases h
def OC (r:Ba):Bool:=decide (r.left.length<=50)&&decide (r.right.length<=29)&&r.right.all (fun s=>decide (s.length<=50))&&decide (-9223372036854775808<=r.level)&&decide (r.level<9223372036854775808)
def Js (g:AX):Bool:=decide (g.kinds.length<=9)&&g.kinds.all (fun s=>decide (s.length<=50))&&decide (g.start.length<=50)&&decide (g.rules.length<=11)&&decide (0<g.rules.length)&&g.rules.all OC
def M.Qb {α:Type}(f:α->Bool):M α->Bool
 |.ret a=>f a
 |.fail=>false
 |.ask n k=>(List.range (n+1)).all fun i=>(k i).Qb f
theorem M.Yc {α:Type}{f:α->Bool}:∀{m:M α},m.Qb f=true->m.all fun a=>f a=true
 |.ret a,h=>h
 |.fail,h=>by cases h
 |.ask n k,h=>fun i hi=>M.Yc (List.all_eq_true.1 h i (List.mem_range.2 (by omega)))
def MN (c:Nat)(t:AV->Bool)(r:AV × St):Bool:=match Bp c r.2.h Bu r.1 with
 |some v=>t v
 |none=>false
theorem LA {c:Nat}{t:AV->Bool}{m:M (AV × St)}{st:St}(h:m.Qb (MN c t)=true):(m.bind (BA c st)).all fun r=>t r.1=true/\r.2=st:=by
 rw[M.Jo]
 refine M.Jn (M.Yc h) fun r hr=>?_
 unfold MN at hr
 unfold BA
 split at hr
 ·rename_i v hv; rw[hv]; exact⟨hr,rfl⟩
 ·cases hr
def FZ:AV:=.agg [.list true 1 [.str [110,117,109],.str [112,108,117,115]],.str [101],.list true 3 [.agg [.str [101],.list true 1 [.str [101],.str [112,108,117,115],.str [110,117,109]],.int .i64 0],.agg [.str [101],.list true 1 [.str [110,117,109]],.int .i64 0]]]
def VH:Af:=[(0,.cells 29 3 FZ.cells false)]
def Lc:Af:=(1,.cells 9 1 [.str [110,117,109],.str [112,108,117,115],.str [110,117,109]] false)::VH
def Px:Af:=(2,.cells 9 1 [.str [110,117,109],.str [110,117,109]] false)::Lc
def VY (v:AV):Bool:=AV.beq v FZ
def PH (v:AV):Bool:=match v with|.tuple [w,.int .i64 n]=>(match Bq w with|some l=>l==2|none=>false)&&n==0|_=>false
def Sw (v:AV):Bool:=match v with|.tuple [.int .i64 m,.int .i64 n]=>decide (4<m)&&n==0|_=>false
def LC (v:AV):Bool:=match v with|.tuple [.bool b,.int .i64 m,.int .i64 n]=>b&&n==0|_=>false
def KF (v:AV):Bool:=match v with|.tuple [.int .i64 m,.int .i64 n]=>m==1&&n==0|_=>false
end Go.Am
