/- A part of the proof of grammarTexts (merged by a program). -/
import Derived.Test.YtehhlchbbdaipaaGreatDoorV
import Derived.Test.YtehhlchbbdaipaaGreatDoorB
import Derived.Test.YtehhlchbbdaipaaGreatDoorE
import Derived.Test.YtehhlchbbdaipaaGreatDoorC
namespace Go.Am
open Go
abbrev Ay:=List UInt8
def strs (l:List Ay):List AV:=l.map .str
@[simp] theorem TU (l:List Ay):(strs l).length=l.length:=by simp[strs]
def idxOf (l:List Ay)(x:List UInt8):Int:=match l.findIdx? (·==x) with|some i=>i|none=>-1
theorem Ce.Je {v:AV}{l:List Ay}{st:St}(h:Ce v 1 (strs l)){i:Nat}(hi:i<l.length):AU 1 v (.int .i64 i) st=some (.BA [.str l[i]],st):=by
 rw[h.idx (by simpa using hi)]; simp[strs,AV.cells]
theorem AX {h:Heap}{o:Nat}{y x:Ai}(hx:AA h o=some x)(p:Nat):AA (Aa h o y) p=if o=p then some y else AA h p:=Hq h o y (by rw[hx]; rfl) p
theorem OB (h:Heap)(o:Nat)(x y:Ai):Aa (Aa h o x) o y=Aa h o y:=by
 induction h with
 |nil=>rfl
 |cons p h ih=>
  obtain⟨i,z⟩:=p
  simp only[Aa,beq_eq,cond_eq_ite,decide_eq_true_eq]
  by_cases e:i=o
  ·simp[e,Aa,beq_eq]
  ·simp[e,Aa,beq_eq,ih]
theorem Cu {st:St}{o off ty sz:Nat}{cs:List AV}{ext:Bool}{v:AV}(hf:AA st.h o=some (.cells ty sz cs ext))(hlo:st.lo<=o)(ho:off<cs.length)(hv:v.isTuple=false)(hc:v.cells=[v]) :
 BH 1 (.AO o off) v st=some (.undef,{ st with h:=Aa st.h o (.cells ty sz (cs.set off v) ext) }):=by
 have h1:Nat.blt o st.lo=false:=by rw[blt_eq]; simp; omega
 have h2:Nat.ble (off+1) cs.length=true:=Nat.ble_eq_true_of_le (by omega)
 have h3:BM cs off [v]=cs.set off v:=by
  unfold BM
  rw[List.set_eq_take_append_cons_drop,if_pos ho]; rfl
 simp only[BH,hv,hc,Be,h1,hf,h2,h3,CQ,List.length_singleton,cond_true,cond_false,Bool.false_or]
 rfl
structure Bw where
 left:Ay
 right:List Ay
 level:Int
 deriving DecidableEq,Inhabited
structure Aj where
 kinds:List Ay
 start:Ay
 rules:List Bw
 deriving DecidableEq,Inhabited
def Mj (v:AV)(r:Bw):Prop:=∃rv,v=.agg [.str r.left,rv,.int .i64 r.level]/\Ce rv 1 (strs r.right)
inductive Bg:List AV->List Bw->Prop
 |nil:Bg [] []
 |cons {v:AV} {r:Bw} {l:List AV} {rs:List Bw} (h:Mj v r) (t:Bg l rs):Bg (v::l) (r::rs)
def Bo (v:AV)(g:Aj):Prop:=∃kv rv l,v=.agg [kv,.str g.start,rv]/\Ce kv 1 (strs g.kinds)/\Ce rv 3 l/\Bg l g.rules
theorem Bg.length {l:List AV}{rs:List Bw}(h:Bg l rs):l.length=rs.length:=by
 induction h with
 |nil=>rfl
 |cons _ _ ih=>simp[ih]
theorem Bg.get {l:List AV}{rs:List Bw}(h:Bg l rs):∀(i:Nat) (hi:i<rs.length),∃hl:i<l.length,Mj l[i] rs[i]:=by
 induction h with
 |nil=>intro i hi; simp at hi
 |cons h t ih=>
  intro i hi
  cases i with
  |zero=>exact⟨by simp,h⟩
  |succ i=>obtain⟨a,b⟩:=ih i (by simpa using hi); exact⟨by simpa using a,by simpa using b⟩
theorem Bg.append {a b:List AV}{r s:List Bw}(h:Bg a r)(k:Bg b s):Bg (a++b) (r++s):=by
 induction h with
 |nil=>exact k
 |cons h t ih=>exact .cons h ih
structure Bw.Small (r:Bw):Prop where
 left:r.left.length<=50
 right:r.right.length<=30
 names:∀s∈r.right,s.length<=50
 level:-9223372036854775808<=r.level/\r.level<9223372036854775808
structure Aj.Small (g:Aj):Prop where
 kinds:g.kinds.length<=10
 names:∀s∈g.kinds,s.length<=50
 start:g.start.length<=50
 many:g.rules.length<=12
 rules:∀r∈g.rules,r.Small
structure Bw.FP (r:Bw):Prop where
 left:r.left.length<=30000
 right:r.right.length<=30000
 names:∀s∈r.right,s.length<=30000
 level:-9223372036854775808<=r.level/\r.level<9223372036854775808
structure Aj.FP (g:Aj):Prop where
 kinds:g.kinds.length<=30000
 names:∀s∈g.kinds,s.length<=30000
 start:g.start.length<=30000
 many:g.rules.length<=30000
 rules:∀r∈g.rules,r.FP
theorem Aj.Small.wide {g:Aj}(h:g.Small):g.FP:=
 ⟨Nat.le_trans h.kinds (by omega),fun s hs=>Nat.le_trans (h.names s hs) (by omega),Nat.le_trans h.start (by omega),Nat.le_trans h.many (by omega),fun r hr=>⟨Nat.le_trans (h.rules r hr).left (by omega),Nat.le_trans (h.rules r hr).right (by omega),fun s hs=>Nat.le_trans ((h.rules r hr).names s hs) (by omega),(h.rules r hr).level⟩⟩
def XV:AV->Option (List Ay)
 |.AB=>some []
 |.list _ 1 l=>strsOf l
 |_=>none
def Su:AV->Option Bw
 |.agg [.str a,rv,.int .i64 n]=>match XV rv with
  |some r=>some ⟨a,r,n⟩
  |none=>none
 |_=>none
def NR:List AV->Option (List Bw)
 |[]=>some []
 |v::l=>match Su v with
  |some r=>match NR l with
   |some rs=>some (r::rs)
   |none=>none
  |none=>none
def PT:AV->Option Aj
 |.agg [kv,.str s,.list _ 3 l]=>match XV kv with
  |some ks=>match NR l with
   |some rs=>some ⟨ks,s,rs⟩
   |none=>none
  |none=>none
 |_=>none
def Jz:List AV->Option (List Aj)
 |[]=>some []
 |v::l=>match PT v with
  |some g=>match Jz l with
   |some gs=>some (g::gs)
   |none=>none
  |none=>none
theorem RJ:∀{l:List AV} {s:List Ay},strsOf l=some s->l=strs s
 |[],s,h=>by cases h; rfl
 |v::l,s,h=>by
  cases v <;> simp[strsOf] at h
  case str a=>
   split at h
   ·rename_i t ht
    cases h
    rw[RJ ht]; rfl
   ·cases h
theorem Ut {v:AV}{s:List Ay}(h:XV v=some s):Ce v 1 (strs s):=by
 unfold XV at h
 split at h
 ·cases h; exact⟨.inl ⟨rfl,rfl⟩⟩
 ·rename_i t l; exact⟨.inr ⟨t,by rw[RJ h]⟩⟩
 ·cases h
theorem WX {v:AV}{r:Bw}(h:Su v=some r):Mj v r:=by
 unfold Su at h
 split at h
 ·split at h
  ·rename_i hs; cases h; exact⟨_,rfl,Ut hs⟩
  ·cases h
 ·cases h
theorem Oo:∀{l:List AV} {rs:List Bw},NR l=some rs->Bg l rs
 |[],rs,h=>by cases h; exact .nil
 |v::l,rs,h=>by
  simp only[NR] at h
  split at h
  ·rename_i r hr
   split at h
   ·rename_i t ht
    cases h
    exact .cons (WX hr) (Oo ht)
   ·cases h
  ·cases h
theorem WY {v:AV}{g:Aj}(h:PT v=some g):Bo v g:=by
 unfold PT at h
 split at h
 ·rename_i kv s t l
  split at h
  ·rename_i ks hk
   split at h
   ·rename_i rs hr
    cases h
    exact⟨kv,_,l,rfl,Ut hk,⟨.inr ⟨t,rfl⟩⟩,Oo hr⟩
   ·cases h
  ·cases h
 ·cases h
def ML (r:Bw):Bool:=decide (r.left.length<=50)&&decide (r.right.length<=29)&&r.right.all (fun s=>decide (s.length<=50))&&decide (-9223372036854775808<=r.level)&&decide (r.level<9223372036854775808)
def Iq (g:Aj):Bool:=decide (g.kinds.length<=9)&&g.kinds.all (fun s=>decide (s.length<=50))&&decide (g.start.length<=50)&&decide (g.rules.length<=11)&&decide (0<g.rules.length)&&g.rules.all ML
def M.OO {α:Type}(f:α->Bool):M α->Bool
 |.ret a=>f a
 |.fail=>false
 |.ask n k=>(List.range (n+1)).all fun i=>(k i).OO f
theorem M.VL {α:Type}{f:α->Bool}:∀{m:M α},m.OO f=true->m.all fun a=>f a=true
 |.ret a,h=>h
 |.fail,h=>by cases h
 |.ask n k,h=>fun i hi=>M.VL (List.all_eq_true.1 h i (List.mem_range.2 (by omega)))
def Kh (c:Nat)(t:AV->Bool)(r:AV × St):Bool:=match CZ c r.2.h CJ r.1 with
 |some v=>t v
 |none=>false
theorem Jr {c:Nat}{t:AV->Bool}{m:M (AV × St)}{st:St}(h:m.OO (Kh c t)=true):(m.bind (Bd c st)).all fun r=>t r.1=true/\r.2=st:=by
 rw[M.OQ]
 refine M.OP (M.VL h) fun r hr=>?_
 unfold Kh at hr
 unfold Bd
 split at hr
 ·rename_i v hv; rw[hv]; exact⟨hr,rfl⟩
 ·cases hr
def Dm:AV:=.agg [.list true 1 [.str [110,117,109],.str [112,108,117,115]],.str [101],.list true 3 [.agg [.str [101],.list true 1 [.str [101],.str [112,108,117,115],.str [110,117,109]],.int .i64 0],.agg [.str [101],.list true 1 [.str [110,117,109]],.int .i64 0]]]
def Rw:Heap:=[(0,.cells 29 3 Dm.cells false)]
def KP:Heap:=(1,.cells 9 1 [.str [110,117,109],.str [112,108,117,115],.str [110,117,109]] false)::Rw
def Nj:Heap:=(2,.cells 9 1 [.str [110,117,109],.str [110,117,109]] false)::KP
def SV (v:AV):Bool:=AV.beq v Dm
def NI (v:AV):Bool:=match v with|.tuple [w,.int .i64 n]=>(match Bl w with|some l=>l==2|none=>false)&&n==0|_=>false
def QH (v:AV):Bool:=match v with|.tuple [.int .i64 m,.int .i64 n]=>decide (4<m)&&n==0|_=>false
def Jt (v:AV):Bool:=match v with|.tuple [.bool b,.int .i64 m,.int .i64 n]=>b&&n==0|_=>false
def JF (v:AV):Bool:=match v with|.tuple [.int .i64 m,.int .i64 n]=>m==1&&n==0|_=>false
end Go.Am
