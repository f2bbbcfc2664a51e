/- A part of the proof of grammarsComeBack (merged by a program). -/
import Derived.Test.YtmnlpahaihiegaaGreatDoorT1
namespace Go.Am
open Go
theorem FU (c:UInt8):∀s:BB,splitOn c s≠[]
 |[]=>by simp[splitOn]
 |b::s=>by
  have:=FU c s
  unfold splitOn
  cases b==c
  ·rw[cond_false]; split <;> simp
  ·simp
theorem Dx (c b:UInt8)(s:BB):splitOn c (b::s)=if b=c then []::splitOn c s else (b::(splitOn c s).headD [])::(splitOn c s).tail:=by
 have:=FU c s
 conv=>lhs; unfold splitOn
 by_cases h:b=c
 ·simp[h]
 ·have:(b==c)=false:=by simpa using h
  rw[this,cond_false,if_neg h]
  cases hs:splitOn c s with
  |nil=>exact absurd hs (FU c s)
  |cons x l=>rfl
theorem GY (c:UInt8):∀s:BB,(splitOn c s).length<=s.length+1
 |[]=>by simp[splitOn]
 |b::s=>by
  have ih:=GY c s
  rw[Dx]
  split
  ·simp; omega
  ·simp; omega
theorem Ja (c:UInt8):∀(s:BB),∀x∈splitOn c s,x.length<=s.length
 |[],x,h=>by simp[splitOn] at h; simp[h]
 |b::s,x,h=>by
  have ih:=Ja c s
  rw[Dx] at h
  split at h
  ·rcases List.mem_cons.1 h with rfl|h
   ·simp
   ·have:=ih x h; simp; omega
  ·rcases List.mem_cons.1 h with rfl|h
   ·cases hs:splitOn c s with
    |nil=>simp
    |cons y l=>have:=ih y (by rw[hs]; simp); simp; omega
   ·have:=ih x (List.mem_of_mem_tail h); simp; omega
def NF:BB:=[116,111,107,101,110,115]
def Ic:BB:=[115,116,97,114,116]
def Io (a:BB)(R:List BB):Option Int->Option Bf
 |some n=>if n=0 then none else some ⟨a,R.take (R.length-2),n⟩
 |none=>some ⟨a,R,0⟩
def FO:List BB->Option Bf
 |a::b::R=>if b=[61] then
  if 2<=R.length/\R[R.length-2]? =some [47] then Io a R (numOf (R.getLastD [])) else some ⟨a,R,0⟩
  else none
 |_=>none
def Lm (g:Ak):List BB->Option Ak
 |[a,b]=>if a=Ic then some { g with start:=b } else none
 |_=>none
def Bg (n:Nat)(line:BB)(g:Ak):Option Ak:=
 let W:=splitOn 32 line
 if []∈W then none
 else if n=0 then (if W.head? =some NF then some { g with kinds:=W.tail } else none)
 else if n=1 then Lm g W
 else (FO W).map fun r=>{ g with rules:=g.rules++[r] }
inductive Read
 |bad (n:Nat)
 |done (n:Nat) (g:Ak)
def readAll (n:Nat)(g:Ak):List BB->Read
 |[]=>.bad n
 |[l]=>if l=[] then .done n g else .bad n
 |l::l2::P=>match Bg n l g with
  |none=>.bad n
  |some g'=>readAll (n+1) g' (l2::P)
theorem Yh {k:Nat}{s:BB}{c:UInt8}{st:St}(h:s.length<=1000000):AX E (k+1) 105 [.str s,.str [c]] st=.ret (.list false 1 (strs (splitOn c s)),st):=by
 refine JY (g:=fun _=>hSplit) rfl ?_
 simp[hSplit,ble_eq,h,strs]
def Kh (W:List BB):AV:=.tuple [if []∈W then .AB else .list false 1 (strs W),.bool (!decide ([]∈W))]
theorem RV {k:Nat}{W:List BB}{st:St}(hl:W.length<1000000)(ts0:TS)(z4:ts0.get 4=.list false 1 (strs W))(z9:ts0.get 9=.list false 1 (strs W))(z10:ts0.get 10=.int .i64 (W.length:Int))(z11:ts0.get 11=.int .i64 ((0:Nat):Int)) :
 (Dh (BF E (AX E k) C.f61L0) E.k ts0 st).to fun x=>x.2.2=st/\((x.1=.exit 0/\[]∉W/\x.2.1.get 4=.list false 1 (strs W))∨(x.1=.ret/\[]∈W/\x.2.1.get 2=.AB/\x.2.1.get 3=.bool false)):=by
 refine DI (fun (i:Nat) ts st'=>st'=st/\i<=W.length/\ts.get 4=.list false 1 (strs W)/\ts.get 9=.list false 1 (strs W)/\ts.get 10=.int .i64 (W.length:Int)/\ts.get 11=.int .i64 (i:Int)/\[]∉W.take i)
  (fun i=>W.length-i) ?_ _ 0 _ _ ?_ ?_
 ·rintro i ts st' ⟨rfl,hi,z4,z9,z10,z11,hno⟩
  by_cases Bc:i<W.length
  ·have hix:Ad 1 (.list false 1 (strs W)) (.int .i64 (i:Int)) st'=some (.BN [.str W[i]],st'):=Ci.Jr ⟨.inr ⟨_,rfl⟩⟩ Bc
   by_cases he:W[i]=[]
   ·have hm:[]∈W:=he ▸ List.getElem_mem Bc
    simp[C.f61L0,z4,z9,z10,z11,Bc,hix,he,hm]
   ·have hn:[]∉W.take (i+1):=by
     rw[List.take_succ_eq_append_getElem Bc]
     intro h
     rcases List.mem_append.1 h with h|h
     ·exact hno h
     ·exact he (List.mem_singleton.1 h).symm
    have hb:(W[i]==[])=false:=by simpa using he
    simp[C.f61L0,z4,z9,z10,z11,Bc,hix,hb,he,wi i]
    exact⟨i+1,by omega,by omega,by simp,hn⟩
  ·have:i=W.length:=by omega
   subst this
   rw[List.take_length] at hno
   simp[C.f61L0,z4,z9,z10,z11,hno]
 ·show W.length-0<1000000; omega
 ·exact⟨rfl,by omega,z4,z9,z10,z11,by simp⟩
theorem NV {k:Nat}{s:BB}{st:St}(h:s.length<100000):AX E (k+2) 61 [.str s] st=.ret (Kh (splitOn 32 s),st):=by
 rw[CY (fn:=C.f61) rfl rfl rfl,Af (by simp)]
 have hl:=GY 32 s
 have hs:=Yh (k:=k) (c:=32) (st:={ st with lo:=st.c }) (show s.length<=1000000 by omega)
 have goal:((BF E (AX E (k+1)) C.f61.body (TS.Cm [.str s] 0 .nil) { st with lo:=st.c }).bind (leave C.f61.results)).to fun r=>r.1=Kh (splitOn 32 s):=by
  have loop:=fun ts0 a b c d=>RV (k:=k+1) (W:=splitOn 32 s) (st:={ st with lo:=st.c }) (by omega) ts0 a b c d
  have hle:∀S:St,Be .slice (.list false 1 (strs (splitOn 32 s))) S=some (.int .i64 ((splitOn 32 s).length:Int),S):=fun S=>by
   have:=Ci.len (st:=S) (v:=.list false 1 (strs (splitOn 32 s))) (sz:=1) (xs:=strs (splitOn 32 s)) ⟨.inr ⟨_,rfl⟩⟩
   rw[this]; simp
  simp[C.f61,hs,hle]
  refine M.BX (loop _ (by simp) (by simp) (by simp) (by simp)) fun x hx=>?_
  obtain⟨e,ts1,st1⟩:=x
  obtain⟨rfl,⟨rfl,h1,h2⟩|⟨rfl,h1,h2,h3⟩⟩:=hx
  ·simp only at h2
   simp[h2,leave,results,AR,Kh,h1]
  ·simp only at h2 h3
   simp[h2,h3,leave,results,AR,Kh,h1]
 obtain⟨⟨v,st'⟩,h1,h2⟩:=goal
 simp only at h2
 subst h2
 rw[h1]
 refine DT ?_
 unfold Kh
 by_cases hm:[]∈splitOn 32 s <;> simp[hm,AV.CF,AV.Cx,KF]
def gY (h:Heap)(rv:AV)(ls:List AV):Prop:=(rv=.AB/\ls=[])∨∃id,rv=.AU id 0 ls.length none/\AA h id=some (.cells 47 3 (ls.flatMap AV.cells) true)
theorem gY.heap {h h':Heap}{rv:AV}{ls:List AV}(H:gY h rv ls)(e:∀p,BR rv=some p->AA h' p=AA h p):gY h' rv ls:=by
 rcases H with H|⟨id,rfl,hf⟩
 ·exact .inl H
 ·exact .inr ⟨id,rfl,(e id rfl).trans hf⟩
theorem Bo.three {ls:List AV}{rs:List Bf}(H:Bo ls rs):∀x∈ls,x.cells.length=3:=by
 induction H with
 |nil=>simp
 |cons a t ih=>
  intro x hx
  rcases List.mem_cons.1 hx with rfl|hx
  ·obtain⟨w,rfl,_⟩:=a; rfl
  ·exact ih x hx
theorem Bo.flat {ls:List AV}{rs:List Bf}(H:Bo ls rs):rows 3 ls.length (ls.flatMap AV.cells)=ls/\∀c,AV.Cx c (ls.flatMap AV.cells)=true:=by
 induction H with
 |nil=>exact⟨rfl,fun c=>rfl⟩
 |cons a t ih=>
  obtain⟨w,rfl,hw⟩:=a
  refine⟨?_,fun c=>?_⟩
  ·simp only[List.length_cons,rows,List.flatMap_cons,AV.cells]
   simp[beq_eq,ih.1]
  ·have:=ih.2 c
   simp[List.flatMap_cons,AV.cells,AV.Cx,AV.CF,hw.LD c,this]
structure RJ (oo:Nat)(g:Ak)(kv rv:AV)(ls:List AV)(S0 st:St):Prop where
 at_:AA st.h oo=some (.cells 29 3 [kv,.str g.start,rv] false)
 kinds:Ci kv 1 (strs g.kinds)
 rules:Bo ls g.rules
 sl:gY st.h rv ls
 own:∀p,BR rv=some p->S0.c<=p/\p<st.c
 c:S0.c<=st.c
 lo:st.lo=0
 tp:top st.h<=st.c
 oc:oo<S0.c
 fr:∀p,p<S0.c->p≠oo->AA st.h p=AA S0.h p
theorem RJ.Cf {oo:Nat}{g:Ak}{kv rv:AV}{ls:List AV}{S0 st:St}(H:RJ oo g kv rv ls S0 st):∃v,Bl v g/\∀{h'},(∀p,BR rv=some p->AA h' p=AA st.h p)->∀n,3<=n->Am.Cf 0 h' n (.agg [kv,.str g.start,rv])=some v:=by
 obtain⟨f1,f2⟩:=H.rules.flat
 have hl3:=Av H.rules.three
 have hk:=H.kinds
 rcases H.sl with⟨e1,e2⟩|⟨id,e1,hf⟩
 ·refine⟨.agg [kv,.str g.start,rv],⟨kv,rv,ls,rfl,hk,⟨.inl ⟨e1,e2⟩⟩,H.rules⟩,fun {h'} _ n hn=>?_⟩
  obtain⟨m,rfl⟩:∃m,n=m+1:=⟨n-1,by omega⟩
  refine Dv ?_
  subst e1
  simp[AV.CF,AV.Cx,hk.LD 0]
 ·refine⟨.agg [kv,.str g.start,.list false 3 ls],⟨kv,_,ls,rfl,hk,⟨.inr ⟨_,rfl⟩⟩,H.rules⟩,fun {h'} he n hn=>?_⟩
  obtain⟨m,rfl⟩:∃m,n=m+3:=⟨n-3,by omega⟩
  have hf':AA h' id=some (.cells 47 3 (ls.flatMap AV.cells) true):=(he id (by rw[e1]; rfl)).trans hf
  have ht:Am.Cf 0 h' (m+2) rv=some (.list false 3 ls):=by
   rw[e1,Px (n:=m+1) (Nat.zero_le id) hf' (by omega) (by rw[hl3]; omega) (cs':=ls.flatMap AV.cells) (by
    rw[List.drop_zero,List.take_of_length_le (by omega)]; exact NH (f2 0)),f1]
  exact Xq (by simp[CU,Dv (hk.LD 0),Dv (show (AV.str g.start).CF 0=true from rfl),ht]) (by omega)
theorem jD {h:Heap}{c lo e:Nat}{rv w:AV}{ls:List AV}{a:BB}{n:Int}(H:gY h rv ls)(h3:∀x∈ls,x.cells.length=3)(ht:top h<=e)(hlo:lo=0)(hl:ls.length<=100000) :
 ∃h2,Bq (e+1) 47 3 48 rv (.AU e 0 1 (some 1)) ⟨(e,.cells 47 3 [.str a,w,.int .i64 n] false)::h,c,lo⟩=some (.AU (e+1) 0 (ls.length+1) none,⟨h2,c,lo⟩) /\
  gY h2 (.AU (e+1) 0 (ls.length+1) none) (ls++[.agg [.str a,w,.int .i64 n]])/\top h2<=e+2/\(∀p,p<e->BR rv≠some p->AA h2 p=AA h p):=by
 subst hlo
 have hl3:=Av h3
 have hcs:Au ((e,Al.cells 47 3 [.str a,w,.int .i64 n] false)::h) 3 1 (.AU e 0 1 (some 1))=some [.str a,w,.int .i64 n]:=by
  simp[Au,Bv,beq_eq,ble_eq]
 have hroom:(ls.length+1)*48<=room/\ls.length+1<=room:=by unfold room; constructor <;> omega
 have hlen:lenOf (.AU e 0 1 (some 1))=some 1:=rfl
 rcases H with⟨rfl,rfl⟩|⟨id,rfl,hf⟩
 ·have tp:top ((e,Al.cells 47 3 [.str a,w,.int .i64 n] false)::h)<=e+1:=by rw[BD]; omega
  refine⟨(e+1,.cells 47 3 [.str a,w,.int .i64 n] true)::(e,Al.cells 47 3 [.str a,w,.int .i64 n] false)::h,?_,.inr ⟨e+1,rfl,Bv rfl⟩,by rw[BD,BD]; omega,fun p hp _=>by rw[Bb (by omega),Bb (by omega)]⟩
  simp[Bq,hlen,hcs,BV,beq_eq,grow,ble_eq,room,BP tp]
 ·have hi:id<top h:=KP hf
  have hf':AA ((e,Al.cells 47 3 [.str a,w,.int .i64 n] false)::h) id=some (.cells 47 3 (ls.flatMap AV.cells) true):=(Bb (by omega)).trans hf
  have tp:top (GL ((e,Al.cells 47 3 [.str a,w,.int .i64 n] false)::h) id)<=e+1:=Nat.le_trans UA (by rw[BD]; omega)
  refine⟨(e+1,.cells 47 3 (ls.flatMap AV.cells++[.str a,w,.int .i64 n]) true)::GL ((e,Al.cells 47 3 [.str a,w,.int .i64 n] false)::h) id,?_,.inr ⟨e+1,by simp,by rw[Bv rfl]; simp[AV.cells]⟩,by rw[BD]; omega,fun p hp hne=>?_⟩
  ·have hle:¬(ls.length+1)*3<=ls.length*3:=by omega
   have htk:(ls.flatMap AV.cells).take (ls.length*3)=ls.flatMap AV.cells:=List.take_of_length_le (by omega)
   simp[Bq,hlen,hcs,BV,beq_eq,Dr,hf',ble_eq,hl3,hle,htk,grow,hroom.1,hroom.2,BP tp]
  ·rw[Bb (by omega),Dz,if_neg (fun q=>hne (by rw[q]; rfl)),Bb (by omega)]
theorem RJ.put {oo:Nat}{g g':Ak}{kv kv' rv:AV}{ls:List AV}{S0:St}{h:Heap}{c:Nat}(H:RJ oo g kv rv ls S0 ⟨h,c,0⟩)(hk:Ci kv' 1 (strs g'.kinds))(hr:g'.rules=g.rules) :
 RJ oo g' kv' rv ls S0 ⟨Aa h oo (.cells 29 3 [kv',.str g'.start,rv] false),c,0⟩:=by
 have hown:∀p,BR rv=some p->S0.c<=p/\p<c:=H.own
 have hoc:=H.oc
 have hat:AA h oo=some (.cells 29 3 [kv,.str g.start,rv] false):=H.at_
 refine⟨?_,hk,by rw[hr]; exact H.rules,gY.heap H.sl fun p hp=>Jh (by have:=hown p hp; omega),H.own,H.c,rfl,?_,H.oc,fun p hp hne=>(Jh (Ne.symm hne)).trans (H.fr p hp hne)⟩
 ·show AA (Aa h oo _) oo=_
  rw[OE rfl,hat]; rfl
 ·show top (Aa h oo _)<=c
  rw[Gm]; exact H.tp
theorem RJ.box {oo:Nat}{g:Ak}{kv rv:AV}{ls:List AV}{S0:St}{h:Heap}{c:Nat}(H:RJ oo g kv rv ls S0 ⟨h,c,0⟩)(x:Al):RJ oo g kv rv ls S0 ⟨(c,x)::h,c+1,0⟩:=by
 have hown:∀p,BR rv=some p->S0.c<=p/\p<c:=H.own
 have hoc:=H.oc
 have hcc:S0.c<=c:=H.c
 have tp:top h<=c:=H.tp
 exact⟨(Bb (by omega)).trans H.at_,H.kinds,H.rules,gY.heap H.sl fun p hp=>Bb (by have:=hown p hp; omega),fun p hp=>⟨(hown p hp).1,by have:=(hown p hp).2; show p<c+1; omega⟩,by show S0.c<=c+1; omega,rfl,by show top ((c,x)::h)<=c+1; rw[BD]; omega,hoc,fun p hp hne=>(Bb (by omega)).trans (H.fr p hp hne)⟩
theorem RJ.push {oo:Nat}{g:Ak}{kv rv:AV}{ls:List AV}{S0:St}{h:Heap}{c:Nat}(H:RJ oo g kv rv ls S0 ⟨h,c,0⟩){w:AV}{r:Bf}(hw:Ci w 1 (strs r.right))(hl:ls.length<=100000) :
 ∃h2,Bq (c+1) 47 3 48 rv (.AU c 0 1 (some 1)) ⟨(c,.cells 47 3 [.str r.left,w,.int .i64 r.level] false)::h,c+2,0⟩=some (.AU (c+1) 0 (ls.length+1) none,⟨h2,c+2,0⟩)/\AA h2 oo=some (.cells 29 3 [kv,.str g.start,rv] false) /\
  RJ oo { g with rules:=g.rules++[r] } kv (.AU (c+1) 0 (ls.length+1) none) (ls++[.agg [.str r.left,w,.int .i64 r.level]]) S0 ⟨Aa h2 oo (.cells 29 3 [kv,.str g.start,.AU (c+1) 0 (ls.length+1) none] false),c+2,0⟩:=by
 have hown:∀p,BR rv=some p->S0.c<=p/\p<c:=H.own
 have hoc:=H.oc
 have hcc:S0.c<=c:=H.c
 have tp:top h<=c:=H.tp
 obtain⟨h2,p1,p2,p3,p4⟩:=jD (c:=c+2) (lo:=0) (e:=c) (w:=w) (a:=r.left) (n:=r.level) H.sl H.rules.three tp rfl hl
 have f2:AA h2 oo=some (.cells 29 3 [kv,.str g.start,rv] false):=by
  rw[p4 oo (by omega) (fun e=>by have:=hown oo e; omega)]; exact H.at_
 refine⟨h2,p1,f2,?_,H.kinds,H.rules.append (.cons ⟨w,rfl,hw⟩ .nil),gY.heap p2 fun p hp=>Jh ?_,fun p hp=>?_,by show S0.c<=c+2; omega,rfl,?_,hoc,fun p hp hne=>?_⟩
 ·show AA (Aa h2 oo _) oo=_
  rw[OE rfl,f2]; rfl
 ·simp only[BR,Option.some.injEq] at hp; omega
 ·simp only[BR,Option.some.injEq] at hp; subst hp; exact⟨by omega,by show c+1<c+2; omega⟩
 ·show top (Aa h2 oo _)<=c+2
  rw[Gm]; exact p3
 ·show AA (Aa h2 oo _) p=_
  rw[Jh (Ne.symm hne),p4 p (by omega) (fun e=>by have:=hown p e; omega)]
  exact H.fr p hp hne
structure qG (oo:Nat)(S0 st:St):Prop where
 c:S0.c<=st.c
 lo:st.lo=0
 tp:top st.h<=st.c
 fr:∀p,p<S0.c->p≠oo->AA st.h p=AA S0.h p
theorem RJ.f {oo:Nat}{g:Ak}{kv rv:AV}{ls:List AV}{S0 st:St}(H:RJ oo g kv rv ls S0 st):qG oo S0 st:=⟨H.c,H.lo,H.tp,H.fr⟩
theorem Uc {s:BB}{n:Int}(h:numOf s=some n):-9223372036854775808<=n/\n<9223372036854775808:=by
 have dv:∀(t:BB) (m v:Int) (j:Nat),0<=m->m<10 ^ j->DW m t=some v->0<=v/\v<10 ^ (j+t.length):=by
  intro t
  induction t with
  |nil=>intro m v j h0 h1 h; simp only[DW,Option.some.injEq] at h; subst h; exact⟨h0,h1⟩
  |cons b t ih=>
   intro m v j h0 h1 h
   rw[DW] at h
   split at h
   ·rename_i hd
    obtain⟨b1,b2⟩:=Gv hd
    have hp3:(10:Int) ^ (j+1)=10*10 ^ j:=by rw[Int.pow_succ,Int.mul_comm]
    have:=ih _ v (j+1) (by omega) (by omega) h
    rw[List.length_cons,show j+(t.length+1)=j+1+t.length by omega]; exact this
   ·cases h
 unfold numOf at h
 split at h
 ·cases h
 ·rename_i hb
  have hl:(FQ s).length<=9:=by
   have:Jp s (FQ s)=false:=by simpa using hb
   unfold Jp at this
   simp only[Bool.or_eq_false_iff,decide_eq_false_iff_not] at this
   omega
  cases hd:DW 0 (FQ s) with
  |none=>rw[hd] at h; cases h
  |some v=>
   rw[hd] at h
   simp only[Option.map_some,Option.some.injEq] at h
   have:=dv (FQ s) 0 v 0 (by omega) (by simp) hd
   have hp:(10:Int) ^ (0+(FQ s).length)<=10 ^ 9:=by
    have:(10:Nat) ^ (0+(FQ s).length)<=10 ^ 9:=Nat.pow_le_pow_right (by omega) (by omega)
    exact_mod_cast this
   split at h <;> omega
theorem QU {t:Bool}{W:List BB}{i:Nat}{st:St}(h:i<=W.length):Bz 1 true false false [.list t 1 (strs W),.int .i64 (i:Int)] st=some (.list (t&&Nat.beq (strs W).length (strs W).length) 1 (strs (W.drop i)),st):=by
 have:(strs W).drop i=strs (W.drop i):=by simp[strs]
 have h2:(strs W).take W.length=strs W:=List.take_of_length_le (by simp)
 simp[Bz,DC,Bd,CE,beq_eq,Iy,ble_eq,h,h2,this]
theorem Uk {t:Bool}{W:List BB}{i j:Nat}{st:St}(h:i<=j)(hj:j<=W.length):Bz 1 true true false [.list t 1 (strs W),.int .i64 (i:Int),.int .i64 (j:Int)] st=some (.list (t&&Nat.beq j (strs W).length) 1 (strs ((W.take j).drop i)),st):=by
 have:((strs W).take j).drop i=strs ((W.take j).drop i):=by simp[strs]
 simp[Bz,DC,Bd,CE,beq_eq,Iy,ble_eq,h,hj,this]
theorem IU {t:Bool}{W:List BB}{i:Nat}{st:St}(h:i<W.length):Ad 1 (.list t 1 (strs W)) (.int .i64 (i:Int)) st=some (.BN [.str W[i]],st):=Ci.Jr ⟨.inr ⟨_,rfl⟩⟩ h
theorem Ul {t:Bool}{W:List BB}{st:St}:Be .slice (.list t 1 (strs W)) st=some (.int .i64 (W.length:Int),st):=by
 have:=Ci.len (st:=st) (v:=.list t 1 (strs W)) (sz:=1) (xs:=strs W) ⟨.inr ⟨_,rfl⟩⟩
 rw[this]; simp
theorem Sq {h:Heap}{c oo:Nat}{a b d x:AV}{i:Nat}(hf:AA h oo=some (.cells 29 3 [a,b,d] false))(hi:i<3)(hx:x.isTuple=false/\x.cells=[x]):BJ 1 (.AO oo i) x ⟨h,c,0⟩=some (.undef,⟨Aa h oo (.cells 29 3 ([a,b,d].set i x) false),c,0⟩):=by
 rw[Fs,hf,Db]
 match i,hi with
 |0,_=>simp[hx]
 |1,_=>simp[hx]
 |2,_=>simp[hx]
def dK (oo n:Nat)(line:BB)(g:Ak)(S0:St)(x:AV × St):Prop:=
 (Bg n line g=none/\x.1=.bool false/\qG oo S0 x.2)∨∃g' kv rv ls,Bg n line g=some g'/\x.1=.bool true/\RJ oo g' kv rv ls S0 x.2
theorem Sr {n:Nat}{line:BB}{g:Ak}(h:[]∈splitOn 32 line):Bg n line g=none:=by unfold Bg; rw[if_pos h]
theorem aR {line:BB}{g:Ak}(h:[]∉splitOn 32 line):Bg 0 line g=if (splitOn 32 line).head? =some NF then some { g with kinds:=(splitOn 32 line).tail } else none:=by unfold Bg; rw[if_neg h,if_pos rfl]
theorem aQ {line:BB}{g:Ak}(h:[]∉splitOn 32 line):Bg 1 line g=Lm g (splitOn 32 line):=by unfold Bg; rw[if_neg h,if_neg (by omega),if_pos rfl]
theorem aP {n:Nat}{line:BB}{g:Ak}(h:[]∉splitOn 32 line)(hn:2<=n):Bg n line g=(FO (splitOn 32 line)).map fun r=>{ g with rules:=g.rules++[r] }:=by unfold Bg; rw[if_neg h,if_neg (by omega),if_neg (by omega)]
set_option maxHeartbeats 2000000 in
theorem UQ {k oo n:Nat}{g:Ak}{kv rv:AV}{ls:List AV}{S0 st:St}{line:BB}(H:RJ oo g kv rv ls S0 st)(hn:n<2)(hl:line.length<100000) :
 (AX E (k+5) 30 [.AO oo 0,.int .i64 (n:Int),.str line] st).to (dK oo n line g S0):=by
 rw[Ai (fn:=C.f30) rfl rfl rfl,Af (by simp)]
 obtain⟨h,c,lo⟩:=st
 have hlo:lo=0:=H.lo
 subst hlo
 have hat:AA h oo=some (.cells 29 3 [kv,.str g.start,rv] false):=H.at_
 obtain⟨W,hW⟩:∃W,W=splitOn 32 line:=⟨_,rfl⟩
 have hWne:W≠[]:=hW ▸ FU 32 line
 have hWl:W.length<=line.length+1:=hW ▸ GY 32 line
 have hw:=NV (k:=k+2) (s:=line) (st:=⟨h,c,0⟩) hl
 rw[← hW] at hw
 unfold Kh at hw
 by_cases he:[]∈W
 ·have hrs:=Sr (n:=n) (g:=g) (line:=line) (hW ▸ he)
  rw[if_pos he] at hw
  simp only[he,decide_true,Bool.not_true] at hw
  simp[C.f30,hw,leave,results,AR]
  exact .inl ⟨hrs,rfl,H.f⟩
 ·have hs0:=aR (g:=g) (line:=line) (hW ▸ he)
  have hs1:=aQ (g:=g) (line:=line) (hW ▸ he)
  rw[← hW] at hs0 hs1
  rw[if_neg he] at hw
  simp only[he,decide_false,Bool.not_false] at hw
  obtain⟨a,W',rfl⟩:∃a W',W=a::W':=by
   cases W with
   |nil=>exact absurd rfl hWne
   |cons a l=>exact⟨a,l,rfl⟩
  have i0:∀S,Ad 1 (.list false 1 (strs (a::W'))) (.int .i64 0) S=some (.BN [.str a],S):=fun S=>IU (W:=a::W') (i:=0) (by simp)
  have hle:∀S,Be .slice (.list false 1 (strs (a::W'))) S=some (.int .i64 ((a::W').length:Int),S):=fun S=>Ul
  match n,hn with
  |0,_=>
   have sl:∀S,Bz 1 true false false [.list false 1 (strs (a::W')),.int .i64 1] S=some (.list false 1 (strs W'),S):=fun S=>QU (t:=false) (i:=1) (W:=a::W') (by simp)
   have s1:=Sq (c:=c) (x:=.list false 1 (strs W')) (i:=0) hat (by omega) ⟨rfl,rfl⟩
   have G:=H.put (kv':=.list false 1 (strs W')) (g':={ g with kinds:=W' }) ⟨.inr ⟨_,rfl⟩⟩ rfl
   simp only[List.set_cons_zero] at s1
   simp only[List.head?_cons,Option.some.injEq,List.tail_cons] at hs0
   by_cases ha:a=NF
   ·rw[if_pos ha] at hs0
    have ha':(a==[116,111,107,101,110,115])=true:=by simpa [NF] using ha
    simp[C.f30,hw,i0,sl,s1,ha',leave,results,AR]
    exact .inr ⟨_,_,_,_,hs0,rfl,G⟩
   ·rw[if_neg ha] at hs0
    have ha':(a==[116,111,107,101,110,115])=false:=by simpa [NF] using ha
    simp[C.f30,hw,i0,sl,s1,ha',leave,results,AR]
    exact .inl ⟨hs0,rfl,G.f⟩
  |1,_=>
   by_cases h2:W'.length=1
   ·obtain⟨b,rfl⟩:∃b,W'=[b]:=List.length_eq_one_iff.1 h2
    have i1:∀S,Ad 1 (.list false 1 (strs [a,b])) (.int .i64 1) S=some (.BN [.str b],S):=fun S=>IU (W:=[a,b]) (i:=1) (by simp)
    simp only[Lm] at hs1
    by_cases ha:a=Ic
    ·rw[if_pos ha] at hs1
     have ha':(a !=[115,116,97,114,116])=false:=by rw[ha]; rfl
     have ha'':(a==[115,116,97,114,116])=true:=by rw[ha]; rfl
     have s1:=Sq (c:=c) (x:=.str b) (i:=1) hat (by omega) ⟨rfl,rfl⟩
     have G:=H.put (kv':=kv) (g':={ g with start:=b }) H.kinds rfl
     simp only[List.set_cons_zero,List.set_cons_succ] at s1
     simp[C.f30,hw,i0,i1,hle,Ap,Aj,CW,ha',ha'',s1,leave,results,AR]
     exact .inr ⟨_,_,_,_,hs1,rfl,G⟩
    ·rw[if_neg ha] at hs1
     have ha'':(a==[115,116,97,114,116])=false:=by simpa [Ic] using ha
     have ha':(a !=[115,116,97,114,116])=true:=by simpa [Ic] using ha
     simp[C.f30,hw,i0,i1,hle,Ap,Aj,CW,ha',ha'',leave,results,AR]
     exact .inl ⟨hs1,rfl,H.f⟩
   ·have h2':(((W'.length:Int)+1)==2)=false:=by simp; omega
    have h2'':(((W'.length:Int)+1) !=2)=true:=by simp; omega
    have hno:Bg 1 line g=none:=by
     rw[hs1]
     match W',h2 with
     |[],_=>rfl
     |b::b2::t,_=>rfl
    simp[C.f30,hw,i0,hle,Ap,Aj,CW,h2',h2'',leave,results,AR]
    exact .inl ⟨hno,rfl,H.f⟩
theorem cZ (c:Nat){a b d:AV}(h:b.isTuple=false/\b.cells=[b]):Ar c 47 3 1 [.str [],.AB,.int .i64 0] [0] [.agg [a,b,d]]=some (.AU c 0 1 (some 1),.cells 47 3 [a,b,d] false):=by
 simp[Ar,blt_eq,beq_eq,ble_eq,BA,BS,AV.isTuple,AV.cells]
theorem Rs {a:BB}{R:List BB}(h:¬(2<=R.length/\R[R.length-2]? =some [47])):FO (a::[61]::R)=some ⟨a,R,0⟩:=by simp only[FO,if_true,if_neg h]
theorem QG {a:BB}{R:List BB}(h:2<=R.length/\R[R.length-2]? =some [47]):FO (a::[61]::R)=Io a R (numOf (R.getLastD [])):=by simp only[FO,if_true,if_pos h]
theorem QH {W:List BB}(h:¬∃a R,W=a::[61]::R):FO W=none:=by
 match W,h with
 |[],_=>rfl
 |[a],_=>rfl
 |a::b::R,h=>simp only[FO]; rw[if_neg (fun e=>h ⟨a,R,by rw[e]⟩)]
theorem TL {R:List BB}(h:2<=R.length):R.getLastD []=R[R.length-1]'(by omega):=by
 rw[List.getLastD_eq_getLast?,List.getLast?_eq_getElem?,List.getElem?_eq_getElem (by omega)]; rfl
set_option maxHeartbeats 4000000 in
theorem Wi {k oo n:Nat}{g:Ak}{kv rv:AV}{ls:List AV}{S0 st:St}{line:BB}(H:RJ oo g kv rv ls S0 st)(hn:2<=n)(hn2:n<1000000)(hl:line.length<100000)(hls:ls.length<=100000) :
 (AX E (k+5) 30 [.AO oo 0,.int .i64 (n:Int),.str line] st).to (dK oo n line g S0):=by
 rw[Ai (fn:=C.f30) rfl rfl rfl,Af (by simp)]
 obtain⟨h,c,lo⟩:=st
 have hlo:lo=0:=H.lo
 subst hlo
 have hat:AA h oo=some (.cells 29 3 [kv,.str g.start,rv] false):=H.at_
 have tp:top h<=c:=H.tp
 have hcc:S0.c<=c:=H.c
 have hoc:=H.oc
 obtain⟨W,hW⟩:∃W,W=splitOn 32 line:=⟨_,rfl⟩
 have hWne:W≠[]:=hW ▸ FU 32 line
 have hWl:W.length<=line.length+1:=hW ▸ GY 32 line
 have hWm:∀x∈W,x.length<=line.length:=hW ▸ Ja 32 line
 have hw:=NV (k:=k+2) (s:=line) (st:=⟨h,c,0⟩) hl
 rw[← hW] at hw
 unfold Kh at hw
 have n0:((n:Int)==0)=false:=by simp; omega
 have n1:((n:Int)==1)=false:=by simp; omega
 by_cases he:[]∈W
 ·have hrs:=Sr (n:=n) (g:=g) (line:=line) (hW ▸ he)
  rw[if_pos he] at hw
  simp only[he,decide_true,Bool.not_true] at hw
  simp[C.f30,hw,leave,results,AR]
  exact .inl ⟨hrs,rfl,H.f⟩
 ·have hs2:=aP (g:=g) (line:=line) (hW ▸ he) hn
  rw[← hW] at hs2
  rw[if_neg he] at hw
  simp only[he,decide_false,Bool.not_false] at hw
  have hle:∀S,Be .slice (.list false 1 (strs W)) S=some (.int .i64 (W.length:Int),S):=fun S=>Ul
  by_cases hok:∃a R,W=a::[61]::R
  ·obtain⟨a,R,rfl⟩:=hok
   have i0:∀S,Ad 1 (.list false 1 (strs (a::[61]::R))) (.int .i64 0) S=some (.BN [.str a],S):=fun S=>IU (W:=a::[61]::R) (i:=0) (by simp)
   have i1:∀S,Ad 1 (.list false 1 (strs (a::[61]::R))) (.int .i64 1) S=some (.BN [.str [61]],S):=fun S=>IU (W:=a::[61]::R) (i:=1) (by simp)
   have sl:∀S,Bz 1 true false false [.list false 1 (strs (a::[61]::R)),.int .i64 2] S=some (.list false 1 (strs R),S):=fun S=>QU (t:=false) (i:=2) (W:=a::[61]::R) (by simp)
   have hlt2:¬((R.length:Int)+1+1<2):=by omega
   have hk:IntKind.i64.wrap ((R.length:Int)+1+1-2)=(R.length:Int):=by
    rw[wrap64 (by simp at hWl; omega) (by simp at hWl; omega)]; omega
   have hn9:newObj c (.cells 47 3 [.str [],.AB,.int .i64 0] false) ⟨h,c+1,0⟩=some ⟨(c,.cells 47 3 [.str [],.AB,.int .i64 0] false)::h,c+1,0⟩:=BP tp
   have hst:=DY (h:=h) (c:=c) (c':=c+1) (lo:=0) (ty:=47) (n:=3) (zs:=[.str [],.AB,.int .i64 0]) (vs:=[.str a,.list false 1 (strs R),.int .i64 0]) (by omega) rfl rfl
   have hfl:BA [.str [],.AB,.int .i64 0] [(0,1),(1,1)] [.str a,.list false 1 (strs R)]=some [.str a,.list false 1 (strs R),.int .i64 0]:=rfl
   have B:=H.box (.cells 47 3 [.str a,.list false 1 (strs R),.int .i64 0] false)
   have fin:∀(w:AV) (r:Bf),Ci w 1 (strs r.right)->w.isTuple=false/\w.cells=[w]->∃h2 rv2 ls2,
    newObj (c+1) (.cells 47 3 [.str r.left,w,.int .i64 r.level] false) ⟨(c,.cells 47 3 [.str r.left,w,.int .i64 r.level] false)::h,c+1+2,0⟩=some ⟨(c+1,.cells 47 3 [.str r.left,w,.int .i64 r.level] false)::(c,.cells 47 3 [.str r.left,w,.int .i64 r.level] false)::h,c+1+2,0⟩ /\
    Bq (c+1+1) 47 3 48 rv (.AU (c+1) 0 1 (some 1)) ⟨(c+1,.cells 47 3 [.str r.left,w,.int .i64 r.level] false)::(c,.cells 47 3 [.str r.left,w,.int .i64 r.level] false)::h,c+1+2,0⟩=some (rv2,⟨h2,c+1+2,0⟩) /\
    BJ 1 (.AO oo 2) rv2 ⟨h2,c+1+2,0⟩=some (.undef,⟨Aa h2 oo (.cells 29 3 [kv,.str g.start,rv2] false),c+1+2,0⟩) /\
    Ac ((c,.cells 47 3 [.str r.left,w,.int .i64 r.level] false)::h) (.AO c 0) 3=some [.str r.left,w,.int .i64 r.level] /\
    AP ((c,.cells 47 3 [.str r.left,w,.int .i64 r.level] false)::h) (.AO oo 2)=some rv /\
    RJ oo { g with rules:=g.rules++[r] } kv rv2 ls2 S0 ⟨Aa h2 oo (.cells 29 3 [kv,.str g.start,rv2] false),c+1+2,0⟩:=fun w r hw1 hw2=>by
    have B:=H.box (.cells 47 3 [.str r.left,w,.int .i64 r.level] false)
    obtain⟨h2,p1,p2,p3⟩:=B.push (r:=r) hw1 hls
    refine⟨h2,_,_,BP B.tp,p1,?_,?_,?_,p3⟩
    ·have:=Sq (c:=c+1+2) (x:=.AU (c+1+1) 0 (ls.length+1) none) (i:=2) p2 (by omega) ⟨rfl,rfl⟩
     simpa using this
    ·rw[DN,Bv rfl,Rk,if_pos (by simp)]; rfl
    ·rw[Hf,Bb (by omega),hat]; rfl
   by_cases hsl:2<=R.length/\R[R.length-2]? =some [47]
   ·obtain⟨h2R,hsl⟩:=hsl
    have hru:=QG (a:=a) ⟨h2R,hsl⟩
    rw[hru,TL h2R] at hs2
    have h2i:(2:Int)<=(R.length:Int):=by omega
    rw[List.getElem?_eq_getElem (by omega),Option.some.injEq] at hsl
    have ik:∀S,Ad 1 (.list false 1 (strs (a::[61]::R))) (.int .i64 (R.length:Int)) S=some (.BN [.str [47]],S):=fun S=>by
     have:=IU (t:=false) (W:=a::[61]::R) (i:=R.length) (st:=S) (by simp; omega)
     rw[this,← hsl]
     obtain⟨m,hm⟩:∃m,R.length=m+2:=⟨R.length-2,by omega⟩
     simp[hm]
    obtain⟨z,hz⟩:∃z,z=R[R.length-1]'(by omega):=⟨_,rfl⟩
    rw[← hz] at hs2
    have hzl:z.length<=line.length:=hWm z (by rw[hz]; simp)
    have ik1:∀S,Ad 1 (.list false 1 (strs (a::[61]::R))) (.int .i64 ((R.length:Int)+1)) S=some (.BN [.str z],S):=fun S=>by
     have:=IU (t:=false) (W:=a::[61]::R) (i:=R.length+1) (st:=S) (by simp)
     rw[show (((R.length+1:Nat)):Int)=(R.length:Int)+1 by omega] at this
     rw[this,hz]
     obtain⟨m,hm⟩:∃m,R.length=m+2:=⟨R.length-2,by omega⟩
     simp[hm]
    have hw1:IntKind.i64.wrap ((R.length:Int)+1)=(R.length:Int)+1:=wrap64 (by omega) (by simp at hWl; omega)
    have hnum:=fun S=>RX (k:=k) (s:=z) (st:=S) (by omega)
    unfold Kq at hnum
    cases hv:numOf z with
    |none=>
     rw[hv] at hnum hs2
     simp only[Io,Option.getD_none,Option.isSome_none] at hnum hs2
     obtain⟨h2,rv2,ls2,q1,q2,q3,q4,q5,G⟩:=fin (.list false 1 (strs R)) ⟨a,R,0⟩ ⟨.inr ⟨_,rfl⟩⟩ ⟨rfl,rfl⟩
     simp only at q1 q2 q4 q5
     have hbs:=cZ (c+1) (a:=.str a) (b:=.list false 1 (strs R)) (d:=.int .i64 0) ⟨rfl,rfl⟩
     simp[C.f30,hw,n0,n1,hle,Ap,Aj,CW,i0,i1,sl,hlt2,hk,hn9,hst,hfl,h2i,ik,ik1,hw1,hnum,hbs,q1,q2,q3,q4,q5,leave,results,AR]
     exact .inr ⟨_,_,_,_,hs2,rfl,G⟩
    |some v=>
     rw[hv] at hnum hs2
     simp only[Option.getD_some,Option.isSome_some] at hnum
     by_cases hv0:v=0
     ·subst hv0
      simp only[Io,if_true,Option.map_none] at hs2
      simp[C.f30,hw,n0,n1,hle,Ap,Aj,CW,i0,i1,sl,hlt2,hk,hn9,hst,hfl,h2i,ik,ik1,hw1,hnum,leave,results,AR]
      exact .inl ⟨hs2,rfl,B.f⟩
     ·simp only[Io,if_neg hv0,Option.map_some] at hs2
      have hv0':(v==0)=false:=by simpa using hv0
      have sl2:∀S,Bz 1 true true false [.list false 1 (strs (a::[61]::R)),.int .i64 2,.int .i64 (R.length:Int)] S=some (.list false 1 (strs (R.take (R.length-2))),S):=fun S=>by
       have:=Uk (t:=false) (W:=a::[61]::R) (i:=2) (j:=R.length) (st:=S) h2R (by simp; omega)
       obtain⟨m,hm⟩:∃m,R.length=m+2:=⟨R.length-2,by omega⟩
       rw[show ((a::[61]::R).take R.length).drop 2=R.take (R.length-2) by rw[hm]; simp] at this
       exact this
      obtain⟨h2,rv2,ls2,q1,q2,q3,q4,q5,G⟩:=fin (.list false 1 (strs (R.take (R.length-2)))) ⟨a,R.take (R.length-2),v⟩ ⟨.inr ⟨_,rfl⟩⟩ ⟨rfl,rfl⟩
      simp only at q1 q2 q4 q5
      have hbs:=cZ (c+1) (a:=.str a) (b:=.list false 1 (strs (R.take (R.length-2)))) (d:=.int .i64 v) ⟨rfl,rfl⟩
      have t1:BJ 1 (.AO c 1) (.list false 1 (strs (R.take (R.length-2)))) ⟨(c,.cells 47 3 [.str a,.list false 1 (strs R),.int .i64 0] false)::h,c+1,0⟩=some (.undef,⟨(c,.cells 47 3 [.str a,.list false 1 (strs (R.take (R.length-2))),.int .i64 0] false)::h,c+1,0⟩):=by
       rw[Fs,Bv rfl,Db]; simp[AV.isTuple,AV.cells,TK]
      have t2:BJ 1 (.AO c 2) (.int .i64 v) ⟨(c,.cells 47 3 [.str a,.list false 1 (strs (R.take (R.length-2))),.int .i64 0] false)::h,c+1,0⟩=some (.undef,⟨(c,.cells 47 3 [.str a,.list false 1 (strs (R.take (R.length-2))),.int .i64 v] false)::h,c+1,0⟩):=by
       rw[Fs,Bv rfl,Db]; simp[AV.isTuple,AV.cells,TK]
      simp[C.f30,hw,n0,n1,hle,Ap,Aj,CW,i0,i1,sl,hlt2,hk,hn9,hst,hfl,h2i,ik,ik1,hw1,hnum,hv0',hv0,sl2,t1,t2,hbs,q1,q2,q3,q4,q5,leave,results,AR]
      exact .inr ⟨_,_,_,_,hs2,rfl,G⟩
   ·have hru:FO (a::[61]::R)=some ⟨a,R,0⟩:=Rs hsl
    rw[hru] at hs2
    obtain⟨h2,rv2,ls2,q1,q2,q3,q4,q5,G⟩:=fin (.list false 1 (strs R)) ⟨a,R,0⟩ ⟨.inr ⟨_,rfl⟩⟩ ⟨rfl,rfl⟩
    simp only at q1 q2 q4 q5
    have hbs:=cZ (c+1) (a:=.str a) (b:=.list false 1 (strs R)) (d:=.int .i64 0) ⟨rfl,rfl⟩
    by_cases h2R:2<=R.length
    ·have h2i:(2:Int)<=(R.length:Int):=by omega
     have hx:R[R.length-2]?≠some [47]:=fun e=>hsl ⟨h2R,e⟩
     rw[List.getElem?_eq_getElem (by omega)] at hx
     have hx':((R[R.length-2]'(by omega))==[47])=false:=by simpa using hx
     have ik:∀S,Ad 1 (.list false 1 (strs (a::[61]::R))) (.int .i64 (R.length:Int)) S=some (.BN [.str (R[R.length-2]'(by omega))],S):=fun S=>by
      have:=IU (t:=false) (W:=a::[61]::R) (i:=R.length) (st:=S) (by simp; omega)
      rw[this]
      obtain⟨m,hm⟩:∃m,R.length=m+2:=⟨R.length-2,by omega⟩
      simp[hm]
     simp[C.f30,hw,n0,n1,hle,Ap,Aj,CW,i0,i1,sl,hlt2,hk,hn9,hst,hfl,h2i,ik,hx',hbs,q1,q2,q3,q4,q5,leave,results,AR]
     exact .inr ⟨_,_,_,_,hs2,rfl,G⟩
    ·have h2i:¬(2:Int)<=(R.length:Int):=by omega
     simp[C.f30,hw,n0,n1,hle,Ap,Aj,CW,i0,i1,sl,hlt2,hk,hn9,hst,hfl,h2i,hbs,q1,q2,q3,q4,q5,leave,results,AR]
     exact .inr ⟨_,_,_,_,hs2,rfl,G⟩
  ·rw[QH hok] at hs2
   match W,hWne with
   |[a],_=>
    simp[C.f30,hw,n0,n1,hle,Ap,Aj,CW,leave,results,AR]
    exact .inl ⟨hs2,rfl,H.f⟩
   |a::b::R,_=>
    have hb:(b !=[61])=true:=by
     have:b≠[61]:=fun e=>hok ⟨a,R,by rw[e]⟩
     simpa using this
    have hb2:(b==[61])=false:=by simpa using hb
    have hlt2:¬((R.length:Int)+1+1<2):=by omega
    have i1:∀S,Ad 1 (.list false 1 (strs (a::b::R))) (.int .i64 1) S=some (.BN [.str b],S):=fun S=>IU (W:=a::b::R) (i:=1) (by simp)
    simp[C.f30,hw,n0,n1,hle,Ap,Aj,CW,i1,hlt2,hb,hb2,leave,results,AR]
    exact .inl ⟨hs2,rfl,H.f⟩
end Go.Am
