/- A part of the proof of beginningsTold (merged by a program). -/
import Derived.Test.YtehhlchbbdaipaaGreatDoorW4
namespace Go.Am
open Go
inductive Yv (g:AX) (k:Aj):Aj->Prop
 |kind (h:k∈g.kinds):Yv g k k
 |KP {r:Ba} {a b:List Aj} {x:Aj} (hr:r∈g.rules) (e:r.right=a++x::b) (ha:∀y∈a,Im g y) (hx:Yv g k x):Yv g k r.left
def MK (g:AX)(k:Aj)(l:List Aj):Prop:=∃a x b,l=a++x::b/\(∀y∈a,Im g y)/\Yv g k x
theorem QY {g:AX}{k x:Aj}{l:List Aj}:MK g k (x::l)↔Yv g k x∨(Im g x/\MK g k l):=by
 constructor
 ·rintro⟨a,y,b,e,ha,hy⟩
  cases a with
  |nil=>
   simp only[List.nil_append,List.cons.injEq] at e
   exact .inl (e.1 ▸ hy)
  |cons z a=>
   simp only[List.cons_append,List.cons.injEq] at e
   obtain⟨rfl,rfl⟩:=e
   exact .inr ⟨ha x (by simp),a,y,b,rfl,fun q hq=>ha q (List.mem_cons_of_mem _ hq),hy⟩
 ·rintro (h|⟨h,a,y,b,rfl,ha,hy⟩)
  ·exact⟨[],x,l,rfl,by simp,h⟩
  ·exact⟨x::a,y,b,rfl,fun q hq=>by
    rcases List.mem_cons.1 hq with e|hq
    ·subst e; exact h
    ·exact ha q hq,hy⟩
theorem Yv.xG {g:AX}{k:Aj}{r:Ba}(hr:r∈g.rules)(h:MK g k r.right):Yv g k r.left:=by
 obtain⟨a,x,b,e,ha,hx⟩:=h
 exact .KP hr e ha hx
theorem Yv.kinds {g:AX}{k s:Aj}(h:Yv g k s):k∈g.kinds:=by
 induction h with
 |kind h=>exact h
 |KP _ _ _ _ ih=>exact ih
theorem MK.kinds {g:AX}{k:Aj}{l:List Aj}(h:MK g k l):k∈g.kinds:=by
 obtain⟨_,_,_,_,_,h⟩:=h; exact h.kinds
theorem dw {g:AX}{s:Aj}(h:Im g s):s∈g.CB:=by
 cases h with
 |base h=>exact h.elim
 |KP hr _=>exact AX.Mq hr
inductive Mc (g:AX) (k:Aj):Aj->Prop
 |here {r:Ba} {a b:List Aj} {s:Aj} (hr:r∈g.rules) (hR:Reach g r.left) (e:r.right=a++s::b) (h:MK g k b):Mc g k s
 |up {r:Ba} {a b:List Aj} {s:Aj} (hr:r∈g.rules) (hR:Reach g r.left) (e:r.right=a++s::b) (hb:∀y∈b,Im g y) (h:Mc g k r.left):Mc g k s
inductive Pp (g:AX):Aj->Prop
 |start:Pp g g.start
 |up {r:Ba} {a b:List Aj} {s:Aj} (hr:r∈g.rules) (hR:Reach g r.left) (e:r.right=a++s::b) (hb:∀y∈b,Im g y) (h:Pp g r.left):Pp g s
theorem Mc.kinds {g:AX}{k s:Aj}(h:Mc g k s):k∈g.kinds:=by
 induction h with
 |here _ _ _ h=>exact h.kinds
 |up _ _ _ _ _ ih=>exact ih
theorem NP {a:Nat}(h:a<2 ^ 64):(BitVec.ofInt IntKind.u64.bits (a:Int)).toNat=a:=by
 show (BitVec.ofInt 64 (a:Int)).toNat=a
 rw[BitVec.ofInt_natCast,BitVec.toNat_ofNat,Nat.mod_eq_of_lt h]
theorem Og {a:Nat}(h:a<2 ^ 64):IntKind.u64.wrap (a:Int)=a:=by
 have h1:((a:Int))<2 ^ 64:=by exact_mod_cast h
 have h2:(a:Int) % 2 ^ 64=a:=Int.emod_eq_of_lt (by omega) h1
 unfold IntKind.wrap
 simp only[IntKind.signed,IntKind.bits,Bool.false_and,Bool.false_eq_true,if_false]
 exact h2
theorem Re {a b:Nat}(ha:a<2 ^ 64)(hb:b<2 ^ 64):bin .or (.int .u64 (a:Int)) (.int .u64 (b:Int))=some (.int .u64 ((a ||| b:Nat):Int)):=by
 show some (AV.int .u64 (IntKind.u64.wrap ((BitVec.ofInt IntKind.u64.bits (a:Int) ||| BitVec.ofInt IntKind.u64.bits (b:Int)).toNat:Nat)))=_
 rw[BitVec.toNat_or,NP ha,NP hb,Og (Nat.or_lt_two_pow ha hb)]
def QG (a b:Nat):Nat:=(BitVec.ofNat 64 a &&& ~~~ BitVec.ofNat 64 b).toNat
theorem XI {a b:Nat}:bin .andNot (.int .u64 (a:Int)) (.int .u64 (b:Int))=some (.int .u64 ((QG a b:Nat):Int)):=by
 show some (AV.int .u64 (IntKind.u64.wrap ((BitVec.ofInt IntKind.u64.bits (a:Int) &&& ~~~ BitVec.ofInt IntKind.u64.bits (b:Int)).toNat:Nat)))=_
 have:(BitVec.ofInt IntKind.u64.bits (a:Int) &&& ~~~ BitVec.ofInt IntKind.u64.bits (b:Int)).toNat=QG a b:=by
  unfold QG
  show (BitVec.ofInt 64 (a:Int) &&& ~~~ BitVec.ofInt 64 (b:Int)).toNat=_
  rw[BitVec.ofInt_natCast,BitVec.ofInt_natCast]
 rw[this,Og]
 unfold QG
 exact (BitVec.ofNat 64 a &&& ~~~ BitVec.ofNat 64 b).isLt
theorem XF {a b:Nat}(ha:a<2 ^ 64)(hb:b<2 ^ 64)(j:Nat):(QG a b).testBit j=(a.testBit j&&!b.testBit j):=by
 unfold QG
 rw[BitVec.testBit_toNat]
 by_cases hj:j<64
 ·rw[BitVec.getLsbD_and,BitVec.getLsbD_not,BitVec.getLsbD_ofNat,BitVec.getLsbD_ofNat]; simp[hj]
 ·have h1:a.testBit j=false:=Nat.testBit_lt_two_pow (Nat.lt_of_lt_of_le ha (Nat.pow_le_pow_right (by omega) (by omega)))
  rw[h1,BitVec.getLsbD_and,BitVec.getLsbD_ofNat]; simp[hj]
theorem QF {a b:Nat}(ha:a<2 ^ 64)(hb:b<2 ^ 64):QG a b=0↔∀j,a.testBit j=true->b.testBit j=true:=by
 constructor
 ·intro h j hj
  have:=XF ha hb j
  rw[h,hj] at this
  simpa using this
 ·intro h
  apply Nat.eq_of_testBit_eq
  intro j
  rw[XF ha hb,Nat.zero_testBit]
  cases h1:a.testBit j with
  |false=>rfl
  |true=>rw[h j h1]; rfl
theorem jC {s:Nat}(h:s<64):bin .shl (.int .u64 1) (.int .i64 (s:Int))=some (.int .u64 ((2 ^ s:Nat):Int)):=by
 have h0:¬((s:Int)<0):=by omega
 show (if ((s:Int)<0) then none else some (AV.int .u64 (IntKind.u64.wrap (1*2 ^ min (s:Int).toNat IntKind.u64.bits))))=_
 rw[if_neg h0]
 have e:min (s:Int).toNat IntKind.u64.bits=s:=by
  show min (s:Int).toNat 64=s
  simp only[Int.toNat_natCast]; omega
 rw[e,Int.one_mul]
 have e2:((2:Int) ^ s)=((2 ^ s:Nat):Int):=by simp
 rw[e2,Og (Nat.pow_lt_pow_right (by omega) h)]
theorem jD {m s:Nat}(hm:m<2 ^ 64)(h:s<64):∃x:Nat,(bin .shr (.int .u64 (m:Int)) (.int .i64 (s:Int)))=some (.int .u64 (x:Int))/\bin .and (.int .u64 (x:Int)) (.int .u64 1)=some (.int .u64 ((m.testBit s).toNat:Int)):=by
 refine⟨m >>> s,?_⟩
 have hsh:m >>> s<2 ^ 64:=by rw[Nat.shiftRight_eq_div_pow]; exact Nat.lt_of_le_of_lt (Nat.div_le_self _ _) hm
 constructor
 ·have h0:¬((s:Int)<0):=by omega
  show (if ((s:Int)<0) then none else some (AV.int .u64 ((m:Int).fdiv (2 ^ min (s:Int).toNat IntKind.u64.bits))))=_
  rw[if_neg h0]
  have e:min (s:Int).toNat IntKind.u64.bits=s:=by
   show min (s:Int).toNat 64=s
   simp only[Int.toNat_natCast]; omega
  rw[e,Nat.shiftRight_eq_div_pow]
  have e2:((2:Int) ^ s)=((2 ^ s:Nat):Int):=by simp
  rw[e2,Int.fdiv_eq_ediv_of_nonneg _ (Int.natCast_nonneg _),← Int.natCast_ediv]
 ·show some (AV.int .u64 (IntKind.u64.wrap ((BitVec.ofInt IntKind.u64.bits ((m >>> s:Nat):Int) &&& BitVec.ofInt IntKind.u64.bits ((1:Nat):Int)).toNat:Nat)))=_
  rw[BitVec.toNat_and,NP hsh,NP (by omega),Og (Nat.lt_of_le_of_lt Nat.and_le_left hsh)]
  have e:m >>> s &&& 1=(m.testBit s).toNat:=by
   rw[Nat.and_one_is_mod,Nat.shiftRight_eq_div_pow,Nat.toNat_testBit]
  rw[e]
@[simp] theorem vV {a b:Int}:bin .neq (.int .u64 a) (.int .u64 b)=some (.bool (a != b)):=rfl
@[simp] theorem vX {a b:Int}:bin .eql (.int .u64 a) (.int .u64 b)=some (.bool (a==b)):=rfl
def Ci (l:List Nat):List AV:=l.map fun (n:Nat)=>AV.int .u64 (n:Int)
@[simp] theorem VR (l:List Nat):(Ci l).length=l.length:=by simp[Ci]
theorem masks_get? (B:List Nat)(j:Nat)(h:j<B.length):(Ci B)[j]?=some (.int .u64 ((B.getD j 0:Nat):Int)):=by simp[Ci,List.getD,h]
theorem QJ (B:List Nat)(j b:Nat):(Ci B).set j (.int .u64 (b:Int))=Ci (B.set j b):=by simp[Ci,List.map_set]
theorem KC {B:List Nat}{i a:Nat}(h:i<B.length)(p:Nat):(B.set i a).getD p 0=if p=i then a else B.getD p 0:=by
 simp only[List.getD,List.getElem?_set]
 by_cases e:p=i
 ·subst e; simp[h]
 ·rw[if_neg (Ne.symm e),if_neg e]
def Io (B:List Nat):Prop:=∀x,B.getD x 0<2 ^ 64
theorem Io.set {B:List Nat}(h:Io B){i a:Nat}(hi:i<B.length)(ha:a<2 ^ 64):Io (B.set i a):=fun x=>by
 rw[KC hi]; split
 ·exact ha
 ·exact h x
structure Rd (h:Af)(w:AV)(n:Nat)(f:Nat->AV):Prop where
 len:Bq w=some n
 at_:∀(i:Nat),i<n->∀st:St,st.h=h->∃p,Aa 1 w (.int .i64 (i:Int)) st=some (p,st)/\AP h p=some (f i)
theorem Rd.sl {h:Af}{w:AV}{xs:List AV}(H:BI w 1 xs)(hc:∀x∈xs,x.cells=[x]):Rd h w xs.length fun i=>xs.getD i .undef where
 len:=H.QL
 at_:=fun i hi st _=>⟨_,H.idx hi,by
  rw[hc _ (List.getElem_mem hi)]; simp[List.getD,hi]⟩
theorem Rd.obj {h:Af}{o n ty sz:Nat}{cap:Option Nat}{cs:List AV}{ext:Bool}{f:Nat->AV}(hf:AA h o=some (.cells ty 1 cs ext))(hc:∀i,i<n->cs[i]?=some (f i)):Rd h (.AQ o 0 n cap) n f where
 len:=rfl
 at_:=fun i hi st hs=>by
  subst hs
  exact⟨_,Gc hf hi,by rw[AB hf]; exact hc i hi⟩
theorem Rd.BJ {h:Af}{w:AV}{B:List Bool}(H:BI w 1 (BJ B)):Rd h w B.length fun i=>.bool (B.getD i false) where
 len:=by rw[H.QL]; simp
 at_:=fun i hi st _=>⟨_,H.idx (by simpa using hi),by simp[Go.Am.BJ,AV.cells,List.getD,hi]⟩
theorem Rd.Ci {h:Af}{w:AV}{B:List Nat}(H:BI w 1 (Ci B)):Rd h w B.length fun i=>.int .u64 ((B.getD i 0:Nat):Int) where
 len:=by rw[H.QL]; simp
 at_:=fun i hi st _=>⟨_,H.idx (by simpa using hi),by simp[Go.Am.Ci,AV.cells,List.getD,hi]⟩
theorem Rd.pE {h:Af}{o n ty:Nat}{cap:Option Nat}{B:List Nat}{ext:Bool}(hf:AA h o=some (.cells ty 1 (Go.Am.Ci B) ext))(hn:n<=B.length):Rd h (.AQ o 0 n cap) n fun i=>.int .u64 ((B.getD i 0:Nat):Int):=
 Rd.obj (sz:=1) hf fun i hi=>masks_get? B i (by omega)
theorem Rd.ints {h:Af}{w:AV}{B:List Nat}(H:BI w 1 (ints B)):Rd h w B.length fun i=>.int .i64 ((B.getD i 0:Nat):Int) where
 len:=by rw[H.QL]; simp
 at_:=fun i hi st _=>⟨_,H.idx (by simpa using hi),by simp[Go.Am.ints,AV.cells,List.getD,hi]⟩
def fo (F:List Nat)(N:List Bool):List Nat->Nat × Bool
 |[]=>(0,true)
 |x::l=>if N.getD x false=true then (F.getD x 0 ||| (fo F N l).1,(fo F N l).2) else (F.getD x 0,false)
theorem mV {F:List Nat}{N:List Bool}{x:Nat}{l:List Nat}:fo F N (x::l)=if N.getD x false=true then (F.getD x 0 ||| (fo F N l).1,(fo F N l).2) else (F.getD x 0,false):=rfl
theorem Uh {F:List Nat}{N:List Bool}(h:Io F):∀l,(fo F N l).1<2 ^ 64
 |[]=>by show 0<2 ^ 64; omega
 |x::l=>by
  unfold fo; split
  ·exact Nat.or_lt_two_pow (h x) (Uh h l)
  ·exact h x
theorem Xn {F:List Nat}{N:List Bool}:∀l,(fo F N l).2=l.all fun x=>N.getD x false
 |[]=>rfl
 |x::l=>by
  unfold fo; split
  ·rename_i h; rw[List.all_cons,h]; simpa using Xn l
  ·rename_i h; rw[List.all_cons,Bool.not_eq_true] at *; rw[h]; rfl
theorem NC {k n:Nat}{fv nv lv:AV}{F:List Nat}{N:List Bool}{l:List Nat}{st:St}(hF:Rd st.h fv n fun i=>.int .u64 ((F.getD i 0:Nat):Int))(hN:Rd st.h nv n fun i=>.bool (N.getD i false))(hl:Rd st.h lv l.length fun i=>.int .i64 ((l.getD i 0:Nat):Int))(hln:∀x∈l,x<n)(hw:Io F)(hll:l.length<1000000) :
 AU E (k+1) 85 [fv,nv,lv] st=.ret (.tuple [.int .u64 (((fo F N l).1:Nat):Int),.bool (fo F N l).2],st):=by
 rw[BS (fn:=C.f85) rfl rfl rfl,Ad (by simp)]
 have goal:((Ar E (AU E k) C.f85.body (TS.CY [fv,nv,lv] 0 .nil) { st with lo:=st.c }).bind (leave C.f85.results)).to fun x=>x.1=.tuple [.int .u64 (((fo F N l).1:Nat):Int),.bool (fo F N l).2]:=by
  have hlen:BO .slice lv ⟨st.h,st.c,st.c⟩=some (.int .i64 (l.length:Int),⟨st.h,st.c,st.c⟩):=by simp[BO,hl.len]
  simp[-List.getD_eq_getElem?_getD,C.f85,hlen]
  refine M.Al (DU (fun (i:Nat) ts st1=>i<=l.length/\ts.get 0=fv/\ts.get 1=nv/\ts.get 11=lv/\ts.get 12=.int .i64 (l.length:Int)/\ts.get 13=.int .i64 (i:Int)/\st1=⟨st.h,st.c,st.c⟩/\∃m,m<2 ^ 64/\ts.get 8=.int .u64 ((m:Nat):Int)/\((m ||| (fo F N (l.drop i)).1),(fo F N (l.drop i)).2)=fo F N l)
   (fun i=>l.length-i) (fun e ts st1=>st1=⟨st.h,st.c,st.c⟩/\((e=.exit 0/\ts.get 8=.int .u64 (((fo F N l).1:Nat):Int)/\(fo F N l).2=true)∨(e=.ret/\ts.get 6=.int .u64 (((fo F N l).1:Nat):Int)/\ts.get 7=.bool (fo F N l).2))) ?step _ 0 _ _ ?_ ?_) ?_
  case step=>
   rintro i ts st1 ⟨hi,z0,z1,z11,z12,z13,rfl,m,hm,z8,hfo⟩
   by_cases Au:i<l.length
   ·have hx:=hln _ (List.getElem_mem Au)
    have hd:l.getD i 0=l[i]:=by simp[List.getD,Au]
    obtain⟨q1,a1,b1⟩:=hl.at_ i Au ⟨st.h,st.c,st.c⟩ rfl
    rw[hd] at b1
    obtain⟨q2,a2,b2⟩:=hF.at_ _ hx ⟨st.h,st.c,st.c⟩ rfl
    obtain⟨q3,a3,b3⟩:=hN.at_ _ hx ⟨st.h,st.c,st.c⟩ rfl
    have hor:=Re hm (hw l[i])
    have Gu:l.drop i=l[i]::l.drop (i+1):=List.drop_eq_getElem_cons Au
    rw[Gu,mV] at hfo
    cases hnx:N.getD l[i] false with
    |true=>
     rw[hnx] at b3
     rw[if_pos hnx] at hfo
     simp[-List.getD_eq_getElem?_getD,C.f85L0,z0,z1,z8,z11,z12,z13,Au,a1,b1,a2,b2,a3,b3,hor,wi i]
     refine⟨i+1,by omega,by omega,by simp,m ||| F.getD l[i] 0,Nat.or_lt_two_pow hm (hw _),rfl,?_⟩
     rw[← hfo,Nat.or_assoc]
    |false=>
     rw[hnx] at b3
     rw[if_neg (by rw[hnx]; simp)] at hfo
     simp[-List.getD_eq_getElem?_getD,C.f85L0,z0,z1,z8,z11,z12,z13,Au,a1,b1,a2,b2,a3,b3,hor,← hfo]
   ·have:i=l.length:=by omega
    subst this
    rw[List.drop_length] at hfo
    have h1:fo F N l=(m,true):=by rw[← hfo]; simp[fo]
    simp[-List.getD_eq_getElem?_getD,C.f85L0,z0,z1,z8,z11,z12,z13,h1]
  ·show l.length-0<1000000; omega
  ·exact⟨by omega,by simp,by simp,by simp,by simp,by simp,rfl,0,by omega,by simp,by simp⟩
  ·rintro⟨e,ts,st1⟩ ⟨rfl,h⟩
   rcases h with⟨rfl,h,h2⟩|⟨rfl,h,h2⟩
   ·simp only at h
    simp[h,h2,leave,results,AY]
   ·simp only at h h2
    simp[h,h2,leave,results,AY]
 obtain⟨⟨w,st'⟩,r1,r2⟩:=goal
 simp only at r2
 subst r2
 rw[r1]
 simp only[M.CE]
 exact Ca rfl
def MI (g:AX)(F:List Nat):Prop:=∀s∈g.names,∀j,(F.getD (g.ix s) 0).testBit j=true->∃hj:j<g.kinds.length,Yv g g.kinds[j] s
def Ke (g:AX)(N:List Bool):Prop:=∀s∈g.names,(N.getD (g.ix s) false=true↔Im g s)
theorem TF {g:AX}{F:List Nat}{N:List Bool}(hN:Ke g N)(hF:MI g F):∀{l:List Aj},(∀s∈l,s∈g.names)->∀j,(fo F N (l.map g.ix)).1.testBit j=true->∃hj:j<g.kinds.length,MK g g.kinds[j] l
 |[],_,j,h=>by simp[fo] at h
 |x::l,hl,j,h=>by
  have hx:=hl x (by simp)
  have hl':∀s∈l,s∈g.names:=fun s hs=>hl s (List.mem_cons_of_mem _ hs)
  rw[List.map_cons] at h
  unfold fo at h
  split at h
  ·rename_i hn
   rw[Nat.testBit_or,Bool.or_eq_true] at h
   rcases h with h|h
   ·obtain⟨hj,hb⟩:=hF x hx j h
    exact⟨hj,QY.2 (.inl hb)⟩
   ·obtain⟨hj,hb⟩:=TF hN hF hl' j h
    exact⟨hj,QY.2 (.inr ⟨(hN x hx).1 hn,hb⟩)⟩
  ·obtain⟨hj,hb⟩:=hF x hx j h
   exact⟨hj,QY.2 (.inl hb)⟩
theorem ME {g:AX}{F:List Nat}{N:List Bool}(hN:Ke g N){j:Nat}:∀{l:List Aj},(∀s∈l,s∈g.names)->∀{a b:List Aj} {x:Aj},l=a++x::b->(∀y∈a,Im g y)->(F.getD (g.ix x) 0).testBit j=true->(fo F N (l.map g.ix)).1.testBit j=true
 |[],_,a,b,x,e,_,_=>by simp at e
 |y::l,hl,a,b,x,e,ha,hx=>by
  have hl':∀s∈l,s∈g.names:=fun s hs=>hl s (List.mem_cons_of_mem _ hs)
  rw[List.map_cons]
  cases a with
  |nil=>
   simp only[List.nil_append,List.cons.injEq] at e
   obtain⟨rfl,rfl⟩:=e
   unfold fo; split
   ·rw[Nat.testBit_or,hx]; rfl
   ·exact hx
  |cons z a=>
   simp only[List.cons_append,List.cons.injEq] at e
   obtain⟨rfl,rfl⟩:=e
   have hn:=(hN y (hl y (by simp))).2 (ha y (by simp))
   unfold fo
   rw[if_pos hn,Nat.testBit_or,ME hN hl' rfl (fun q hq=>ha q (List.mem_cons_of_mem _ hq)) hx,Bool.or_true]
theorem Rm {g:AX}{F:List Nat}{N:List Bool}(hN:Ke g N){l:List Aj}(hl:∀s∈l,s∈g.names):(fo F N (l.map g.ix)).2=true↔∀y∈l,Im g y:=by
 rw[Xn,List.all_eq_true]
 constructor
 ·intro h y hy
  exact (hN y (hl y hy)).1 (h _ (List.mem_map_of_mem hy))
 ·intro h x hx
  obtain⟨y,hy,rfl⟩:=List.mem_map.1 hx
  exact (hN y (hl y hy)).2 (h y hy)
def KN (g:AX)(F:List Nat):Prop:=∀s∈g.names,∀j,(F.getD (g.ix s) 0).testBit j=true↔∃hj:j<g.kinds.length,Yv g g.kinds[j] s
theorem TG {g:AX}{F:List Nat}{N:List Bool}(hN:Ke g N)(hF:KN g F){l:List Aj}(hl:∀s∈l,s∈g.names)(j:Nat):(fo F N (l.map g.ix)).1.testBit j=true↔∃hj:j<g.kinds.length,MK g g.kinds[j] l:=by
 constructor
 ·exact TF hN (fun s hs j h=>(hF s hs j).1 h) hl j
 ·rintro⟨hj,a,x,b,e,ha,hx⟩
  exact ME hN hl e ha ((hF x (hl x (by rw[e]; simp)) j).2 ⟨hj,hx⟩)
structure FE (cv nv:AV)(n:Nat)(F:List Nat)(st:St):Prop where
 hb:HB st
 lo:st.lo=0
 c:3<st.c
 o0:AA st.h 0=some (.cells 77 1 [cv] false)
 o1:AA st.h 1=some (.cells 79 1 [nv] false)
 o2:AA st.h 2=some (.cells 102 1 (Ci F) false)
 o3:AA st.h 3=some (.cells 105 1 [.AQ 2 0 n (some n)] false)
 len:F.length=n
 nw:Io F
def ny (g:AX)(F:List Nat)(N:List Bool)(r:Ba):Nat:=(fo F N (r.right.map g.ix)).1
def wR (g:AX):List (Nat × Nat):=g.rules.flatMap fun r=>(List.range 64).map fun j=>(g.ix r.left,j)
def QT (g:AX)(F:List Nat):Nat:=(wR g).countP fun p=>!(F.getD p.1 0).testBit p.2
theorem ZV {g:AX}(hs:g.Small):(wR g).length<=768:=by
 have hm:=hs.many
 have:∀R:List Ba,(R.flatMap fun r=>(List.range 64).map fun j=>(g.ix r.left,j)).length=R.length*64:=by
  intro R
  induction R with
  |nil=>rfl
  |cons r R ih=>rw[List.flatMap_cons,List.length_append,ih,List.length_cons,Nat.succ_mul]; simp; omega
 unfold wR
 rw[this]; omega
theorem nD {g:AX}(hs:g.Small)(F:List Nat):QT g F<=768:=Nat.le_trans List.countP_le_length (ZV hs)
theorem Uv {a j:Nat}(ha:a<2 ^ 64)(h:a.testBit j=true):j<64:=by
 rcases Nat.lt_or_ge j 64 with h1|h1
 ·exact h1
 ·rw[Nat.testBit_lt_two_pow (Nat.lt_of_lt_of_le ha (Nat.pow_le_pow_right (by omega) h1))] at h; cases h
theorem nC {g:AX}{F F':List Nat}(h:∀x j,(F.getD x 0).testBit j=true->(F'.getD x 0).testBit j=true){r:Ba}(hr:r∈g.rules){j:Nat}(hj:j<64)(h1:(F.getD (g.ix r.left) 0).testBit j=false)(h2:(F'.getD (g.ix r.left) 0).testBit j=true):QT g F'<QT g F:=
 Jk (a:=(g.ix r.left,j)) (fun x _ hx=>by
  cases hb:(F.getD x.1 0).testBit x.2 with
  |true=>rw[h _ _ hb] at hx; cases hx
  |false=>rfl) (List.mem_flatMap.2 ⟨r,hr,List.mem_map.2 ⟨j,List.mem_range.2 hj,rfl⟩⟩) (by show (!(F'.getD (g.ix r.left) 0).testBit j)=false; rw[h2]; rfl) (by show (!(F.getD (g.ix r.left) 0).testBit j)=true; rw[h1]; rfl)
def MJ (g:AX)(F:List Nat)(N:List Bool)(r:Ba):Prop:=∀j,(ny g F N r).testBit j=true->(F.getD (g.ix r.left) 0).testBit j=true
def RJ (F F':List Nat):Prop:=∀x j,(F.getD x 0).testBit j=true->(F'.getD x 0).testBit j=true
section
variable {cv nv:AV}{g:AX}{N:List Bool}
set_option maxHeartbeats 4000000 in
theorem Xo {k:Nat}(hs:g.Small)(hok:g.Ok)(hnv:BI nv 1 (BJ N))(hNl:N.length=g.names.length)(hN:Ke g N)(rv:AV)(lr:List AV)(h2:BI rv 3 lr)(h3:lr.length=g.rules.length)(h4:∀j (hj:j<g.rules.length),∃w,lr[j]?=some (.agg [.int .i64 (g.ix g.rules[j].left:Nat),w,.int .i64 g.rules[j].level])/\BI w 1 (ints (g.rules[j].right.map g.ix)))(F0:List Nat)(st:St)(H:FE cv nv g.names.length F0 st)(hS0:MI g F0)(ts0:TS)(z0:ts0.get 0=.AO 0 0)(z1:ts0.get 1=.AO 3 0)(z2:ts0.get 2=.AO 1 0)(z4:ts0.get 4=.bool false)(z12:ts0.get 12=rv)(z13:ts0.get 13=.int .i64 (g.rules.length:Int))(z14:ts0.get 14=.int .i64 ((0:Nat):Int)) :
 (CJ (Ar E (AU E (k+1)) C.f157L0) E.k ts0 st).to fun x=>x.1=.exit 0/\∃F more,x.2.1.get 4=.bool more/\FE cv nv g.names.length F x.2.2/\MI g F/\RJ F0 F /\
  ((more=true/\QT g F<QT g F0)∨(more=false/\∀r∈g.rules,MJ g F N r)):=by
 have hmany:=hs.many
 refine Be (fun (i:Nat) ts st=>i<=g.rules.length/\ts.get 0=.AO 0 0/\ts.get 1=.AO 3 0/\ts.get 2=.AO 1 0/\ts.get 12=rv/\ts.get 13=.int .i64 (g.rules.length:Int)/\ts.get 14=.int .i64 (i:Int)/\∃F more,ts.get 4=.bool more/\FE cv nv g.names.length F st/\MI g F/\RJ F0 F /\
  ((more=true/\QT g F<QT g F0)∨(more=false/\F=F0/\∀j (hj:j<g.rules.length),j<i->MJ g F N g.rules[j])))
  (fun i=>g.rules.length-i) ?_ _ 0 _ _ ?_ ?_
 ·rintro i ts st ⟨hi,z0,z1,z2,z12,z13,z14,F,more,z4,H,hB,hBB,hM⟩
  by_cases Au:i<g.rules.length
  ·have hil:i<lr.length:=by omega
   obtain⟨w,e1,e2⟩:=h4 i Au
   rw[List.getElem?_eq_getElem hil,Option.some.injEq] at e1
   have hmem:=List.getElem_mem Au
   have hsr:=(hs.rules _ hmem).right
   obtain⟨h,c,lo⟩:=st
   have hlo:lo=0:=H.lo
   subst hlo
   have hc3:3<c:=H.c
   have hb':∀p x,(p,x)∈h->p<c:=H.hb
   obtain⟨sI,hsI⟩:∃s,s=g.ix g.rules[i].left:=⟨_,rfl⟩
   have hsn:sI<g.names.length:=hsI ▸ Rj (AX.Ch hmem)
   rw[← hsI] at e1
   obtain⟨rc,hrc⟩:∃rc:List AV,rc=[.int .i64 (sI:Int),w,.int .i64 g.rules[i].level]:=⟨_,rfl⟩
   obtain⟨h',hh'⟩:∃h':Af,h'=(c,Ai.cells 160 3 rc false)::h:=⟨_,rfl⟩
   have hbS:HB ⟨h',c+1,0⟩:=hh' ▸ HB.cons (h:=h) (c:=c) (lo:=0) H.hb (by omega) (by omega)
   have fr:∀p,p<c->AA h' p=AA h p:=fun p hp=>by rw[hh',Ao hp]
   have H':FE cv nv g.names.length F ⟨h',c+1,0⟩:=⟨hbS,rfl,by show 3<c+1; omega,(fr 0 (by omega)).trans H.o0,(fr 1 (by omega)).trans H.o1,(fr 2 (by omega)).trans H.o2,(fr 3 (by omega)).trans H.o3,H.len,H.nw⟩
   have hix:Aa 3 rv (.int .i64 (i:Int)) ⟨h,c+1,0⟩=some (.BC lr[i].cells,⟨h,c+1,0⟩):=h2.idx hil
   have hcells:lr[i].cells=rc:=by rw[e1,hrc]; rfl
   rw[hcells] at hix
   have hn:newObj c (.cells 160 3 [.int .i64 0,.AJ,.int .i64 0] false) ⟨h,c+1,0⟩=some ⟨(c,.cells 160 3 [.int .i64 0,.AJ,.int .i64 0] false)::h,c+1,0⟩:=Ac hb'
   have hst:=CO (h:=h) (c:=c) (c':=c+1) (lo:=0) (ty:=160) (n:=3) (zs:=[.int .i64 0,.AJ,.int .i64 0]) (vs:=rc) (by omega) (by rw[hrc]; rfl) rfl
   rw[← hh'] at hst
   have hrd3:AZ h (.BC rc) 3=some rc:=by rw[hrc]; rfl
   have fc:AA h' c=some (.cells 160 3 rc false):=by rw[hh',AL,if_pos rfl]
   have rc0:AP h' (.AO c 0)=some (.int .i64 (sI:Int)):=by rw[AB fc,hrc]; rfl
   have rc1:AP h' (.AO c 1)=some w:=by rw[AB fc,hrc]; rfl
   have r1:AP h' (.AO 1 0)=some nv:=by rw[AB H'.o1]; rfl
   have r3:AP h' (.AO 3 0)=some (.AQ 2 0 g.names.length (some g.names.length)):=by rw[AB H'.o3]; rfl
   have ixA:=Gc (st:=⟨h',c+1,0⟩) (n:=g.names.length) (cap:=some g.names.length) H'.o2 hsn
   have hlenF:=H'.len
   have rA:AP h' (.AO 2 sI)=some (.int .u64 ((F.getD sI 0:Nat):Int)):=by rw[AB H'.o2,masks_get? _ _ (by omega)]
   have hRn:Rd h' nv g.names.length fun i=>.bool (N.getD i false):=hNl ▸ Rd.BJ hnv
   have hcall:=NC (k:=k) (n:=g.names.length) (st:=⟨h',c+1,0⟩) (F:=F) (N:=N) (l:=g.rules[i].right.map g.ix) (Rd.pE (cap:=some g.names.length) H'.o2 (by omega)) hRn (Rd.ints e2) (fun x hx=>by
    obtain⟨y,hy,rfl⟩:=List.mem_map.1 hx
    exact Rj (AX.FK hok hmem hy)) H.nw (by simp; omega)
   obtain⟨m,hm⟩:∃m,m=ny g F N g.rules[i]:=⟨_,rfl⟩
   have hm':(fo F N (g.rules[i].right.map g.ix)).1=m:=hm.symm
   rw[hm'] at hcall
   have hm64:m<2 ^ 64:=by rw[← hm']; exact Uh H.nw _
   have hnot:=XI (a:=m) (b:=F.getD sI 0)
   have hor:=Re (H.nw sI) hm64
   have hnext:∀F':List Nat,F'=F->(∀j (hj:j<g.rules.length),j<i->MJ g F N g.rules[j])->MJ g F N g.rules[i]->∀j (hj:j<g.rules.length),j<i+1->MJ g F N g.rules[j]:=fun _ _ hall hthis j hj hji=>by
    rcases Nat.lt_or_ge j i with h|h
    ·exact hall j hj h
    ·have:j=i:=by omega
     subst this; exact hthis
   by_cases hz:QG m (F.getD sI 0)=0
   ·rw[hz] at hnot
    simp[-Bool.exists_bool,-List.getD_eq_getElem?_getD,C.f157L0,Az,Av,z0,z1,z2,z4,z12,z13,z14,Au,hix,-Aw,hrd3,hn,hst,r1,r3,rc0,rc1,hcall,ixA,rA,hnot,wi i]
    refine⟨i+1,by omega,by omega,by simp,F,H',hB,hBB,?_⟩
    rcases hM with⟨m1,m2⟩|⟨m1,m2,m3⟩
    ·exact .inl ⟨m1,m2⟩
    ·refine .inr ⟨m1,m2,hnext F rfl m3 fun j hj=>?_⟩
     rw[← hm] at hj
     rw[← hsI]
     exact (QF hm64 (H.nw sI)).1 hz j hj
   ·have hzI:¬((QG m (F.getD sI 0):Nat):Int)=0:=by omega
    have hzb:(((QG m (F.getD sI 0):Nat):Int) != 0)=true:=by simpa using hz
    have s1:=BX (st:=⟨h',c+1,0⟩) (off:=sI) (v:=.int .u64 ((F.getD sI 0 ||| m:Nat):Int)) H'.o2 (Nat.zero_le _) (by simp; omega) rfl rfl
    rw[QJ] at s1
    simp[-Bool.exists_bool,-List.getD_eq_getElem?_getD,C.f157L0,Az,Av,z0,z1,z2,z4,z12,z13,z14,Au,hix,-Aw,hrd3,hn,hst,r1,r3,rc0,rc1,hcall,ixA,rA,hnot,hzb,hz,hzI,hor,s1,wi i]
    have hsB:sI<F.length:=by omega
    have hg':RJ F (F.set sI (F.getD sI 0 ||| m)):=fun x j hx=>by
     rw[KC hsB]; split
     ·rename_i e; subst e; rw[Nat.testBit_or,hx]; rfl
     ·exact hx
    have Fr:∀p,p≠2->AA (Ab h' 2 (.cells 102 1 (Ci (F.set sI (F.getD sI 0 ||| m))) false)) p=AA h' p:=fun p hp=>by rw[AR H'.o2,if_neg (Ne.symm hp)]
    refine⟨i+1,by omega,by omega,by simp,F.set sI (F.getD sI 0 ||| m),⟨HB.Ab (st:=⟨h',c+1,0⟩) hbS,rfl,by show 3<c+1; omega,(Fr 0 (by omega)).trans H'.o0,(Fr 1 (by omega)).trans H'.o1,?_,(Fr 3 (by omega)).trans H'.o3,by simpa using H'.len,H.nw.set hsB (Nat.or_lt_two_pow (H.nw sI) hm64)⟩,fun s hs j hx=>?_,fun x j hx=>hg' x j (hBB x j hx),?_⟩
    ·show AA (Ab h' 2 _) 2=_
     rw[AR H'.o2,if_pos rfl]
    ·rw[KC hsB] at hx
     split at hx
     ·rename_i e
      have es:s=g.rules[i].left:=by
       obtain⟨q1,q2⟩:=DF hs
       obtain⟨q3,q4⟩:=DF (AX.Ch hmem)
       have e':GY s g.names=GY g.rules[i].left g.names:=e.trans hsI
       rw[← q2,← q4]; simp only[e']
      rw[Nat.testBit_or,Bool.or_eq_true] at hx
      rcases hx with hx|hx
      ·rw[← e] at hx
       exact hB s hs j hx
      ·rw[← hm'] at hx
       obtain⟨hj,hb⟩:=TF hN hB (fun s hs=>AX.FK hok hmem hs) j hx
       exact⟨hj,es ▸ Yv.xG hmem hb⟩
     ·exact hB s hs j hx
    ·have:∃j,m.testBit j=true/\(F.getD sI 0).testBit j=false:=by
      refine Classical.byContradiction fun hcon=>hz ((QF hm64 (H.nw sI)).2 fun j hj=>?_)
      cases hb:(F.getD sI 0).testBit j with
      |true=>rfl
      |false=>exact absurd ⟨j,hj,hb⟩ hcon
     obtain⟨j,hj1,hj2⟩:=this
     have hlt':QT g (F.set sI (F.getD sI 0 ||| m))<QT g F:=nC hg' hmem (Uv hm64 hj1) (by rw[← hsI]; exact hj2) (by rw[← hsI,KC hsB,if_pos rfl,Nat.testBit_or,hj1,Bool.or_true])
     rcases hM with⟨m1,m2⟩|⟨m1,m2,m3⟩
     ·omega
     ·rw[← m2]; exact hlt'
  ·have:i=g.rules.length:=by omega
   subst this
   simp[-Bool.exists_bool,-List.getD_eq_getElem?_getD,C.f157L0,z0,z1,z2,z4,z12,z13,z14]
   refine⟨F,H,hB,hBB,?_⟩
   rcases hM with⟨m1,m2⟩|⟨m1,m2,m3⟩
   ·exact .inl ⟨m1,m2⟩
   ·refine .inr ⟨m1,fun r hr=>?_⟩
    obtain⟨j,hj,rfl⟩:=List.getElem_of_mem hr
    exact m3 j hj hj
 ·show g.rules.length-0<1000000; omega
 ·exact⟨by omega,z0,z1,z2,z12,z13,z14,F0,false,z4,H,hS0,fun _ _ h=>h,.inr ⟨rfl,rfl,fun j _ h=>by omega⟩⟩
end
section
variable {cv nv:AV}{g:AX}{N:List Bool}
theorem Zz {k:Nat}(hC:FC cv g)(hs:g.Small)(hok:g.Ok)(hnv:BI nv 1 (BJ N))(hNl:N.length=g.names.length)(hN:Ke g N)(F0:List Nat)(st:St)(H:FE cv nv g.names.length F0 st)(hS0:MI g F0) :
 (AU E (k+2) 157 [.AO 0 0,.AO 3 0,.AO 1 0] st).to fun x=>∃F more,x.1=.bool more/\FE cv nv g.names.length F x.2/\MI g F/\RJ F0 F /\
  ((more=true/\QT g F<QT g F0)∨(more=false/\∀r∈g.rules,MJ g F N r)):=by
 obtain⟨nn,rv,ov,lr,lo,e0,h1,h2,h3,h4,h5,h6,h7⟩:=hC.out
 rw[Ap (fn:=C.f157) rfl rfl rfl,Ad (by simp)]
 have rg:AP st.h (.AO 0 0)=some cv:=by rw[AB H.o0]; rfl
 have hlr:∀S':St,BO .slice rv S'=some (.int .i64 (g.rules.length:Int),S'):=fun S'=>by have:=h2.len (st:=S'); rw[this,h3]
 rw[e0] at rg
 simp[-Bool.exists_bool,-List.getD_eq_getElem?_getD,C.f157,rg,hlr]
 refine M.Al (Xo (k:=k) hs hok hnv hNl hN rv lr h2 h3 h4 F0 st H hS0 _ (by simp) (by simp) (by simp) (by simp) (by simp) (by simp) (by simp)) fun x hx=>?_
 obtain⟨e,ts1,st1⟩:=x
 obtain⟨ee,F,more,g4,H',hB,hBB,hM⟩:=hx
 simp only at ee g4 H'
 subst ee
 simp[-Bool.exists_bool,-List.getD_eq_getElem?_getD,g4,leave,results,AY]
 exact⟨F,H',hB,hBB,hM⟩
theorem Vs (hok:g.Ok)(hN:Ke g N){F:List Nat}(hS:MI g F)(hk:∀i,i<g.kinds.length->(F.getD i 0).testBit i=true)(hc:∀r∈g.rules,MJ g F N r):KN g F:=by
 intro s hs j
 refine⟨hS s hs j,?_⟩
 rintro⟨hj,hb⟩
 obtain⟨kd,hkd⟩:∃kd,kd=g.kinds[j]:=⟨_,rfl⟩
 rw[← hkd] at hb
 induction hb with
 |kind h=>
  have hin:j<g.names.length:=by unfold AX.names; rw[List.length_append]; omega
  have e:g.names[j]'hin=g.kinds[j]:=List.getElem_append_left hj
  have e2:=Mr (AX.KX hok) hin
  rw[e,← hkd] at e2
  show (F.getD (GY kd g.names) 0).testBit j=true
  rw[e2]; exact hk j hj
 |@KP r a b x hr e ha hx ih=>
  refine hc r hr j ?_
  have hxm:x∈g.names:=AX.FK hok hr (by rw[e]; simp)
  exact ME hN (fun s hs=>AX.FK hok hr hs) e ha (ih hxm)
theorem Xp {k:Nat}(hC:FC cv g)(hs:g.Small)(hok:g.Ok)(hnv:BI nv 1 (BJ N))(hNl:N.length=g.names.length)(hN:Ke g N)(F0:List Nat)(st:St)(H:FE cv nv g.names.length F0 st)(hS0:MI g F0)(hk:∀i,i<g.kinds.length->(F0.getD i 0).testBit i=true) :
 (AU E (k+3) 156 [.fn (.func 157) [] [.AO 0 0,.AO 3 0,.AO 1 0]] st).to fun x=>∃F,FE cv nv g.names.length F x.2/\KN g F:=by
 have hmany:=hs.many
 have hcnt:=nD hs F0
 rw[Ap (fn:=C.f156) rfl rfl rfl,Ad (by simp)]
 simp[-Bool.exists_bool,-List.getD_eq_getElem?_getD,C.f156]
 refine M.Al (DU (fun (n:Nat) ts st=>ts.get 0=.fn (.func 157) [] [.AO 0 0,.AO 3 0,.AO 1 0]/\∃F,FE cv nv g.names.length F st/\MI g F/\RJ F0 F/\QT g F<n)
  (fun n=>n) (fun e ts st=>e=.exit 0/\∃F,FE cv nv g.names.length F st/\KN g F) ?step _ 769 _ _ ?_ ?_) ?_
 case step=>
  rintro n ts st ⟨z0,F,H,hB,hBB,Au⟩
  have pass:=Zz (k:=k) hC hs hok hnv hNl hN F st H hB
  simp[-Bool.exists_bool,-List.getD_eq_getElem?_getD,C.f156L0,z0]
  refine M.Al pass fun x hx=>?_
  obtain⟨v,st1⟩:=x
  obtain⟨F',more',e1,H',hB',hBB',hM⟩:=hx
  simp only at e1 H'
  subst e1
  rcases hM with⟨rfl,m2⟩|⟨rfl,m2⟩
  ·simp[-Bool.exists_bool,-List.getD_eq_getElem?_getD,z0]
   exact⟨QT g F,Au,⟨F',H',hB',fun x j hx=>hBB' x j (hBB x j hx),m2⟩⟩
  ·simp[-Bool.exists_bool,-List.getD_eq_getElem?_getD,z0]
   exact⟨F',H',Vs hok hN hB' (fun i hi=>hBB' _ _ (hBB _ _ (hk i hi))) m2⟩
 ·show 769<1000000; omega
 ·exact⟨by simp,F0,H,hS0,fun _ _ h=>h,by omega⟩
 ·rintro⟨e,ts,st1⟩ ⟨e1,F,H',hB⟩
  simp only at e1 H'
  subst e1
  simp[-List.getD_eq_getElem?_getD,leave,results,AY]
  exact⟨F,H',hB⟩
def Iq (m n i:Nat):List Nat:=(List.range n).map fun s=>if s<i/\s<m then 2 ^ s else 0
theorem eX {m n i s:Nat}(h:s<n):(Iq m n i).getD s 0=if s<i/\s<m then 2 ^ s else 0:=by simp[Iq,List.getD,h]
theorem UX {m n i:Nat}(h:i<m)(hm:m<=n):(Iq m n i).set i (2 ^ i)=Iq m n (i+1):=by
 apply List.ext_getElem
 ·simp[Iq]
 ·intro s h1 h2
  have hs:s<n:=by simpa [Iq] using h2
  rw[List.getElem_set]
  simp only[Iq,List.getElem_map,List.getElem_range]
  by_cases e:i=s
  ·subst e; rw[if_pos rfl,if_pos (by omega)]
  ·rw[if_neg e]
   by_cases h3:s<i/\s<m
   ·rw[if_pos h3,if_pos (by omega)]
   ·rw[if_neg h3,if_neg (by omega)]
theorem XG {o n:Nat}(hn:n<=1000):GH o 102 1 8 [.int .u64 0] (.int .i64 (n:Int)) (.int .i64 (n:Int))=some (.AQ o 0 n (some n),.cells 102 1 (Ci (List.replicate n 0)) false):=by
 have hroom:n*8<=room/\n<=room:=by unfold room; constructor <;> omega
 simp[GH,Bb,ble_eq,blt_eq,beq_eq,hroom.1,hroom.2,Lj,Ci]
theorem ZY (c:Nat)(l:List Nat):AV.CL c (Ci l)=true:=JE fun x hx=>by
 simp only[Ci,List.mem_map] at hx
 obtain⟨n,_,rfl⟩:=hx; rfl
theorem Rz {h:Af}{A n:Nat}{B:List Nat}{ty:Nat}(m:Nat)(hf:AA h A=some (.cells ty 1 (Ci B) false))(hl:B.length=n):Bp 0 h (m+2) (.AQ A 0 n (some n))=some (.list true 1 (Ci B)):=by
 have ht:CP (Bp 0 h (m+1)) (((Ci B).drop 0).take (n*1))=some (Ci B):=by
  rw[List.drop_zero,Nat.mul_one,List.take_of_length_le (by simp; omega)]; exact DY (ZY 0 _)
 rw[FN (Nat.zero_le _) hf (by omega) (by simp; omega) ht]
 have:rows 1 n (Ci B)=Ci B:=by
  have:=IZ (Ci B); rwa [VR,hl] at this
 simp[this,beq_eq]
theorem ZE {n:Nat}(hs:g.Small)(st:St)(H:FE cv nv g.names.length (Iq g.kinds.length g.names.length 0) st)(ts0:TS)(z2:ts0.get 2=.AO 0 0)(z3:ts0.get 3=.AO 1 0)(z5:ts0.get 5=.AO 3 0)(z16:ts0.get 16=.int .i64 (g.kinds.length:Int))(z17:ts0.get 17=.int .i64 ((0:Nat):Int)) :
 (CJ (Ar E (AU E n) C.f86L0) E.k ts0 st).to fun x=>x.1=.exit 0/\x.2.1.get 2=.AO 0 0/\x.2.1.get 3=.AO 1 0/\x.2.1.get 5=.AO 3 0/\FE cv nv g.names.length (Iq g.kinds.length g.names.length g.kinds.length) x.2.2:=by
 have hk:=hs.kinds
 have hkn:g.kinds.length<=g.names.length:=by unfold AX.names; rw[List.length_append]; omega
 refine Be (fun (i:Nat) ts st=>i<=g.kinds.length/\ts.get 2=.AO 0 0/\ts.get 3=.AO 1 0/\ts.get 5=.AO 3 0/\ts.get 16=.int .i64 (g.kinds.length:Int)/\ts.get 17=.int .i64 (i:Int)/\FE cv nv g.names.length (Iq g.kinds.length g.names.length i) st)
  (fun i=>g.kinds.length-i) ?_ _ 0 _ _ ?_ ?_
 ·rintro i ts st ⟨hi,z2,z3,z5,z16,z17,H⟩
  by_cases Au:i<g.kinds.length
  ·have r3:AP st.h (.AO 3 0)=some (.AQ 2 0 g.names.length (some g.names.length)):=by rw[AB H.o3]; rfl
   have ix:=Gc (st:=st) (n:=g.names.length) (cap:=some g.names.length) H.o2 (show i<g.names.length by omega)
   have hsh:=jC (s:=i) (by omega)
   have s1:=BX (st:=st) (off:=i) (v:=.int .u64 ((2 ^ i:Nat):Int)) H.o2 (by rw[H.lo]; omega) (by simp[Iq]; omega) rfl rfl
   rw[QJ,UX Au hkn] at s1
   have h2i:(2:Nat) ^ i<2 ^ 64:=Nat.pow_lt_pow_right (by omega) (by omega)
   have hks:=UX (m:=g.kinds.length) (n:=g.names.length) Au hkn
   generalize (2:Nat) ^ i=p at hsh s1 h2i hks
   simp[-List.getD_eq_getElem?_getD,C.f86L0,z2,z3,z5,z16,z17,Au,r3,hsh,ix,s1,wi i]
   refine⟨i+1,by omega,by omega,by simp,HB.Ab H.hb,H.lo,H.c,?_,?_,?_,?_,by simp[Iq],?_⟩
   ·show AA (Ab st.h 2 _) 0=_; rw[AR H.o2,if_neg (by omega)]; exact H.o0
   ·show AA (Ab st.h 2 _) 1=_; rw[AR H.o2,if_neg (by omega)]; exact H.o1
   ·show AA (Ab st.h 2 _) 2=_; rw[AR H.o2,if_pos rfl]
   ·show AA (Ab st.h 2 _) 3=_; rw[AR H.o2,if_neg (by omega)]; exact H.o3
   ·rw[← hks]
    exact H.nw.set (by simp[Iq]; omega) h2i
  ·have:i=g.kinds.length:=by omega
   subst this
   simp[-List.getD_eq_getElem?_getD,C.f86L0,z2,z3,z5,z16,z17]
   exact H
 ·show g.kinds.length-0<1000000; omega
 ·exact⟨by omega,z2,z3,z5,z16,z17,H⟩
theorem Nz {k:Nat}{st:St}(hC:FC cv g)(hs:g.Small)(hok:g.Ok)(hnv:BI nv 1 (BJ N))(hNl:N.length=g.names.length)(hN:Ke g N) :
 ∃w F,AU E (k+4) 86 [cv,nv] st=.ret (w,st)/\BI w 1 (Ci F)/\F.length=g.names.length/\Io F/\KN g F:=by
 have hold:=hC.Gi 0
 have hnl:=AX.DD hs
 have holdn:=hnv.uH 0
 have hkn:g.kinds.length<=g.names.length:=by unfold AX.names; rw[List.length_append]; omega
 obtain⟨nn,rv,ov,lr,lo',e0,h1,_⟩:=hC.out
 rw[BZ (fn:=C.f86) rfl rfl rfl (by simp[AV.CL,hold,holdn]),Ad (by simp)]
 have hln:∀S':St,BO .slice nn S'=some (.int .i64 (g.names.length:Int),S'):=fun S'=>by have:=h1.len (st:=S'); simpa using this
 have hmk:=XG (o:=2) (n:=g.names.length) (by omega)
 have hbx:Dr 0 77 1 cv=some (.AO 0 0,.cells 77 1 [cv] false):=by rw[e0]; rfl
 have hone:nv.isTuple=false/\nv.cells=[nv]:=by rcases hnv.out with⟨rfl,_⟩|⟨t,rfl⟩ <;> exact⟨rfl,rfl⟩
 have hbx2:Dr 1 79 1 nv=some (.AO 1 0,.cells 79 1 [nv] false):=by simp[Dr,hone.1,hone.2,beq_eq]
 have n1:newObj 0 (.cells 77 1 [cv] false) ⟨[],2,0⟩=some ⟨[(0,.cells 77 1 [cv] false)],2,0⟩:=rfl
 obtain⟨h2',hh2⟩:∃h:Af,h=[(1,Ai.cells 79 1 [nv] false),(0,.cells 77 1 [cv] false)]:=⟨_,rfl⟩
 have n2:newObj 1 (.cells 79 1 [nv] false) ⟨[(0,.cells 77 1 [cv] false)],2,0⟩=some ⟨h2',2,0⟩:=by rw[hh2]; rfl
 have hb2:HB ⟨h2',2,0⟩:=fun p x hp=>by
  rw[hh2] at hp; show p<2
  simp only[List.mem_cons,List.not_mem_nil,or_false] at hp
  rcases hp with e|e <;> cases e <;> omega
 have f0:AA h2' 0=some (.cells 77 1 [cv] false):=by rw[hh2]; rfl
 have f1:AA h2' 1=some (.cells 79 1 [nv] false):=by rw[hh2]; rfl
 have r0:AP h2' (.AO 0 0)=some cv:=by rw[AB f0]; rfl
 obtain⟨Fz,hFz⟩:∃F:List Nat,F=List.replicate g.names.length 0:=⟨_,rfl⟩
 rw[← hFz] at hmk
 have n3:newObj 2 (.cells 102 1 (Ci Fz) false) ⟨h2',4,0⟩=some ⟨(2,.cells 102 1 (Ci Fz) false)::h2',4,0⟩:=Ac hb2
 obtain⟨h3',hh3⟩:∃h:Af,h=(2,Ai.cells 102 1 (Ci Fz) false)::h2':=⟨_,rfl⟩
 rw[← hh3] at n3
 have hb3:HB ⟨h3',3,0⟩:=hh3 ▸ HB.cons (h:=h2') (c:=2) (lo:=0) hb2 (by omega) (by omega)
 have n4:newObj 3 (.cells 105 1 [.AJ] false) ⟨h3',4,0⟩=some ⟨(3,.cells 105 1 [.AJ] false)::h3',4,0⟩:=Ac hb3
 obtain⟨h4',hh4⟩:∃h:Af,h=(3,Ai.cells 105 1 [.AQ 2 0 g.names.length (some g.names.length)] false)::h3':=⟨_,rfl⟩
 have s4:Bc 1 (.AO 3 0) (.AQ 2 0 g.names.length (some g.names.length)) ⟨(3,.cells 105 1 [.AJ] false)::h3',4,0⟩=some (.undef,⟨h4',4,0⟩):=by
  rw[BX (cs:=[.AJ]) (ty:=105) (sz:=1) (ext:=false) (by rw[AL,if_pos rfl]) (by show 0<=3; omega) (by simp) rfl rfl,hh4]
  simp[Ab]
 have hb4:HB ⟨h4',4,0⟩:=hh4 ▸ HB.cons (h:=h3') (c:=3) (lo:=0) hb3 (by omega) (by omega)
 have hkz:Iq g.kinds.length g.names.length 0=Fz:=by
  rw[hFz]
  apply List.ext_getElem
  ·simp[Iq]
  ·intro s _ _; simp[Iq]
 have FE0:FE cv nv g.names.length (Iq g.kinds.length g.names.length 0) ⟨h4',4,0⟩:=by
  rw[hkz]
  refine⟨hb4,rfl,by show 3<4; omega,?_,?_,?_,?_,by rw[hFz]; simp,fun x=>?_⟩
  ·show AA h4' 0=_; rw[hh4,Ao (by omega),hh3,Ao (by omega)]; exact f0
  ·show AA h4' 1=_; rw[hh4,Ao (by omega),hh3,Ao (by omega)]; exact f1
  ·show AA h4' 2=_; rw[hh4,Ao (by omega),hh3,AL,if_pos rfl]
  ·show AA h4' 3=_; rw[hh4,AL,if_pos rfl]
  ·rw[hFz]; simp only[List.getD,List.getElem?_replicate]; split <;> simp
 have r04:AP h4' (.AO 0 0)=some cv:=by rw[AB FE0.o0]; rfl
 have goal:((Ar E (AU E (k+3)) C.f86.body (TS.CY [cv,nv] 0 .nil) ⟨[],0,0⟩).bind (leave C.f86.results)).to fun x=>x.1=.AQ 2 0 g.names.length (some g.names.length)/\∃F,FE cv nv g.names.length F x.2/\KN g F:=by
  have e0':=e0
  subst e0'
  simp[-List.getD_eq_getElem?_getD,C.f86,hbx,hbx2,n1,n2,r0,hln,hmk,n3,n4,s4,r04]
  refine M.Al (ZE (n:=k+3) hs _ FE0 _ (by simp) (by simp) (by simp) (by simp) (by simp)) fun x hx=>?_
  obtain⟨e,ts1,st1⟩:=x
  obtain⟨ee,g2,g3,g5,H1⟩:=hx
  simp only at ee g2 g3 g5 H1
  subst ee
  have hget:∀s,s<g.names.length->(Iq g.kinds.length g.names.length g.kinds.length).getD s 0=if s<g.kinds.length then 2 ^ s else 0:=fun s hs'=>by
   rw[eX hs']; simp
  have run:=Xp (k:=k) hC hs hok hnv hNl hN _ st1 H1 (fun s hs' j hj=>by
   rw[hget _ (Rj hs')] at hj
   split at hj
   ·rename_i Au
    rw[Nat.testBit_two_pow] at hj
    have ej:g.ix s=j:=of_decide_eq_true hj
    have hjl:j<g.kinds.length:=by omega
    refine⟨hjl,?_⟩
    obtain⟨q1,q2⟩:=DF hs'
    have q3:g.names[GY s g.names]'q1=g.kinds[j]:=by
     have:g.names[GY s g.names]'q1=g.kinds[GY s g.names]'Au:=List.getElem_append_left Au
     rw[this]; simp only[← ej]; rfl
    rw[q2] at q3
    rw[q3]
    exact .kind (List.getElem_mem hjl)
   ·simp at hj) (fun i hi=>by
   rw[hget i (by omega),if_pos hi,Nat.testBit_two_pow_self])
  simp[-List.getD_eq_getElem?_getD,g2,g3,g5]
  refine M.Al run fun x hx=>?_
  obtain⟨v,st2⟩:=x
  obtain⟨F,H2,hE⟩:=hx
  simp only at H2
  have r3:AP st2.h (.AO 3 0)=some (.AQ 2 0 g.names.length (some g.names.length)):=by rw[AB H2.o3]; rfl
  simp[-List.getD_eq_getElem?_getD,g5,r3,leave,results,AY]
  exact⟨F,H2,hE⟩
 obtain⟨⟨v,st1⟩,r1,r2,F,r3,r4⟩:=goal
 simp only at r2 r3
 subst r2
 refine⟨.list true 1 (Ci F),F,?_,⟨.inr ⟨_,rfl⟩⟩,r3.len,r3.nw,r4⟩
 rw[r1]
 simp[BA,Bu,Rz 62 r3.o2 r3.len]
end
section
variable {cv:AV}{g:AX}
theorem SA {k:Nat}{s:Aj}{st:St}(hC:FC cv g)(h:s∈g.names):AU E (k+1) 84 [cv,.str s] st=.ret (.tuple [.int .i64 (g.ix s:Nat),.bool true],st):=by
 obtain⟨nn,rv,ov,lr,lo,e0,_⟩:=hC.out
 rw[Ap (fn:=C.f84) rfl rfl rfl,Ad (by simp),e0]
 have hl:DR (.one .str) (.int .i64 0) true (.GM (strs g.names) (ints (List.range g.names.length))) (.str s) st=some (.tuple [.int .i64 (g.ix s:Nat),.bool true],st):=by
  obtain⟨h1,_⟩:=DF h
  simp[DR,Ga,HV,Sm h,Gm,ints,h1]; rfl
 simp[C.f84,hl,leave,results,AY]
theorem UI {k:Nat}{s:Aj}{st:St}(hC:FC cv g)(h:s∉g.names):AU E (k+1) 84 [cv,.str s] st=.ret (.tuple [.int .i64 0,.bool false],st):=by
 obtain⟨nn,rv,ov,lr,lo,e0,_⟩:=hC.out
 rw[Ap (fn:=C.f84) rfl rfl rfl,Ad (by simp),e0]
 have hl:DR (.one .str) (.int .i64 0) true (.GM (strs g.names) (ints (List.range g.names.length))) (.str s) st=some (.tuple [.int .i64 0,.bool false],st):=by
  rcases Hy s g.names with⟨h1,_⟩|⟨_,h2⟩
  ·exact absurd h1 h
  ·simp[DR,Ga,HV,h2,Gm]
 simp[C.f84,hl,leave,results,AY]
def bitsOf (g:AX)(m j:Nat):List Aj:=(g.kinds.take j).filter fun s=>m.testBit (g.ix s)
theorem UD (g:AX)(m j:Nat):(bitsOf g m j).length<=j:=by
 unfold bitsOf
 have:=List.length_filter_le (fun s=>m.testBit (g.ix s)) (g.kinds.take j)
 rw[List.length_take] at this; omega
theorem UZ {g:AX}(hok:g.Ok){j:Nat}(hj:j<g.kinds.length):g.ix g.kinds[j]=j/\∃h:j<g.names.length,g.names[j]=g.kinds[j]:=by
 have hin:j<g.names.length:=by unfold AX.names; rw[List.length_append]; omega
 have e:g.names[j]'hin=g.kinds[j]:=List.getElem_append_left hj
 have:=Mr (AX.KX hok) hin
 rw[e] at this
 exact⟨this,hin,e⟩
set_option maxHeartbeats 1000000 in
theorem YT {k m:Nat}{st:St}(hC:FC cv g)(hs:g.Small)(hok:g.Ok)(hb:HB st)(hm:m<2 ^ 64) :
 ∃w,AU E (k+1) 87 [cv,.int .u64 (m:Int)] st=.ret (w,st)/\BI w 1 (strs (g.kinds.filter fun s=>m.testBit (g.ix s))):=by
 have hkn:=hs.kinds
 obtain⟨nv,rv,ov,lr,lo',e0,h1,_⟩:=hC.out
 rw[BS (fn:=C.f87) rfl rfl rfl,Ad (by simp)]
 have goal:((Ar E (AU E k) C.f87.body (TS.CY [cv,.int .u64 (m:Int)] 0 .nil) { st with lo:=st.c }).bind (leave C.f87.results)).to fun x=>La x.2.h x.1 (bitsOf g m g.kinds.length)/\∀q,Ah x.1=some q->st.c<=q:=by
  have e0':=e0
  simp[C.f87,e0']
  refine M.Al (DU (fun (j:Nat) ts st1=>j<=g.kinds.length/\ts.get 0=cv/\ts.get 1=.int .u64 (m:Int)/\ts.get 10=.int .i64 (g.kinds.length:Int)/\ts.get 11=.int .i64 (j:Int)/\∃(w:AV),ts.get 5=w/\Add ⟨st.h,st.c,st.c⟩ .AJ st1 w (bitsOf g m j))
   (fun j=>g.kinds.length-j) (fun e ts st1=>e=.exit 0/\∃(w:AV),ts.get 5=w/\Add ⟨st.h,st.c,st.c⟩ .AJ st1 w (bitsOf g m g.kinds.length)) ?step _ 0 _ _ ?_ ?_) ?_
  case step=>
   rintro j ts st1 ⟨hj,z0,z1,z10,z11,w,z5,A⟩
   rw[e0] at z0
   by_cases Au:j<g.kinds.length
   ·obtain⟨h,c,lo⟩:=st1
    obtain⟨hix,hjn,hnj⟩:=UZ hok Au
    obtain⟨sh,q1,q2⟩:=jD (m:=m) (s:=j) hm (by omega)
    have hLl:=UD g m j
    have htk:bitsOf g m (j+1)=bitsOf g m j++(if m.testBit j then [g.kinds[j]] else []):=by
     unfold bitsOf
     rw[List.take_succ_eq_append_getElem Au,List.filter_append]
     congr 1
     cases hp:m.testBit j <;> simp[hix,hp]
    cases hp:m.testBit j with
    |false=>
     rw[hp] at htk q2
     simp[C.f87L0,z0,z1,z5,z10,z11,Au,q1,q2,wi j]
     exact⟨j+1,by omega,by omega,e0.symm,by simp,by rw[htk]; simpa using A⟩
    |true=>
     rw[hp] at htk q2
     obtain⟨n1,h2,p1,A2⟩:=A.push (Nat.le_refl _) (by omega) g.names[j]
     have ixn:=h1.JY (st:=⟨h,c+2,lo⟩) hjn
     simp[C.f87L0,z0,z1,z5,z10,z11,Au,q1,q2,ixn,YY,n1,p1,wi j]
     refine⟨j+1,by omega,by omega,e0.symm,by simp,?_⟩
     rw[htk,← hnj]; simpa using A2
   ·have:j=g.kinds.length:=by omega
    subst this
    simp[C.f87L0,z0,z1,z5,z10,z11]
    exact A
  ·show g.kinds.length-0<1000000; omega
  ·refine⟨by omega,by simp[e0],by simp,by simp,by simp,.AJ,by simp,by simpa [bitsOf] using (Add.start (st:=⟨st.h,st.c,st.c⟩) hb .nl (fun q h=>by cases h))⟩
  ·rintro⟨e,ts,st1⟩ ⟨e1,w,g5,A⟩
   simp only at e1 g5 A
   subst e1
   simp[g5,leave,results,AY]
   exact⟨A.sl,fun q hq=>by
    rcases (A.own q hq).2.2 with h|h
    ·cases h
    ·exact h⟩
 obtain⟨⟨w,st'⟩,r1,hS,hc⟩:=goal
 obtain⟨w',g1,g2⟩:=hS.tq hc
 have e:bitsOf g m g.kinds.length=g.kinds.filter fun s=>m.testBit (g.ix s):=by unfold bitsOf; rw[List.take_length]
 rw[e] at g1
 exact⟨w',by rw[r1]; simp only[M.CE,BA,Bu,g2 64 (by omega)],g1⟩
end
structure AI (st0 st:St)(w:AV)(l:List Nat):Prop where
 c:st0.c<=st.c
 lo:st.lo=st0.lo
 hb:HB st
 sl:Fa st.h 3 1 w (ints l)
 own:∀p,Ah w=some p->st0.c<=p/\p<st.c
 fr:∀p,p<st0.c->AA st.h p=AA st0.h p
theorem AI.start {st:St}(hb:HB st):AI st st .AJ []:=⟨Nat.le_refl _,rfl,hb,.nl,(fun p hp=>by cases hp),fun _ _=>rfl⟩
theorem AI.push {st0:St}{h:Af}{c lo:Nat}{w:AV}{l:List Nat}(A:AI st0 ⟨h,c,lo⟩ w l)(hlo:st0.lo<=st0.c)(hl:l.length<=1000)(n:Nat) :
 newObj c (.cells 3 1 [.int .i64 (n:Int)] false) ⟨h,c+2,lo⟩=some ⟨(c,.cells 3 1 [.int .i64 (n:Int)] false)::h,c+2,lo⟩ /\
 ∃h2,BU (c+1) 3 1 8 w (.AQ c 0 1 (some 1)) ⟨(c,.cells 3 1 [.int .i64 (n:Int)] false)::h,c+2,lo⟩=some (.AQ (c+1) 0 (l.length+1) none,⟨h2,c+2,lo⟩)/\AI st0 ⟨h2,c+2,lo⟩ (.AQ (c+1) 0 (l.length+1) none) (l++[n]):=by
 refine⟨Ac A.hb,?_⟩
 have hcc:st0.c<=c:=A.c
 have hll:lo=st0.lo:=A.lo
 have hown:∀p,Ah w=some p->st0.c<=p/\p<c:=A.own
 obtain⟨h2,p1,p2,p3,p4⟩:=Wv (bytes:=8) (x:=.int .i64 (n:Int)) A.hb A.sl (fun p hp=>⟨by have:=hown p hp; omega,(hown p hp).2⟩) (by omega) (by omega) (by simpa using hl) rfl
 rw[IU] at p1
 rw[Ua,Jj] at p3
 have hS:Fa h2 3 1 (.AQ (c+1) 0 (l.length+1) none) (ints (l++[n])):=by
  have:=Fa.il (by simp) p3
  rwa [List.length_append] at this
 refine⟨h2,p1,by show st0.c<=c+2; omega,hll,p2,hS,fun p hp=>?_,fun p hp=>?_⟩
 ·simp only[Ah,Option.some.injEq] at hp
  subst hp
  exact⟨by omega,by show c+1<c+2; omega⟩
 ·have hfr:AA h p=AA st0.h p:=A.fr p hp
  rw[← hfr]
  exact p4 p (by omega) fun e=>by have:=hown p e; omega
theorem ints_get? (B:List Nat)(j:Nat)(h:j<B.length):(ints B)[j]?=some (.int .i64 ((B.getD j 0:Nat):Int)):=by simp[ints,List.getD,h]
theorem Rd.ofM {h:Af}{w:AV}{l:List Nat}(H:Fa h 3 1 w (Go.Am.ints l)):Rd h w l.length fun i=>.int .i64 ((l.getD i 0:Nat):Int):=by
 generalize hx:Go.Am.ints l=xs at H
 cases H with
 |nl=>
  have:l=[]:=by cases l with|nil=>rfl|cons a l=>simp[Go.Am.ints] at hx
  subst this; exact⟨rfl,fun i hi=>by simp at hi⟩
 |mt id ext hf=>
  have:l=[]:=by cases l with|nil=>rfl|cons a l=>simp[Go.Am.ints] at hx
  subst this; exact⟨rfl,fun i hi=>by simp at hi⟩
 |ob id _ h0 hc hf=>
  subst hx
  rw[Jj] at hf
  rw[IU]
  exact Rd.obj (sz:=1) hf fun i hi=>ints_get? l i hi
section
variable {cv:AV}{g:AX}
theorem Xk {k:Nat}{lv:AV}{L:List Aj}(hC:FC cv g)(st:St)(hb:HB st)(hlo:st.lo<=st.c)(hL:La st.h lv L)(hLo:∀o,Ah lv=some o->o<st.c)(hLl:L.length<=20)(ts0:TS)(z8:ts0.get 8=cv)(z9:ts0.get 9=.AJ)(z27:ts0.get 27=lv)(z28:ts0.get 28=.int .i64 (L.length:Int))(z29:ts0.get 29=.int .i64 ((0:Nat):Int)) :
 (CJ (Ar E (AU E (k+1)) C.f23L0) E.k ts0 st).to fun x=>(x.1=.exit 0/\(∀s∈L,s∈g.names)/\x.2.1.get 8=cv/\AI st x.2.2 (x.2.1.get 9) (L.map g.ix))∨(x.1=.ret/\(∃s∈L,s∉g.names)/\x.2.1.get 4=.AJ/\x.2.1.get 5=.bool false/\x.2.1.get 6=.int .i64 8):=by
 refine Be (fun (i:Nat) ts st1=>i<=L.length/\(∀s∈L.take i,s∈g.names)/\ts.get 8=cv/\ts.get 27=lv/\ts.get 28=.int .i64 (L.length:Int)/\ts.get 29=.int .i64 (i:Int)/\∃w,ts.get 9=w/\AI st st1 w ((L.take i).map g.ix))
  (fun i=>L.length-i) ?_ _ 0 _ _ ?_ ?_
 ·rintro i ts ⟨h,c,lo⟩ ⟨hi,hall,z8,z27,z28,z29,w,z9,A⟩
  by_cases Au:i<L.length
  ·obtain⟨q,a1,b1⟩:=(hL.heap (h':=h) fun o ho=>A.fr o (hLo o ho)).reads.at_ i Au ⟨h,c,lo⟩ rfl
   by_cases hin:L[i]∈g.names
   ·have hsy:=SA (k:=k) (st:=⟨h,c,lo⟩) hC hin
    obtain⟨n1,h2,p1,A2⟩:=A.push hlo (by simp; omega) (g.ix L[i])
    have hl:((L.take i).map g.ix).length=i:=by simp; omega
    rw[hl] at p1 A2
    simp[C.f23L0,z8,z9,z27,z28,z29,Au,a1,b1,hsy,kG,n1,p1,wi i]
    refine⟨i+1,by omega,by omega,fun s hs=>?_,by simp,?_⟩
    ·rw[List.take_succ_eq_append_getElem Au,List.mem_append,List.mem_singleton] at hs
     rcases hs with h|h
     ·exact hall s h
     ·rw[h]; exact hin
    ·rw[← List.map_take,List.take_succ_eq_append_getElem Au,List.map_append]; exact A2
   ·have hsy:=UI (k:=k) (st:=⟨h,c,lo⟩) hC hin
    simp[C.f23L0,z8,z9,z27,z28,z29,Au,a1,b1,hsy]
    exact⟨L[i],List.getElem_mem Au,hin⟩
  ·have:i=L.length:=by omega
   subst this
   rw[List.take_length] at hall A
   simp[C.f23L0,z8,z9,z27,z28,z29]
   exact⟨hall,A⟩
 ·show L.length-0<1000000; omega
 ·exact⟨by omega,by simp,z8,z27,z28,z29,.AJ,z9,by simpa using AI.start hb⟩
structure Td (g:AX)(L:List Aj)(w:AV)(b:Bool)(e:Int):Prop where
 bad:g.fault≠0->w=.AJ/\b=false/\e=g.fault
 none_:g.fault=0->(∃s∈L,s∉g.names)->w=.AJ/\b=false/\e=8
 Mw:g.fault=0->(∀s∈L,s∈g.names)->e=0/\(∃p:Aj->Bool,(∀x∈g.kinds,(p x=true↔MK g x L))/\BI w 1 (strs (g.kinds.filter p)))/\(b=true↔∀y∈L,Im g y)
theorem Si (hok:g.Ok){m:Nat}{P:Aj->Prop}(h:∀j,m.testBit j=true↔∃hj:j<g.kinds.length,P g.kinds[j]){x:Aj}(hx:x∈g.kinds):m.testBit (g.ix x)=true↔P x:=by
 obtain⟨j,hj,rfl⟩:=List.getElem_of_mem hx
 rw[(UZ hok hj).1,h]
 exact⟨fun⟨_,q⟩=>q,fun q=>⟨hj,q⟩⟩
set_option maxHeartbeats 2000000 in
theorem Zu {k:Nat}{v lv:AV}{L:List Aj}{st:St}(hg:BP v g)(hs:g.Small)(hb:HB st)(hL:La st.h lv L)(hLo:∀o,Ah lv=some o->o<st.c)(hLl:L.length<=20) :
 ∃w b e,AU E (k+8) 23 [v,lv] st=.ret (.tuple [w,.bool b,.int .i64 e],st)/\Td g L w b e:=by
 have hg':=hg
 obtain⟨kv,rv0,l,rfl,hk,hr',hrs⟩:=hg'
 rw[BS (fn:=C.f23) rfl rfl rfl,Ad (by simp)]
 obtain⟨h,c,lo⟩:=st
 have hbx:Dr c 29 3 (.agg [kv,.str g.start,rv0])=some (.AO c 0,.cells 29 3 [kv,.str g.start,rv0] false):=rfl
 have n1:=MG (c':=c+1) (lo:=c) (ty:=29) (n:=3) (cs:=[kv,.str g.start,rv0]) (h:=h) (c:=c) hb
 obtain⟨h1,hh1⟩:∃h1:Af,h1=(c,Ai.cells 29 3 [kv,.str g.start,rv0] false)::h:=⟨_,rfl⟩
 rw[← hh1] at n1
 have hb1:HB ⟨h1,c+1,c⟩:=hh1 ▸ HB.cons (h:=h) (c:=c) (lo:=lo) hb (by omega) (by omega)
 have fg:AA h1 c=some (.cells 29 3 [kv,.str g.start,rv0] false):=by rw[hh1,AL,if_pos rfl]
 have rg:AZ h1 (.AO c 0) 3=some [kv,.str g.start,rv0]:=Ae fg rfl
 have hck:=QW (k:=k+1) (st:=⟨h1,c+1,c⟩) hg hs
 have hL1:La h1 lv L:=hL.heap fun o ho=>by rw[hh1]; exact Ao (hLo o ho)
 have hlen:BO .slice lv ⟨h1,c+1,c⟩=some (.int .i64 (L.length:Int),⟨h1,c+1,c⟩):=by simp[BO,hL1.len]
 by_cases hz:g.fault=0
 ·have hok:=AX.ok hz
  rw[hz] at hck
  obtain⟨cv,e1,hC⟩:=Ov (k:=k) (st:=⟨h1,c+1,c⟩) hg hs hok
  have hl20:¬(20:Int)<(L.length:Int):=by omega
  obtain⟨P,hP⟩:∃P:AV × St->Prop,P=fun x=>∃w b e,x.1=.tuple [w,.bool b,.int .i64 e]/\w.Bw c=true/\Td g L w b e:=⟨_,rfl⟩
  have goal:((Ar E (AU E (k+7)) C.f23.body (TS.CY [.agg [kv,.str g.start,rv0],lv] 0 .nil) ⟨h,c,c⟩).bind (leave C.f23.results)).to P:=by
   simp[C.f23,hbx,n1,rg,hck,hlen,e1,hl20]
   refine M.Al (Xk (k:=k+6) hC ⟨h1,c+1,c⟩ hb1 (by show c<=c+1; omega) hL1 (fun o ho=>by have:=hLo o ho; show o<c+1; have:o<c:=this; omega) hLl _ (by simp) (by simp) (by simp) (by simp) (by simp)) fun x hx=>?_
   obtain⟨e,ts1,st1⟩:=x
   rcases hx with⟨ee,hall,g8,A⟩|⟨ee,hex,g4,g5,g6⟩
   ·simp only at ee g8 A
    subst ee
    obtain⟨nw,N,m1,m2,m3,m4⟩:=LJ (k:=k) (st:=st1) hC hs hok
    obtain⟨fw,F,f1,f2,f3,f4,f5⟩:=Nz (k:=k+3) (st:=st1) (nv:=nw) hC hs hok m2 m3 m4
    have hfo:=NC (k:=k+6) (n:=g.names.length) (fv:=fw) (nv:=nw) (lv:=ts1.get 9) (F:=F) (N:=N) (l:=L.map g.ix) (st:=st1) (f3 ▸ Rd.Ci f2) (m3 ▸ Rd.BJ m2) (Rd.ofM A.sl) (fun x hx=>by
     obtain⟨y,hy,rfl⟩:=List.mem_map.1 hx
     exact Rj (hall y hy)) f4 (by simp; omega)
    obtain⟨m,hm⟩:∃m,m=(fo F N (L.map g.ix)).1:=⟨_,rfl⟩
    obtain⟨b,hbb⟩:∃b,b=(fo F N (L.map g.ix)).2:=⟨_,rfl⟩
    rw[← hm,← hbb] at hfo
    obtain⟨w,w1,w2⟩:=YT (k:=k+6) (m:=m) (st:=st1) hC hs hok A.hb (by rw[hm]; exact Uh f4 _)
    simp[g8,m1,f1,hfo,w1,leave,results,AY]
    rw[hP]
    refine⟨w,b,0,rfl,w2.Gi c,fun h=>absurd hz h,fun _ ⟨s,h1,h2⟩=>absurd (hall s h1) h2,fun _ _=>⟨rfl,⟨fun s=>m.testBit (g.ix s),fun x hx=>?_,w2⟩,?_⟩⟩
    ·exact Si hok (P:=fun x=>MK g x L) (fun j=>by rw[hm]; exact TG m4 f5 hall j) hx
    ·rw[hbb]; exact Rm m4 hall
   ·simp only at ee g4 g5 g6
    subst ee
    simp[g4,g5,g6,leave,results,AY]
    obtain⟨s,h1,h2⟩:=hex
    rw[hP]
    exact⟨_,_,_,rfl,rfl,fun h=>absurd hz h,fun _ _=>⟨rfl,rfl,rfl⟩,fun _ h=>absurd (h s h1) h2⟩
  rw[hP] at goal
  obtain⟨⟨x,st'⟩,r1,w,b,e,r2,r3,r4⟩:=goal
  simp only at r2
  subst r2
  refine⟨w,b,e,?_,r4⟩
  rw[r1]
  simp only[M.CE]
  exact Ca (by simp[AV.Bw,AV.CL,r3])
 ·have hzb:(g.fault != 0)=true:=by simpa using hz
  refine⟨.AJ,false,g.fault,?_,fun _=>⟨rfl,rfl,rfl⟩,fun h=>absurd h hz,fun h=>absurd h hz⟩
  simp[C.f23,hbx,n1,rg,hck,hzb,hz,leave,results,AY]
  exact Ca (by simp[AV.Bw,AV.CL])
end
theorem Pf {E:Env}{call:Nat->List AV->St->M (AV × St)}{s d q:Nat}{b:Bool}{k:AK}{args:List II}{ops:List Cj}{ts:TS}{st:St}(h:ts.get q=.undef):IY E call s (⟨some d,some (q,b),k,args⟩::ops) ts st=IY E call s ops (ts.set d .undef) st:=by
 rw[KJ,h]; rfl
def Vq:Ag:=C.S (C.R 0 [C.m 90 14,C.m 91 7,C.m 92 13,C.o 93 (.indexAddr 1) [C.t 91,C.t 92],C.l 94 93,C.o 95 (.bin .andNot) [C.t 90,C.t 94],C.o 96 (.bin .neq) [C.t 95,.val (.int .u64 0)],C.m 97 96,C.g 98 97 false .move [C.t 16],C.g 99 97 false .move [C.t 98],C.g 100 99 true .move [C.t 8],C.g 101 99 true .move [C.t 13],C.g 102 99 true (.indexAddr 1) [C.t 100,C.t 101],C.g 103 99 true (.load none) [C.t 102],C.g 104 99 true (.un .not) [C.t 103],C.g 105 97 false .pick [C.t 99,C.t 104,C.no],C.o 106 .pick [C.t 97,C.yes,C.t 105]]) (C.C (C.t 106) (C.D 0 [(0,C.m 107 7,[]),(1,C.m 108 13,[]),(2,C.m 109 8,[]),(3,C.m 110 13,[]),(4,C.m 111 7,[]),(5,C.m 112 13,[]),(6,C.o 113 (.indexAddr 1) [C.t 111,C.t 112],[]),(7,C.l 114 113,[]),(8,C.m 115 14,[]),(9,C.o 116 (.bin .or) [C.t 114,C.t 115],[]),(10,C.m 117 8,[]),(11,C.m 118 13,[]),(12,C.o 119 (.indexAddr 1) [C.t 117,C.t 118],[]),(13,C.l 120 119,[]),(14,C.m 121 120,[]),(15,C.g 122 121 false .move [C.t 16],[]),(16,C.o 123 .pick [C.t 121,C.yes,C.t 122],[]),(17,C.o 124 (.indexAddr 1) [C.t 107,C.t 108],[]),(18,C.v (.store 1) [C.t 124,C.t 116],[]),(19,C.o 125 (.indexAddr 1) [C.t 109,C.t 110],[]),(20,C.v (.store 1) [C.t 125,C.t 123],[]),(21,C.o 9 .move [C.yes],[])]) .skip)
theorem Zy:C.f89L2=C.S (C.R 0 [C.o 62 (.bin .lss) [C.t 61,C.t 60]]) (C.S (C.C (C.t 62) .skip (.exit 4)) (C.S (C.B 5 (C.S (C.R 0 [C.m 63 61,C.o 64 (.indexAddr 1) [C.t 59,C.t 61],C.l 65 64,C.m 12 63,C.m 13 65]) (C.S (C.R 0 [C.m 67 5,C.m 68 4,C.f 69 1 11,C.l 70 69,C.m 71 12,C.o 72 (.bin .add) [C.t 71,C.i 1],C.o 73 (.slice 1 true false false) [C.t 70,C.t 72],C.o 74 (.call 85) [C.t 67,C.t 68,C.t 73],C.m 66 74,C.o 75 (.extract 0) [C.t 66],C.o 76 (.extract 1) [C.t 66],C.m 14 75,C.m 15 76]) (C.S (C.R 0 [C.o 16 .move [C.no]]) (C.S (C.S (C.R 0 [C.m 77 15]) (C.C (C.t 77) (C.D 0 [(0,C.m 78 14,[]),(1,C.m 79 7,[]),(2,C.f 80 0 11,[]),(3,C.l 81 80,[]),(4,C.o 82 (.indexAddr 1) [C.t 79,C.t 81],[]),(5,C.l 83 82,[]),(6,C.o 84 (.bin .or) [C.t 78,C.t 83],[]),(7,C.m 85 8,[]),(8,C.f 86 0 11,[]),(9,C.l 87 86,[]),(10,C.o 88 (.indexAddr 1) [C.t 85,C.t 87],[]),(11,C.l 89 88,[]),(12,C.m 14 84,[]),(13,C.m 16 89,[])]) .skip)) Vq))))) (C.R 0 [C.o 126 (.bin .add) [C.t 61,C.i 1],C.m 61 126]))):=rfl
structure FW (n:Nat)(M:List Nat)(B:List Bool)(st:St):Prop where
 hb:HB st
 lo:st.lo=0
 c:1<st.c
 o0:AA st.h 0=some (.cells 102 1 (Ci M) false)
 o1:AA st.h 1=some (.cells 4 1 (BJ B) false)
 lm:M.length=n
 lb:B.length=n
 nw:Io M
theorem FW.new {n:Nat}{M:List Nat}{B:List Bool}{h:Af}{c lo:Nat}(H:FW n M B ⟨h,c,lo⟩)(x:Ai):FW n M B ⟨(c,x)::h,c+1,lo⟩:=by
 have hc:1<c:=H.c
 exact⟨HB.cons (h:=h) (c:=c) (lo:=lo) H.hb (by omega) (by omega),H.lo,by show 1<c+1; omega,(Ao (by omega)).trans H.o0,(Ao (by omega)).trans H.o1,H.lm,H.lb,H.nw⟩
def VA (M:List Nat)(B:List Bool)(s m:Nat)(e:Bool):Prop:=(∀j,m.testBit j=true->(M.getD s 0).testBit j=true)/\(e=true->B.getD s false=true)
set_option maxHeartbeats 4000000 in
theorem jk {k n s m:Nat}{e more:Bool}{M:List Nat}{B:List Bool}{st:St}(H:FW n M B st)(hs:s<n)(hm:m<2 ^ 64)(a0 a4 a5 a6 a11 a46 a47 a48 a59 a60 a61:AV)(ts:TS)(z0:ts.get 0=a0)(z4:ts.get 4=a4)(z5:ts.get 5=a5)(z6:ts.get 6=a6)(z11:ts.get 11=a11)(z46:ts.get 46=a46)(z47:ts.get 47=a47)(z48:ts.get 48=a48)(z59:ts.get 59=a59)(z60:ts.get 60=a60)(z61:ts.get 61=a61)(z7:ts.get 7=.AQ 0 0 n (some n))(z8:ts.get 8=.AQ 1 0 n (some n))(z9:ts.get 9=.bool more)(z13:ts.get 13=.int .i64 (s:Int))(z14:ts.get 14=.int .u64 (m:Int))(z16:ts.get 16=.bool e) :
 (Ar E (AU E k) Vq ts st).to fun x=>x.1=.normal/\x.2.1.get 0=a0/\x.2.1.get 4=a4/\x.2.1.get 5=a5/\x.2.1.get 6=a6/\x.2.1.get 11=a11/\x.2.1.get 46=a46/\x.2.1.get 47=a47/\x.2.1.get 48=a48/\x.2.1.get 59=a59/\x.2.1.get 60=a60/\x.2.1.get 61=a61 /\
  x.2.1.get 7=.AQ 0 0 n (some n)/\x.2.1.get 8=.AQ 1 0 n (some n)/\((VA M B s m e/\x.2.1.get 9=.bool more/\x.2.2=st)∨(¬VA M B s m e/\x.2.1.get 9=.bool true/\FW n (M.set s (M.getD s 0 ||| m)) (B.set s (B.getD s false||e)) x.2.2/\x.2.2.c=st.c/\∀p,1<p->AA x.2.2.h p=AA st.h p)):=by
 obtain⟨h,c,lo⟩:=st
 have hlo:lo=0:=H.lo
 subst hlo
 have hlm:=H.lm
 have hlb:=H.lb
 have ixM:=Gc (st:=⟨h,c,0⟩) (n:=n) (cap:=some n) H.o0 hs
 have ixB:=Gc (st:=⟨h,c,0⟩) (n:=n) (cap:=some n) H.o1 hs
 have rM:AP h (.AO 0 s)=some (.int .u64 ((M.getD s 0:Nat):Int)):=by rw[AB H.o0,masks_get? _ _ (by omega)]
 have rB:AP h (.AO 1 s)=some (.bool (B.getD s false)):=by rw[AB H.o1,bools_get? _ _ (by omega)]
 have hnot:=XI (a:=m) (b:=M.getD s 0)
 have hor:=Re (H.nw s) hm
 have hz:=QF hm (H.nw s)
 have s1:=BX (st:=⟨h,c,0⟩) (off:=s) (v:=.int .u64 ((M.getD s 0 ||| m:Nat):Int)) H.o0 (Nat.zero_le _) (by simp; omega) rfl rfl
 rw[QJ] at s1
 obtain⟨h1,hh1⟩:∃h1:Af,h1=Ab h 0 (.cells 102 1 (Ci (M.set s (M.getD s 0 ||| m))) false):=⟨_,rfl⟩
 have f1:∀p,AA h1 p=if 0=p then some (.cells 102 1 (Ci (M.set s (M.getD s 0 ||| m))) false) else AA h p:=fun p=>by rw[hh1,AR H.o0]
 have o1':AA h1 1=some (.cells 4 1 (BJ B) false):=by rw[f1,if_neg (by omega)]; exact H.o1
 have s1':Bc 1 (.AO 0 s) (.int .u64 ((M.getD s 0 ||| m:Nat):Int)) ⟨h,c,0⟩=some (.undef,⟨h1,c,0⟩):=by rw[s1,hh1]
 have ixB1:=Gc (st:=⟨h1,c,0⟩) (n:=n) (cap:=some n) o1' hs
 have s2:∀b,Bc 1 (.AO 1 s) (.bool b) ⟨h1,c,0⟩=some (.undef,⟨Ab h1 1 (.cells 4 1 (BJ (B.set s b)) false),c,0⟩):=fun b=>by
  have:=BX (st:=⟨h1,c,0⟩) (off:=s) (v:=.bool b) o1' (Nat.zero_le _) (by simp; omega) rfl rfl
  rw[Jl] at this; exact this
 have fin:∀b,b=(B.getD s false||e)->FW n (M.set s (M.getD s 0 ||| m)) (B.set s (B.getD s false||e)) ⟨Ab h1 1 (.cells 4 1 (BJ (B.set s b)) false),c,0⟩/\∀p,1<p->AA (Ab h1 1 (.cells 4 1 (BJ (B.set s b)) false)) p=AA h p:=fun b hb=>by
  subst hb
  refine⟨⟨HB.Ab (st:=⟨h1,c,0⟩) (hh1 ▸ HB.Ab (st:=⟨h,c,0⟩) H.hb),rfl,H.c,?_,?_,by simpa using hlm,by simpa using hlb,H.nw.set (by omega) (Nat.or_lt_two_pow (H.nw s) hm)⟩,fun p hp=>?_⟩
  ·show AA (Ab h1 1 _) 0=_; rw[AR o1',if_neg (by omega),f1,if_pos rfl]
  ·show AA (Ab h1 1 _) 1=_; rw[AR o1',if_pos rfl]
  ·rw[AR o1',if_neg (by omega),f1,if_neg (by omega)]
 have keep0:Ar E (AU E k) Vq ts ⟨h,c,0⟩=Ar E (AU E k) Vq ts ⟨h,c,0⟩:=rfl
 obtain⟨P,hP⟩:∃P:Prop,P=VA M B s m e:=⟨_,rfl⟩
 rw[← hP]
 obtain⟨Mx,hMx⟩:∃x,x=M.getD s 0:=⟨_,rfl⟩
 obtain⟨Bx,hBx⟩:∃x,x=B.getD s false:=⟨_,rfl⟩
 by_cases hzero:QG m (M.getD s 0)=0
 ·have hin:=hz.1 hzero
  rw[hzero] at hnot
  cases e with
  |false=>
   have hPt:P:=by rw[hP]; exact⟨hin,fun h=>by cases h⟩
   simp[-Bool.exists_bool,-List.getD_eq_getElem?_getD,Vq,Az,Av,Pf,z0,z4,z5,z6,z11,z46,z47,z48,z59,z60,z61,z7,z8,z9,z13,z14,z16,ixM,ixB,rM,rB,hnot,hPt]
  |true=>
   cases hb:B.getD s false with
   |true=>
    rw[hb] at rB
    have hPt:P:=by rw[hP]; exact⟨hin,fun _=>hb⟩
    simp[-Bool.exists_bool,-List.getD_eq_getElem?_getD,Vq,Az,Av,Pf,z0,z4,z5,z6,z11,z46,z47,z48,z59,z60,z61,z7,z8,z9,z13,z14,z16,ixM,ixB,rM,rB,hnot,hPt]
   |false=>
    rw[hb] at rB fin
    have hPf:¬P:=by rw[hP]; intro h; have:=h.2 rfl; rw[hb] at this; cases this
    simp[-Bool.exists_bool,-List.getD_eq_getElem?_getD,Vq,Az,Av,Pf,KL,Jp,z0,z4,z5,z6,z11,z46,z47,z48,z59,z60,z61,z7,z8,z9,z13,z14,z16,ixM,ixB,rM,rB,hnot,hor,s1',ixB1,s2,hPf]
    simpa using fin true rfl
 ·have hzI:¬((QG m (M.getD s 0):Nat):Int)=0:=by omega
  have hzb:(((QG m (M.getD s 0):Nat):Int) != 0)=true:=by simp only[bne_iff_ne,ne_eq]; exact hzI
  have hPf:¬P:=by rw[hP]; intro h; exact hzero (hz.2 h.1)
  cases hb:B.getD s false with
  |true=>
   rw[hb] at rB fin
   simp[-Bool.exists_bool,-List.getD_eq_getElem?_getD,Vq,Az,Av,Pf,KL,Jp,z0,z4,z5,z6,z11,z46,z47,z48,z59,z60,z61,z7,z8,z9,z13,z14,z16,ixM,ixB,rM,rB,hnot,hzb,hzI,hzero,hor,s1',ixB1,s2,hPf]
   simpa using fin true rfl
  |false=>
   rw[hb] at rB fin
   simp[-Bool.exists_bool,-List.getD_eq_getElem?_getD,Vq,Az,Av,Pf,KL,Jp,z0,z4,z5,z6,z11,z46,z47,z48,z59,z60,z61,z7,z8,z9,z13,z14,z16,ixM,ixB,rM,rB,hnot,hzb,hzI,hzero,hor,s1',ixB1,s2,hPf]
   simpa using fin e (by simp)
end Go.Am
