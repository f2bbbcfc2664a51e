/- A part of the proof of beginningsTold (merged by a program). -/
import Derived.Test.YtehhlchbbdaipaaGreatDoorW2
namespace Go.Am
open Go
theorem Nf:∀(x y:Aj),Op.bytesLess x y=decide (x<y)
 |[],[]=>by simp[Op.bytesLess]
 |_::_,[]=>by simp[Op.bytesLess]
 |[],_::_=>by simp[Op.bytesLess]
 |a::x,b::y=>by
  rw[Op.bytesLess,Nf x y]
  simp only[List.cons_lt_cons_iff]
  by_cases h1:a<b <;> by_cases h2:a=b <;> by_cases h3:x<y <;> simp[h1,h2,h3]
theorem Hm (x:Aj):¬x<x:=List.lt_irrefl x
theorem Ku {x y z:Aj}(h:x<y)(k:y<z):x<z:=List.lt_trans h k
theorem Iy {x y:Aj}(h:¬x<y)(k:x≠y):y<x:=by
 rcases Decidable.em (y<x) with h'|h'
 ·exact h'
 ·exact absurd (List.le_antisymm (as:=x) (bs:=y) (by simpa using h') (by simpa using h)) k
theorem NR {x y:Aj}(h:x<y):¬y<x:=fun k=>Hm x (Ku h k)
def Up (l:List Aj):Prop:=l.Pairwise (·<·)
theorem VD:∀{a b:List Aj},Up a->Up b->(∀s,s∈a↔s∈b)->a=b
 |[],[],_,_,_=>rfl
 |[],y::b,_,_,h=>by have:=(h y).2 (by simp); simp at this
 |x::a,[],_,_,h=>by have:=(h x).1 (by simp); simp at this
 |x::a,y::b,ha,hb,h=>by
  obtain⟨ha1,ha2⟩:=List.pairwise_cons.1 ha
  obtain⟨hb1,hb2⟩:=List.pairwise_cons.1 hb
  have e:x=y:=by
   rcases List.mem_cons.1 ((h x).1 (by simp)) with e|hx
   ·exact e
   ·rcases List.mem_cons.1 ((h y).2 (by simp)) with e|hy
    ·exact e.symm
    ·exact absurd (hb1 _ hx) (NR (ha1 _ hy))
  subst e
  rw[VD ha2 hb2 fun s=>?_]
  constructor
  ·intro hs
   rcases List.mem_cons.1 ((h s).1 (List.mem_cons_of_mem _ hs)) with e|hx
   ·subst e; exact absurd (ha1 _ hs) (Hm _)
   ·exact hx
  ·intro hs
   rcases List.mem_cons.1 ((h s).2 (List.mem_cons_of_mem _ hs)) with e|hx
   ·subst e; exact absurd (hb1 _ hs) (Hm _)
   ·exact hx
def Mf (x:Aj):List Aj->List Aj
 |[]=>[x]
 |y::l=>if x<y then x::y::l else if x=y then y::l else y::Mf x l
theorem Sg {x s:Aj}:∀{l:List Aj},s∈Mf x l↔s=x∨s∈l
 |[]=>by simp[Mf]
 |y::l=>by
  unfold Mf
  split
  ·simp
  ·split
   ·rename_i h; subst h; simp
   ·rw[List.mem_cons,Sg,List.mem_cons]; constructor <;> (rintro (h|h|h) <;> simp[h])
theorem az {x:Aj}:∀{l:List Aj},Up l->Up (Mf x l)
 |[],_=>by simp[Mf,Up]
 |y::l,h=>by
  obtain⟨h1,h2⟩:=List.pairwise_cons.1 h
  unfold Mf
  split
  ·rename_i hx
   refine List.pairwise_cons.2 ⟨fun s hs=>?_,h⟩
   rcases List.mem_cons.1 hs with e|hs
   ·subst e; exact hx
   ·exact Ku hx (h1 s hs)
  ·split
   ·exact h
   ·rename_i hx he
    refine List.pairwise_cons.2 ⟨fun s hs=>?_,az h2⟩
    rcases Sg.1 hs with e|hs
    ·subst e; exact Iy hx he
    ·exact h1 s hs
def Di (l:List Aj):List Aj:=l.foldr Mf []
theorem NN (l:List Aj):Up (Di l):=by
 induction l with
 |nil=>simp[Di,Up]
 |cons x l ih=>exact az ih
theorem Hu {l:List Aj}{s:Aj}:s∈Di l↔s∈l:=by
 induction l with
 |nil=>simp[Di]
 |cons x l ih=>show s∈Mf x (Di l)↔_; rw[Sg,ih,List.mem_cons]
def AX.CB (g:AX):List Aj:=Di (g.rules.map (·.left))
theorem AX.IM {g:AX}{s:Aj}:s∈g.CB↔g.isLeft s=true:=by
 unfold AX.CB AX.isLeft
 rw[Hu]; simp
theorem AX.WS (g:AX):Up g.CB:=NN _
theorem Up.nodup {l:List Aj}(h:Up l):l.Nodup:=by
 refine List.Pairwise.imp ?_ h
 intro a b hab e; subst e; exact Hm _ hab
def Kk (f:Nat->Int):Nat->Int
 |0=>0
 |n+1=>if Kk f n=0 then f n else Kk f n
theorem IV {f:Nat->Int}:∀{n:Nat},(∀j,j<n->f j=0)->Kk f n=0
 |0,_=>rfl
 |n+1,h=>by rw[Kk,IV fun j hj=>h j (by omega),if_pos rfl]; exact h n (by omega)
theorem LG {f:Nat->Int}{i:Nat}(h:∀j,j<i->f j=0)(hne:f i≠0):∀{n:Nat},i<n->Kk f n=f i
 |0,hi=>absurd hi (by omega)
 |n+1,hi=>by
  rw[Kk]
  by_cases e:i=n
  ·subst e; rw[IV h,if_pos rfl]
  ·rw[LG h hne (show i<n by omega),if_neg hne]
theorem OP {f:Nat->Int}:∀{n:Nat},Kk f n=0->∀j,j<n->f j=0
 |0,_=>fun j hj=>absurd hj (by omega)
 |n+1,h=>by
  rw[Kk] at h
  split at h
  ·rename_i h0
   intro j hj
   by_cases e:j=n
   ·subst e; exact h
   ·exact OP h0 j (by omega)
  ·rename_i h0; exact absurd h h0
def Ir (l:List Aj)(i:Nat):Int:=if KR (l.getD i [])=false then 5 else if 0<i/\¬l.getD (i-1) []<l.getD i [] then 7 else 0
def SG (a b:Ba):Bool:=decide (a.left=b.left/\a.right=b.right)
def KU (g:AX)(i:Nat):Int:=
 if KR (g.rules.getD i default).left=false then 5
 else if (g.rules.getD i default).left∈g.kinds then 13
 else if 20<(g.rules.getD i default).right.length then 2
 else if ¬(0<=(g.rules.getD i default).level/\(g.rules.getD i default).level<=99) then 1
 else if ∃j,j<i/\SG (g.rules.getD j default) (g.rules.getD i default)=true then 6 else 0
def AX.sym (g:AX)(s:Aj):Bool:=decide (s∈g.kinds)||g.isLeft s
def AX.FR (g:AX):Int:=Kk (Ir g.kinds) g.kinds.length
def AX.Gx (g:AX):Int:=Kk (KU g) g.rules.length
def AX.Jq (g:AX):Bool:=g.rules.all fun r=>r.right.all g.sym
def AX.fault (g:AX):Int:=
 if g.FR≠0 then g.FR else if g.rules.length=0 then 8 else if g.Gx≠0 then g.Gx
 else if g.Jq=false then 8 else if g.isLeft g.start=false then 8 else 0
structure AX.Ok (g:AX):Prop where
 up:Up g.kinds
 apart:∀s,s∈g.kinds->s∉g.CB
 syms:∀r∈g.rules,∀s∈r.right,s∈g.kinds∨s∈g.CB
 start:g.start∈g.CB
theorem YE {l:List Aj}(h:∀i,0<i->i<l.length->l.getD (i-1) []<l.getD i []):Up l:=by
 induction l with
 |nil=>simp[Up]
 |cons x l ih=>
  have ih':Up l:=ih fun i h0 hi=>by
   have:=h (i+1) (by omega) (by simpa using hi)
   obtain⟨i,rfl⟩:∃k,i=k+1:=⟨i-1,by omega⟩
   simpa using this
  refine List.pairwise_cons.2 ⟨?_,ih'⟩
  cases l with
  |nil=>simp
  |cons y l=>
   have hxy:x<y:=by simpa using h 1 (by omega) (by simp)
   intro s hs
   rcases List.mem_cons.1 hs with e|hs
   ·subst e; exact hxy
   ·exact Ku hxy ((List.pairwise_cons.1 ih').1 s hs)
theorem AX.ok {g:AX}(h:g.fault=0):g.Ok:=by
 unfold AX.fault at h
 split at h
 ·rename_i h1; exact absurd h h1
 rename_i h1
 split at h
 ·cases h
 split at h
 ·rename_i h1; exact absurd h h1
 rename_i h2
 split at h
 ·cases h
 rename_i h3
 split at h
 ·cases h
 rename_i h4
 simp only[ne_eq,Decidable.not_not] at h1 h2
 refine⟨YE fun i h0 hi=>?_,fun s hs hl=>?_,fun r hr s hs=>?_,AX.IM.2 (by simpa using h4)⟩
 ·have:=OP h1 i hi
  unfold Ir at this
  split at this
  ·cases this
  split at this
  ·cases this
  rename_i h5
  exact Decidable.not_not.1 fun h6=>h5 ⟨h0,h6⟩
 ·have hl':=AX.IM.1 hl
  unfold AX.isLeft at hl'
  simp only[List.any_eq_true,beq_iff_eq] at hl'
  obtain⟨r,hr,rfl⟩:=hl'
  obtain⟨i,hi,rfl⟩:=List.getElem_of_mem hr
  have:=OP h2 i hi
  unfold KU at this
  have e:g.rules.getD i default=g.rules[i]:=by simp[List.getD,hi]
  rw[e] at this
  split at this
  ·cases this
  first
   |cases this
   |(rw[if_pos hs] at this; cases this)
 ·have h3':g.Jq=true:=by simpa using h3
  unfold AX.Jq at h3'
  have:=List.all_eq_true.1 (List.all_eq_true.1 h3' r hr) s hs
  unfold AX.sym at this
  simp only[Bool.or_eq_true,decide_eq_true_eq] at this
  rcases this with h|h
  ·exact .inl h
  ·exact .inr (AX.IM.2 h)
theorem AX.Ml {g:AX}(h:g.Ok):0<g.rules.length:=by
 have:=AX.IM.1 h.start
 unfold AX.isLeft at this
 simp only[List.any_eq_true] at this
 obtain⟨r,hr,_⟩:=this
 exact List.length_pos_of_mem hr
inductive VB (base:Aj->Prop) (g:AX):Aj->Prop
 |base {s:Aj} (h:base s):VB base g s
 |KP {r:Ba} (hr:r∈g.rules) (h:∀x∈r.right,VB base g x):VB base g r.left
inductive Reach (g:AX):Aj->Prop
 |start:Reach g g.start
 |step {r:Ba} {x:Aj} (hr:r∈g.rules) (h:Reach g r.left) (hx:x∈r.right):Reach g x
def Im (g:AX):Aj->Prop:=VB (fun _=>False) g
def Md (g:AX):Aj->Prop:=VB (·∈g.kinds) g
def oN (g:AX)(s x:Aj):Prop:=∃r∈g.rules,r.left=s/\∃a b,r.right=a++x::b/\(∀y∈a,Im g y)/\∀y∈b,Im g y
inductive WM (g:AX) (s:Aj):Aj->Prop
 |one {x:Aj} (h:oN g s x):WM g s x
 |more {x y:Aj} (h:WM g s x) (k:oN g x y):WM g s y
theorem Xu {k:Nat}{g:AX}{kv rv:AV}{st:St}(hk:BI kv 1 (strs g.kinds))(hs:g.Small)(hf:AA st.h 0=some (.cells 29 3 [kv,.str g.start,rv] false))(ts0:TS)(h1:ts0.get 1=.AO 0 0)(h17:ts0.get 17=kv)(h18:ts0.get 18=.int .i64 (g.kinds.length:Int))(h19:ts0.get 19=.int .i64 ((0:Nat):Int)) :
 (CJ (Ar E (AU E (k+3)) C.f7L0) E.k ts0 st).to fun x=>x.2.2=st/\((x.1=.exit 0/\g.FR=0/\x.2.1.get 1=.AO 0 0)∨(x.1=.ret/\g.FR≠0/\x.2.1.get 2=.int .i64 g.FR)):=by
 have hkn:=hs.kinds
 have hr0:AP st.h (.AO 0 0)=some kv:=by rw[AB hf]; rfl
 refine Be (fun (i:Nat) ts st'=>st'=st/\i<=g.kinds.length/\ts.get 1=.AO 0 0/\ts.get 17=kv/\ts.get 18=.int .i64 (g.kinds.length:Int)/\ts.get 19=.int .i64 (i:Int)/\∀j,j<i->Ir g.kinds j=0)
  (fun i=>g.kinds.length-i) ?_ _ 0 _ _ ?_ ?_
 ·rintro i ts st' ⟨rfl,hi,h1,h17,h18,h19,hall⟩
  by_cases Au:i<g.kinds.length
  ·have hnm:=hs.names _ (List.getElem_mem Au)
   have hrun:=UQ (k:=k) (s:=g.kinds[i]) (st:=st') (by omega)
   have hget:g.kinds.getD i []=g.kinds[i]:=by simp[List.getD,Au]
   have bad:∀n,Ir g.kinds i=n->n≠0->g.FR=n:=fun n h hn=>by
    unfold AX.FR; rw[LG hall (by rw[h]; exact hn) Au,h]
   cases hn:KR g.kinds[i] with
   |false=>
    have hb:=bad 5 (by unfold Ir; rw[hget,hn]; simp) (by decide)
    simp[C.f7L0,h1,h17,h18,h19,Au,hk.JY Au,hrun,hn,hb]
   |true=>
    by_cases h0:i=0
    ·subst h0
     have hix0:Aa 1 kv (.int .i64 0) st'=some (.BC [.str g.kinds[0]],st'):=hk.JY (i:=0) Au
     have Mw:Ir g.kinds 0=0:=by unfold Ir; rw[hget,hn]; simp
     simp[C.f7L0,Az,Av,h1,h17,h18,h19,Au,hix0,hrun,hn,wrap64 (n:=(1:Int)) (by omega) (by omega)]
     exact⟨1,by omega,by omega,by simp,fun j hj=>by
      have:j=0:=by omega
      subst this; exact Mw⟩
    ·have hp:i-1<g.kinds.length:=by omega
     have hcast:((i:Int)-1)=((i-1:Nat):Int):=by omega
     have hpos:0<i:=by omega
     have hgp:g.kinds.getD (i-1) []=g.kinds[i-1]:=by simp[List.getD,hp]
     by_cases hless:g.kinds[i-1]<g.kinds[i]
     ·have Mw:Ir g.kinds i=0:=by unfold Ir; rw[hget,hgp,hn]; simp[hless]
      simp[C.f7L0,Az,Av,h1,h17,h18,h19,Au,hk.JY Au,hrun,hn,hpos,hr0,wrap64 (n:=((i-1:Nat):Int)) (by omega) (by omega),hcast,hk.JY hp,Nf,hless,wi i]
      refine⟨i+1,by omega,by omega,by simp,fun j hj=>?_⟩
      rcases Nat.lt_or_ge j i with h|h
      ·exact hall j h
      ·have:j=i:=by omega
       subst this; exact Mw
     ·have hb:=bad 7 (by unfold Ir; rw[hget,hgp,hn]; simp[hless]; omega) (by decide)
      simp[C.f7L0,Az,Av,h1,h17,h18,h19,Au,hk.JY Au,hrun,hn,hpos,hr0,wrap64 (n:=((i-1:Nat):Int)) (by omega) (by omega),hcast,hk.JY hp,Nf,hless,hb]
  ·have:i=g.kinds.length:=by omega
   subst this
   have:g.FR=0:=IV hall
   simp[C.f7L0,h1,h18,h19,this]
 ·show g.kinds.length-0<1000000; omega
 ·exact⟨rfl,by omega,h1,h17,h18,h19,fun j h=>by omega⟩
theorem BI.cut {v:AV}{sz:Nat}{xs:List AV}{st:St}(h:BI v sz xs){i:Nat}(hi:i<=xs.length) :
 ∃w,CF sz false true false [v,.int .i64 (i:Int)] st=some (w,st)/\BI w sz (xs.take i):=by
 rcases h.out with⟨rfl,rfl⟩|⟨t,rfl⟩
 ·have:i=0:=by simpa using hi
  subst this
  exact⟨.AJ,rfl,⟨.inl ⟨rfl,rfl⟩⟩⟩
 ·refine⟨.list (t&&Nat.beq i xs.length) sz (xs.take i),?_,⟨.inr ⟨_,rfl⟩⟩⟩
  simp[CF,Dc,Bb,Cz,beq_eq,NT,ble_eq,hi]
theorem BI.from_ {v:AV}{sz:Nat}{xs:List AV}{st:St}(h:BI v sz xs){i:Nat}(hi:i<=xs.length) :
 ∃w,CF sz true false false [v,.int .i64 (i:Int)] st=some (w,st)/\BI w sz (xs.drop i):=by
 rcases h.out with⟨rfl,rfl⟩|⟨t,rfl⟩
 ·have:i=0:=by simpa using hi
  subst this
  exact⟨.AJ,rfl,⟨.inl ⟨rfl,rfl⟩⟩⟩
 ·refine⟨.list (t&&Nat.beq xs.length xs.length) sz (xs.drop i),?_,⟨.inr ⟨_,rfl⟩⟩⟩
  simp[CF,Dc,Bb,Cz,beq_eq,NT,ble_eq,hi]
theorem HB.cons {h:Af}{c lo c' p:Nat}{x:Ai}(hb:HB ⟨h,c,lo⟩)(hp:p<c')(hc:c<=c'){lo':Nat}:HB ⟨(p,x)::h,c',lo'⟩:=by
 intro q y hq
 rcases List.mem_cons.1 hq with e|hm
 ·cases e; exact hp
 ·exact Nat.lt_of_lt_of_le (hb q y hm) hc
theorem HB.up {h:Af}{c lo c':Nat}(hb:HB ⟨h,c,lo⟩)(hc:c<=c'){lo':Nat}:HB ⟨h,c',lo'⟩:=fun q y hm=>Nat.lt_of_lt_of_le (hb q y hm) hc
theorem HB.lo {st:St}(hb:HB st){l:Nat}:HB { st with lo:=l }:=hb
theorem CO {h:Af}{c c' lo ty n:Nat}{zs vs:List AV}(hlo:lo<=c)(h1:vs.length=n)(h2:zs.length=n) :
 Bc n (.AO c 0) (.agg vs) ⟨(c,.cells ty n zs false)::h,c',lo⟩=some (.undef,⟨(c,.cells ty n vs false)::h,c',lo⟩):=by
 rw[Cq (cs:=zs) (ty:=ty) (sz:=n) (ext:=false) (by rw[AL,if_pos rfl]) hlo h1 h2]
 simp[Ab]
theorem SB {k:Nat}{v:AV}{g:AX}{x:Aj}{st:St}(hg:BP v g)(hs:g.Small)(hb:HB st) :
 AU E (k+6) 29 [v,.str x] st=.ret (.bool (g.sym x),st):=by
 have hg':=hg
 obtain⟨kv,rv,l,rfl,hk,hr,hrs⟩:=hg'
 rw[BS (fn:=C.f29) rfl rfl rfl,Ad (by simp)]
 have hb':∀p x,(p,x)∈st.h->p<st.c:=hb
 have hbx:Dr st.c 29 3 (.agg [kv,.str g.start,rv])=some (.AO st.c 0,.cells 29 3 [kv,.str g.start,rv] false):=rfl
 have hbS:∀{c lo:Nat},st.c+1<=c->HB ⟨(st.c,.cells 29 3 [kv,.str g.start,rv] false)::st.h,c,lo⟩:=fun {c lo} hc=>HB.cons (h:=st.h) (c:=st.c) (lo:=st.lo) hb (by omega) (by omega)
 have hrd:AZ ((st.c,Ai.cells 29 3 [kv,.str g.start,rv] false)::st.h) (.AO st.c 0) 3=some [kv,.str g.start,rv]:=Ae (by rw[AL,if_pos rfl]) rfl
 have hkr:=PD (k:=k+2) (x:=x) (st:=⟨(st.c,.cells 29 3 [kv,.str g.start,rv] false)::st.h,st.c+1,st.c⟩) hg hs (hbS (by omega))
 have hlr:=XP (k:=k) (x:=x) (st:=⟨(st.c,.cells 29 3 [kv,.str g.start,rv] false)::st.h,st.c+1,st.c⟩) hg hs (hbS (by omega))
 cases hx:decide (x∈g.kinds) with
 |true=>rw[hx] at hkr; simp[C.f29,Az,Av,hbx,Ac hb',hrd,hkr,leave,results,AY,AX.sym,hx]
 |false=>rw[hx] at hkr; simp[C.f29,Az,Av,hbx,Ac hb',hrd,hkr,hlr,leave,results,AY,AX.sym,hx]
structure FS (gs:List AV)(st:St):Prop where
 hb:HB st
 g0:AA st.h 0=some (.cells 29 3 gs false)
 c0:0<st.c
 lo:st.lo=0
set_option maxHeartbeats 4000000 in
theorem Xt {k:Nat}{g:AX}{kv rv:AV}{l:List AV}(hk:BI kv 1 (strs g.kinds))(hr:BI rv 3 l)(hrs:Bt l g.rules)(hs:g.Small)(st:St)(H:FS [kv,.str g.start,rv] st)(ts0:TS)(h1:ts0.get 1=.AO 0 0)(h49:ts0.get 49=rv)(h50:ts0.get 50=.int .i64 (g.rules.length:Int))(h51:ts0.get 51=.int .i64 ((0:Nat):Int)) :
 (CJ (Ar E (AU E (k+4)) C.f7L1) E.k ts0 st).to fun x=>FS [kv,.str g.start,rv] x.2.2/\((x.1=.exit 2/\g.Gx=0/\x.2.1.get 1=.AO 0 0)∨(x.1=.ret/\g.Gx≠0/\x.2.1.get 2=.int .i64 g.Gx)):=by
 have hln:=hrs.length
 have hmany:=hs.many
 have hG:BP (.agg [kv,.str g.start,rv]) g:=⟨kv,rv,l,rfl,hk,hr,hrs⟩
 refine Be (fun (i:Nat) ts st'=>FS [kv,.str g.start,rv] st'/\i<=g.rules.length/\ts.get 1=.AO 0 0/\ts.get 49=rv/\ts.get 50=.int .i64 (g.rules.length:Int)/\ts.get 51=.int .i64 (i:Int)/\∀j,j<i->KU g j=0)
  (fun i=>g.rules.length-i) ?_ _ 0 _ _ ?_ ?_
 ·rintro i ts st' ⟨H,hi,h1,h49,h50,h51,hall⟩
  by_cases Au:i<g.rules.length
  ·have hil:i<l.length:=by omega
   obtain⟨w,e1,e2⟩:=(hrs.get i Au).2
   have hsm:=hs.rules _ (List.getElem_mem Au)
   have hget:g.rules.getD i default=g.rules[i]:=by simp[List.getD,Au]
   have bad:∀n,KU g i=n->n≠0->g.Gx=n:=fun n h hn=>by
    unfold AX.Gx; rw[LG hall (by rw[h]; exact hn) Au,h]
   obtain⟨h,c,lo⟩:=st'
   have hlo:lo=0:=H.lo
   subst hlo
   have hb':∀p x,(p,x)∈h->p<c:=H.hb
   have hc0:0<c:=H.c0
   have hc1:c≠0:=by omega
   obtain⟨rc,hrc⟩:∃rc:List AV,rc=[.str g.rules[i].left,w,.int .i64 g.rules[i].level]:=⟨_,rfl⟩
   obtain⟨h',hh'⟩:∃h':Af,h'=(c,Ai.cells 68 3 rc false)::h:=⟨_,rfl⟩
   have hbS:HB ⟨h',c+1,0⟩:=hh' ▸ HB.cons (h:=h) (c:=c) (lo:=0) H.hb (by omega) (by omega)
   have HS:FS [kv,.str g.start,rv] ⟨h',c+1,0⟩:=⟨hbS,by rw[hh',AL,if_neg hc1]; exact H.g0,by show 0<c+1; omega,rfl⟩
   have hix:Aa 3 rv (.int .i64 (i:Int)) ⟨h,c+1,0⟩=some (.BC l[i].cells,⟨h,c+1,0⟩):=hr.idx hil
   have hcells:l[i].cells=rc:=by rw[e1,hrc]; rfl
   rw[hcells] at hix
   have hn:newObj c (.cells 68 3 [.str [],.AJ,.int .i64 0] false) ⟨h,c+1,0⟩=some ⟨(c,.cells 68 3 [.str [],.AJ,.int .i64 0] false)::h,c+1,0⟩:=Ac hb'
   have hst:=CO (h:=h) (c:=c) (c':=c+1) (lo:=0) (ty:=68) (n:=3) (zs:=[.str [],.AJ,.int .i64 0]) (vs:=rc) (by omega) (by rw[hrc]; rfl) rfl
   rw[← hh'] at hst
   have hrd3:AZ h (.BC rc) 3=some rc:=by rw[hrc]; rfl
   have fc:AA h' c=some (.cells 68 3 rc false):=by rw[hh',AL,if_pos rfl]
   have f0:=HS.g0
   have r0:AP h' (.AO 0 2)=some rv:=by rw[AB f0]; rfl
   have rg:AZ h' (.AO 0 0) 3=some [kv,.str g.start,rv]:=Ae f0 rfl
   have rc0:AP h' (.AO c 0)=some (.str g.rules[i].left):=by rw[AB fc,hrc]; rfl
   have rc1:AP h' (.AO c 1)=some w:=by rw[AB fc,hrc]; rfl
   have rc2:AP h' (.AO c 2)=some (.int .i64 g.rules[i].level):=by rw[AB fc,hrc]; rfl
   obtain⟨w2,c1,c2⟩:=hr.cut (st:=⟨h',c+1,0⟩) (i:=i) (by omega)
   have hln2:(l.take i).length=i:=by simp; omega
   have hcon:=Gp (k:=k+2) (n:=i) (fc:=50) (w:=w2) (a:=[]) (b:=[.AO c 0]) (el:=fun j=>(l.getD j .undef).cells) (p:=fun j=>SG (g.rules.getD j default) g.rules[i]) (st:=⟨h',c+1,0⟩)
    (by rw[c2.QL,hln2]) (by omega) (fun j hj=>by
     have hjl:j<l.length:=by omega
     have hg:l.getD j .undef=l[j]:=by simp[List.getD,hjl]
     obtain⟨w',lv',e'⟩:=(hrs.get j (by omega)).2.iZ
     refine⟨.BC l[j].cells,?_,?_⟩
     ·have:=c2.idx (st:=⟨h',c+1,0⟩) (i:=j) (by omega)
      simpa using this
     ·rw[hg,e']; simp[AZ,AV.cells,ble_eq]) (fun j hj=>by
     have hjl:j<l.length:=by omega
     have hg:l.getD j .undef=l[j]:=by simp[List.getD,hjl]
     have hg2:g.rules.getD j default=g.rules[j]'(by omega):=by simp[List.getD,show j<g.rules.length by omega]
     obtain⟨w',e1',e2'⟩:=(hrs.get j (by omega)).2
     have hsm':=hs.rules _ (List.getElem_mem (show j<g.rules.length by omega))
     have hr30:=hsm'.right
     have:=We (k:=k) (la:=(g.rules[j]'(by omega)).left) (q:=c) (st:=⟨h',c+1,0⟩) (na:=(g.rules[j]'(by omega)).level) hbS (by show c<c+1; omega) (hrc ▸ fc) (by omega) (fun _ _=>Reads.OI e2') (fun _ _=>Reads.OI e2)
     rw[hg,e1',hg2]
     exact this)
   have hname:=UQ (k:=k+1) (s:=g.rules[i].left) (st:=⟨h',c+1,0⟩) (by have:=hsm.left; omega)
   have hkind:=PD (k:=k+1) (x:=g.rules[i].left) hG hs hbS
   have hin:=qg (k:=k+3) (x:=g.rules[i].level) (l:=0) (u:=99) (st:=⟨h',c+1,0⟩)
   have hlr:BO .slice w ⟨h',c+1,0⟩=some (.int .i64 (g.rules[i].right.length:Int),⟨h',c+1,0⟩):=by have:=e2.len (st:=⟨h',c+1,0⟩); simpa using this
   have hpair:(ts.get 1)=.AO 0 0:=h1
   have hF:KU g i=bif !KR g.rules[i].left then 5 else bif decide (g.rules[i].left∈g.kinds) then 13 else bif decide (20<g.rules[i].right.length) then 2 else bif !decide (0<=g.rules[i].level/\g.rules[i].level<=99) then 1 else bif decide (∃j,j<i/\SG (g.rules.getD j default) g.rules[i]=true) then 6 else 0:=by
    unfold KU; rw[hget]
    simp only[cond_eq_ite,Bool.not_eq_true',decide_eq_true_eq,decide_eq_false_iff_not]
   have hb3:decide ((20:Int)<(g.rules[i].right.length:Int))=decide (20<g.rules[i].right.length):=by simp only[decide_eq_decide]; omega
   have hgt:bin .gtr (.int .i64 (g.rules[i].right.length:Int)) (.int .i64 20)=some (.bool (decide (20<g.rules[i].right.length))):=by rw[Rq,hb3]
   generalize KR g.rules[i].left=b1 at hF hname
   generalize decide (g.rules[i].left∈g.kinds)=b2 at hF hkind
   generalize decide (20<g.rules[i].right.length)=b3 at hF hgt
   generalize decide (0<=g.rules[i].level/\g.rules[i].level<=99)=b4 at hF hin
   generalize decide (∃j,j<i/\SG (g.rules.getD j default) g.rules[i]=true)=b5 at hF hcon
   simp[C.f7L1,h1,h49,h50,h51,Au,hix,-Aw,hrd3,hn,hst,r0,c1,hcon,rc0,rc1,rc2,hname,rg,hkind,hlr,-Rq,hgt,hin,M.Un,wi i]
   cases b1 with
   |false=>simp[bad 5 hF (by decide),HS]
   |true=>
   cases b2 with
   |true=>simp[bad 13 hF (by decide),HS]
   |false=>
   cases b3 with
   |true=>simp[bad 2 hF (by decide),HS]
   |false=>
   cases b4 with
   |false=>simp[bad 1 hF (by decide),HS]
   |true=>
   cases b5 with
   |true=>simp[bad 6 hF (by decide),HS]
   |false=>
   simp[HS,h1,h49,h50]
   refine⟨i+1,by omega,by omega,by simp,fun j hj=>?_⟩
   rcases Nat.lt_or_ge j i with h|h
   ·exact hall j h
   ·have:j=i:=by omega
    subst this; exact hF
  ·have:i=g.rules.length:=by omega
   subst this
   have:g.Gx=0:=IV hall
   simp[C.f7L1,h1,h50,h51,this,H]
 ·show g.rules.length-0<1000000; omega
 ·exact⟨H,by omega,h1,h49,h50,h51,fun j h=>by omega⟩
theorem Xq {k:Nat}{g:AX}{kv rv w:AV}{l:List AV}{r:List Aj}(hk:BI kv 1 (strs g.kinds))(hr:BI rv 3 l)(hrs:Bt l g.rules)(hs:g.Small)(hw:BI w 1 (strs r))(hrl:r.length<=1000)(st:St)(H:FS [kv,.str g.start,rv] st)(a87 a88:AV)(ts0:TS)(h1:ts0.get 1=.AO 0 0)(h86:ts0.get 86=rv)(h87:ts0.get 87=a87)(h88:ts0.get 88=a88)(h93:ts0.get 93=w)(h94:ts0.get 94=.int .i64 (r.length:Int))(h95:ts0.get 95=.int .i64 ((0:Nat):Int)) :
 (CJ (Ar E (AU E (k+6)) C.f7L3) E.k ts0 st).to fun x=>x.2.2=st/\((x.1=.exit 7/\r.all g.sym=true/\x.2.1.get 1=.AO 0 0/\x.2.1.get 86=rv/\x.2.1.get 87=a87/\x.2.1.get 88=a88)∨(x.1=.ret/\r.all g.sym=false/\x.2.1.get 2=.int .i64 8)):=by
 have hG:BP (.agg [kv,.str g.start,rv]) g:=⟨kv,rv,l,rfl,hk,hr,hrs⟩
 have rg:AZ st.h (.AO 0 0) 3=some [kv,.str g.start,rv]:=Ae H.g0 rfl
 refine Be (fun (i:Nat) ts st'=>st'=st/\i<=r.length/\ts.get 1=.AO 0 0/\ts.get 86=rv/\ts.get 87=a87/\ts.get 88=a88/\ts.get 93=w/\ts.get 94=.int .i64 (r.length:Int)/\ts.get 95=.int .i64 (i:Int)/\∀j (hj:j<r.length),j<i->g.sym r[j]=true)
  (fun i=>r.length-i) ?_ _ 0 _ _ ?_ ?_
 ·rintro i ts st' ⟨rfl,hi,h1,h86,h87,h88,h93,h94,h95,hall⟩
  by_cases Au:i<r.length
  ·have hsy:=SB (k:=k) (x:=r[i]) hG hs H.hb
   cases hx:g.sym r[i] with
   |true=>
    rw[hx] at hsy
    simp[C.f7L3,h1,h86,h87,h88,h93,h94,h95,Au,hw.JY Au,rg,hsy,wi i]
    refine⟨i+1,by omega,by omega,by simp,fun j hj hji=>?_⟩
    rcases Nat.lt_or_ge j i with h|h
    ·exact hall j hj h
    ·have:j=i:=by omega
     subst this; exact hx
   |false=>
    rw[hx] at hsy
    have hno:r.all g.sym=false:=by rw[List.all_eq_false]; exact⟨r[i],List.getElem_mem Au,by simp[hx]⟩
    simp[C.f7L3,h1,h86,h87,h88,h93,h94,h95,Au,hw.JY Au,rg,hsy]
    simpa using hno
  ·have:i=r.length:=by omega
   subst this
   have hyes:r.all g.sym=true:=by
    rw[List.all_eq_true]; intro x hx
    obtain⟨j,hj,rfl⟩:=List.getElem_of_mem hx
    exact hall j hj hj
   simp[C.f7L3,h1,h86,h87,h88,h94,h95]
   simpa using hyes
 ·show r.length-0<1000000; omega
 ·exact⟨rfl,by omega,h1,h86,h87,h88,h93,h94,h95,fun j _ h=>by omega⟩
set_option maxHeartbeats 1000000 in
theorem Xr {k:Nat}{g:AX}{kv rv:AV}{l:List AV}(hk:BI kv 1 (strs g.kinds))(hr:BI rv 3 l)(hrs:Bt l g.rules)(hs:g.Small)(st:St)(H:FS [kv,.str g.start,rv] st)(ts0:TS)(h1:ts0.get 1=.AO 0 0)(h86:ts0.get 86=rv)(h87:ts0.get 87=.int .i64 (g.rules.length:Int))(h88:ts0.get 88=.int .i64 ((0:Nat):Int)) :
 (CJ (Ar E (AU E (k+6)) C.f7L2) E.k ts0 st).to fun x=>FS [kv,.str g.start,rv] x.2.2/\((x.1=.exit 5/\g.Jq=true/\x.2.1.get 1=.AO 0 0)∨(x.1=.ret/\g.Jq=false/\x.2.1.get 2=.int .i64 8)):=by
 have hln:=hrs.length
 have hmany:=hs.many
 refine Be (fun (i:Nat) ts st'=>FS [kv,.str g.start,rv] st'/\i<=g.rules.length/\ts.get 1=.AO 0 0/\ts.get 86=rv/\ts.get 87=.int .i64 (g.rules.length:Int)/\ts.get 88=.int .i64 (i:Int)/\∀j (hj:j<g.rules.length),j<i->g.rules[j].right.all g.sym=true)
  (fun i=>g.rules.length-i) ?_ _ 0 _ _ ?_ ?_
 ·rintro i ts st' ⟨H,hi,h1,h86,h87,h88,hall⟩
  by_cases Au:i<g.rules.length
  ·have hil:i<l.length:=by omega
   obtain⟨w,e1,e2⟩:=(hrs.get i Au).2
   have hsm:=hs.rules _ (List.getElem_mem Au)
   have hsr:=hsm.right
   obtain⟨h,c,lo⟩:=st'
   have hlo:lo=0:=H.lo
   subst hlo
   have hb':∀p x,(p,x)∈h->p<c:=H.hb
   have hc0:0<c:=H.c0
   have hc1:c≠0:=by omega
   obtain⟨rc,hrc⟩:∃rc:List AV,rc=[.str g.rules[i].left,w,.int .i64 g.rules[i].level]:=⟨_,rfl⟩
   obtain⟨h',hh'⟩:∃h':Af,h'=(c,Ai.cells 68 3 rc false)::h:=⟨_,rfl⟩
   have hbS:HB ⟨h',c+1,0⟩:=hh' ▸ HB.cons (h:=h) (c:=c) (lo:=0) H.hb (by omega) (by omega)
   have HS:FS [kv,.str g.start,rv] ⟨h',c+1,0⟩:=⟨hbS,by rw[hh',AL,if_neg hc1]; exact H.g0,by show 0<c+1; omega,rfl⟩
   have hix:Aa 3 rv (.int .i64 (i:Int)) ⟨h,c+1,0⟩=some (.BC l[i].cells,⟨h,c+1,0⟩):=hr.idx hil
   have hcells:l[i].cells=rc:=by rw[e1,hrc]; rfl
   rw[hcells] at hix
   have hn:newObj c (.cells 68 3 [.str [],.AJ,.int .i64 0] false) ⟨h,c+1,0⟩=some ⟨(c,.cells 68 3 [.str [],.AJ,.int .i64 0] false)::h,c+1,0⟩:=Ac hb'
   have hst:=CO (h:=h) (c:=c) (c':=c+1) (lo:=0) (ty:=68) (n:=3) (zs:=[.str [],.AJ,.int .i64 0]) (vs:=rc) (by omega) (by rw[hrc]; rfl) rfl
   rw[← hh'] at hst
   have hrd3:AZ h (.BC rc) 3=some rc:=by rw[hrc]; rfl
   have fc:AA h' c=some (.cells 68 3 rc false):=by rw[hh',AL,if_pos rfl]
   have rc1:AP h' (.AO c 1)=some w:=by rw[AB fc,hrc]; rfl
   have hlr:BO .slice w ⟨h',c+1,0⟩=some (.int .i64 (g.rules[i].right.length:Int),⟨h',c+1,0⟩):=by have:=e2.len (st:=⟨h',c+1,0⟩); simpa using this
   have loop:=fun a87 a88 ts0 z1 z86 z87 z88 z93 z94 z95=>Xq (k:=k) hk hr hrs hs e2 (by omega) ⟨h',c+1,0⟩ HS a87 a88 ts0 z1 z86 z87 z88 z93 z94 z95
   simp[C.f7L2,h1,h86,h87,h88,Au,hix,-Aw,hrd3,hn,hst,rc1,hlr]
   refine M.Al (loop _ _ _ (by simp[h1]) (by simp[h86]) (by simp[h87]; rfl) (by simp[h88]; rfl) (by simp) (by simp) (by simp)) fun x hx=>?_
   obtain⟨e,ts1,st1⟩:=x
   obtain⟨rfl,⟨rfl,ha,g1,g86,g87,g88⟩|⟨rfl,ha,g2⟩⟩:=hx
   ·simp only at g1 g86 g87 g88
    simp[g1,g86,g87,g88,HS,wi i]
    refine⟨i+1,by omega,by omega,by simp,fun j hj hji=>?_⟩
    rcases Nat.lt_or_ge j i with h|h
    ·simpa using hall j hj h
    ·have:j=i:=by omega
     subst this; simpa using ha
   ·simp only at g2
    have hno:g.Jq=false:=by unfold AX.Jq; rw[List.all_eq_false]; exact⟨_,List.getElem_mem Au,by simpa using ha⟩
    simp[g2,HS,hno]
  ·have:i=g.rules.length:=by omega
   subst this
   have hyes:g.Jq=true:=by
    unfold AX.Jq; rw[List.all_eq_true]; intro x hx
    obtain⟨j,hj,rfl⟩:=List.getElem_of_mem hx
    exact hall j hj hj
   simp[C.f7L2,h1,h87,h88,hyes,H]
 ·show g.rules.length-0<1000000; omega
 ·exact⟨H,by omega,h1,h86,h87,h88,fun j _ h=>by omega⟩
theorem Tt {k:Nat}{v:AV}{g:AX}{st:St}(hg:BP v g)(hs:g.Small):AU E (k+7) 7 [v] st=.ret (.int .i64 g.fault,st):=by
 have hold:=hg.Gi 0
 obtain⟨kv,rv,l,rfl,hk,hr,hrs⟩:=hg
 have hG:BP (.agg [kv,.str g.start,rv]) g:=⟨kv,rv,l,rfl,hk,hr,hrs⟩
 have hln:=hrs.length
 have hmany:=hs.many
 have hkn:=hs.kinds
 rw[BZ (fn:=C.f7) rfl rfl rfl (by simp[AV.CL,hold]),Ad (by simp)]
 have goal:((Ar E (AU E (k+6)) C.f7.body (TS.CY [.agg [kv,.str g.start,rv]] 0 .nil) ⟨[],0,0⟩).bind (leave C.f7.results)).to fun r=>r.1=.int .i64 g.fault:=by
  have hbx:Dr 0 29 3 (.agg [kv,.str g.start,rv])=some (.AO 0 0,.cells 29 3 [kv,.str g.start,rv] false):=rfl
  obtain⟨S,hS⟩:∃S:St,S=⟨[(0,.cells 29 3 [kv,.str g.start,rv] false)],1,0⟩:=⟨_,rfl⟩
  have hn:newObj 0 (.cells 29 3 [kv,.str g.start,rv] false) ⟨[],1,0⟩=some S:=by rw[hS]; rfl
  have FSS:FS [kv,.str g.start,rv] S:=by
   subst hS
   refine⟨?_,rfl,Nat.zero_lt_one,rfl⟩
   intro p x hp
   rcases List.mem_cons.1 hp with h|h
   ·cases h; exact Nat.zero_lt_one
   ·cases h
  have r0:∀{S':St},FS [kv,.str g.start,rv] S'->AP S'.h (.AO 0 0)=some kv:=fun H=>by rw[AB H.g0]; rfl
  have r1:∀{S':St},FS [kv,.str g.start,rv] S'->AP S'.h (.AO 0 1)=some (.str g.start):=fun H=>by rw[AB H.g0]; rfl
  have r2:∀{S':St},FS [kv,.str g.start,rv] S'->AP S'.h (.AO 0 2)=some rv:=fun H=>by rw[AB H.g0]; rfl
  have rg:∀{S':St},FS [kv,.str g.start,rv] S'->AZ S'.h (.AO 0 0) 3=some [kv,.str g.start,rv]:=fun H=>Ae H.g0 rfl
  have hlk:∀S':St,BO .slice kv S'=some (.int .i64 (g.kinds.length:Int),S'):=fun S'=>by have:=hk.len (st:=S'); simpa using this
  have hlr:∀S':St,BO .slice rv S'=some (.int .i64 (g.rules.length:Int),S'):=fun S'=>by have:=hr.len (st:=S'); rw[this,hln]
  have hk60:¬(60:Int)<(g.kinds.length:Int):=by omega
  have hk60':¬60<g.kinds.length:=by omega
  have hr100:¬(100:Int)<(g.rules.length:Int):=by omega
  simp[C.f7,hbx,hn,r0 FSS,hlk,hk60]
  refine M.Al (Xu (k:=k+3) hk hs FSS.g0 _ (by simp) (by simp) (by simp) (by simp)) fun x hx=>?_
  obtain⟨e,ts1,st1⟩:=x
  obtain⟨h,h'⟩:=hx
  simp only at h h'
  subst h
  rcases h' with⟨rfl,hf0,g1⟩|⟨rfl,hf0,g2⟩
  ·by_cases hz:g.rules.length=0
   ·have hfault:g.fault=8:=by unfold AX.fault; rw[if_neg (by simp[hf0]),if_pos hz]
    simp[g1,r2 FSS,hlr,hz,leave,results,AY,hfault]
   ·have hz':((g.rules.length:Int)==0)=false:=by simp only[beq_eq_false_iff_ne,ne_eq]; omega
    simp[g1,r2 FSS,hlr,hz',hr100]
    refine M.Al (Xt (k:=k+2) hk hr hrs hs _ FSS _ (by simp[g1]) (by simp) (by simp) (by simp)) fun x hx=>?_
    obtain⟨e,ts2,st2⟩:=x
    obtain⟨F2,h'⟩:=hx
    simp only at F2 h'
    rcases h' with⟨rfl,hf1,g1'⟩|⟨rfl,hf1,g2'⟩
    ·simp[g1',r2 F2,hlr]
     refine M.Al (Xr (k:=k) hk hr hrs hs _ F2 _ (by simp[g1']) (by simp) (by simp) (by simp)) fun x hx=>?_
     obtain⟨e,ts3,st3⟩:=x
     obtain⟨F3,h'⟩:=hx
     simp only at F3 h'
     rcases h' with⟨rfl,hf2,g1''⟩|⟨rfl,hf2,g2''⟩
     ·have hl:=XP (k:=k+1) (x:=g.start) hG hs F3.hb
      cases hst:g.isLeft g.start with
      |true=>
       rw[hst] at hl
       have hfault:g.fault=0:=by unfold AX.fault; rw[if_neg (by simp[hf0]),if_neg hz,if_neg (by simp[hf1]),if_neg (by simp[hf2]),if_neg (by simp[hst])]
       simp[g1'',rg F3,r1 F3,hl,leave,results,AY,hfault]
      |false=>
       rw[hst] at hl
       have hfault:g.fault=8:=by unfold AX.fault; rw[if_neg (by simp[hf0]),if_neg hz,if_neg (by simp[hf1]),if_neg (by simp[hf2]),if_pos hst]
       simp[g1'',rg F3,r1 F3,hl,leave,results,AY,hfault]
     ·have hfault:g.fault=8:=by unfold AX.fault; rw[if_neg (by simp[hf0]),if_neg hz,if_neg (by simp[hf1]),if_pos hf2]
      simp[g2'',leave,results,AY,hfault]
    ·have hfault:g.fault=g.Gx:=by unfold AX.fault; rw[if_neg (by simp[hf0]),if_neg hz,if_pos hf1]
     simp[g2',leave,results,AY,hfault]
  ·have hfault:g.fault=g.FR:=by unfold AX.fault; rw[if_pos hf0]
   simp[g2,leave,results,AY,hfault]
 obtain⟨⟨v,st'⟩,h1,h2⟩:=goal
 simp only at h2
 subst h2
 rw[h1]
 simp
theorem fA {k:Nat}{x l u:Int}{st:St}:AU E (k+1) 140 [.int .i64 x,.int .i64 l,.int .i64 u] st=.ret (.bool (decide (l<=x/\x<=u)),st):=by
 rw[Ap (fn:=C.f140) rfl rfl rfl,Ad (by simp)]
 by_cases h:l<=x
 ·by_cases h2:x<=u
  ·simp[C.f140,Az,Av,h,h2,leave,results,AY]
  ·simp[C.f140,Az,Av,h,h2,leave,results,AY]
 ·simp[C.f140,Az,Av,h,leave,results,AY]
theorem VJ {k q:Nat}{st:St}{la lb:Aj}{wa wb:AV}{ra rb:List Aj}{na nb:Int}(hb:HB st)(hq:q<st.c)(hf:AA st.h q=some (.cells 68 3 [.str lb,wb,.int .i64 nb] false))(hra:ra.length<1000000)(r1:∀h:Af,(∀p,p<st.c->AA h p=AA st.h p)->Reads h wa ra)(r2:∀h:Af,(∀p,p<st.c->AA h p=AA st.h p)->Reads h wb rb) :
 AU E (k+2) 141 [.agg [.str la,wa,.int .i64 na],.AO q 0] st=.ret (.bool (decide (la=lb/\ra=rb)),st):=by
 rw[BS (fn:=C.f141) rfl rfl rfl,Ad (by simp)]
 have hb':∀p x,(p,x)∈st.h->p<st.c:=hb
 have hfr:∀p,p<st.c->AA ((st.c,Ai.cells 68 3 [.str la,wa,.int .i64 na] false)::st.h) p=AA st.h p:=fun p hp=>by rw[AL,if_neg (by omega)]
 have f1:AA ((st.c,Ai.cells 68 3 [.str la,wa,.int .i64 na] false)::st.h) st.c=some (.cells 68 3 [.str la,wa,.int .i64 na] false):=by rw[AL,if_pos rfl]
 have f2:=(hfr q hq).trans hf
 have e1:AP ((st.c,Ai.cells 68 3 [.str la,wa,.int .i64 na] false)::st.h) (.AO st.c 0)=some (.str la):=by rw[AB f1]; rfl
 have e2:AP ((st.c,Ai.cells 68 3 [.str la,wa,.int .i64 na] false)::st.h) (.AO st.c 1)=some wa:=by rw[AB f1]; rfl
 have e3:AP ((st.c,Ai.cells 68 3 [.str la,wa,.int .i64 na] false)::st.h) (.AO q 0)=some (.str lb):=by rw[AB f2]; rfl
 have e4:AP ((st.c,Ai.cells 68 3 [.str la,wa,.int .i64 na] false)::st.h) (.AO q 1)=some wb:=by rw[AB f2]; rfl
 have heq:=fun (c' l':Nat)=>JH (k:=k) (st:=⟨(st.c,.cells 68 3 [.str la,wa,.int .i64 na] false)::st.h,c',l'⟩) (r1 _ hfr) (r2 _ hfr) hra
 by_cases h:la=lb
 ·subst h
  simp[C.f141,Dr,AV.isTuple,AV.cells,Ac hb',KJ,e1,e2,e3,e4,heq,leave,results,AY]
 ·simp[C.f141,Dr,AV.isTuple,AV.cells,Ac hb',KJ,e1,e2,e3,e4,h,beq_false_of_ne h,leave,results,AY]
theorem Va {k n fc:Nat}{w:AV}{a b:List AV}{el:Nat->Aj}{p:Nat->Bool}{st:St}(hlen:Bq w=some n)(hn:n<1000000)(hat:∀i,i<n->∃q,Aa 1 w (.int .i64 (i:Int)) st=some (q,st)/\AP st.h q=some (.str (el i)))(hcall:∀i,i<n->AU E k fc (a++([.str (el i)]++b)) st=.ret (.bool (p i),st)) :
 ∃r:Int,AU E (k+1) 91 [w,.fn (.func fc) a b] st=.ret (.int .i64 r,st)/\-1<=r/\(0<=r↔∃i,i<n/\p i=true):=by
 have main:(Dj E (AU E k) C.f91 [w,.fn (.func fc) a b] st).to fun x=>∃r:Int,x=(.int .i64 r,st)/\-1<=r/\(0<=r↔∃i,i<n/\p i=true):=by
  rw[Ad (by simp)]
  simp[C.f91,BO,hlen]
  refine M.Al (DU (fun (i:Nat) ts st'=>st'=st/\i<=n/\ts.get 0=w/\ts.get 1=.fn (.func fc) a b/\ts.get 7=.int .i64 (n:Int)/\ts.get 8=.int .i64 (i:Int)/\∀j,j<i->p j=false)
   (fun i=>n-i) (fun e ts st'=>st'=st/\((e=.exit 0/\∀j,j<n->p j=false)∨(e=.ret/\∃i:Nat,i<n/\p i=true/\ts.get 4=.int .i64 (i:Int)))) ?step _ 0 _ _ ?_ ?_) ?_
  case step=>
   rintro i ts st' ⟨rfl,hi,h0,h1,h7,h8,hj⟩
   by_cases Au:i<n
   ·obtain⟨q,a1,b1⟩:=hat i Au
    have hc:=hcall i Au
    simp only[List.singleton_append] at hc
    cases hp:p i with
    |true=>
     rw[hp] at hc
     simp[C.f91L0,h0,h1,h7,h8,Au,a1,b1,hc]
     exact⟨i,Au,hp,rfl⟩
    |false=>
     rw[hp] at hc
     simp[C.f91L0,h0,h1,h7,h8,Au,a1,b1,hc,wi i]
     refine⟨i+1,by omega,by omega,by simp,fun j hji=>?_⟩
     by_cases e:j=i
     ·subst e; exact hp
     ·exact hj j (by omega)
   ·have:i=n:=by omega
    subst this
    simp[C.f91L0,h0,h1,h7,h8]
    exact hj
  ·show n-0<1000000; omega
  ·simp
  ·rintro⟨e,ts,st'⟩ ⟨rfl,h⟩
   rcases h with⟨rfl,h⟩|⟨rfl,i,hi,hp,h4⟩
   ·simp[leave,results,AY]
    intro i hi; simp[h i hi]
   ·simp[h4,leave,results,AY]
    exact⟨i,hi,hp⟩
 rw[Ap (fn:=C.f91) rfl rfl rfl]
 obtain⟨x,h1,r,rfl,h2⟩:=main
 exact⟨r,h1,h2⟩
theorem Hf {k n fc:Nat}{w:AV}{a b:List AV}{el:Nat->Aj}{p:Nat->Bool}{st:St}(hlen:Bq w=some n)(hn:n<1000000)(hat:∀i,i<n->∃q,Aa 1 w (.int .i64 (i:Int)) st=some (q,st)/\AP st.h q=some (.str (el i)))(hcall:∀i,i<n->AU E k fc (a++([.str (el i)]++b)) st=.ret (.bool (p i),st)) :
 AU E (k+2) 27 [w,.fn (.func fc) a b] st=.ret (.bool (decide (∃i,i<n/\p i=true)),st):=by
 obtain⟨r,h1,h2,h3⟩:=Va hlen hn hat hcall
 rw[Ap (fn:=C.f27) rfl rfl rfl,Ad (by simp)]
 have:decide (0<=r)=decide (∃i,i<n/\p i=true):=by simp only[h3]
 simp[C.f27,h1,leave,results,AY]
 simpa using this
theorem BI.Gi {v:AV}{l:List Aj}(h:BI v 1 (strs l))(c:Nat):v.Bw c=true:=by
 rcases h.out with⟨rfl,_⟩|⟨t,rfl⟩
 ·rfl
 ·exact Dq c _
theorem RZ {k:Nat}{g:AX}{kv:AV}{st:St}(hk:BI kv 1 (strs g.kinds))(hs:g.Small)(ts0:TS)(h0':ts0.get 0=kv)(h8:ts0.get 8=kv)(h9:ts0.get 9=.int .i64 (g.kinds.length:Int))(h10:ts0.get 10=.int .i64 ((0:Nat):Int)) :
 (CJ (Ar E (AU E (k+3)) C.f76L0) E.k ts0 st).to fun x=>x.2.2=st/\((x.1=.exit 0/\g.FR=0)∨(x.1=.ret/\g.FR≠0/\x.2.1.get 2=.int .i64 g.FR)):=by
 have hkn:=hs.kinds
 refine Be (fun (i:Nat) ts st'=>st'=st/\i<=g.kinds.length/\ts.get 0=kv/\ts.get 8=kv/\ts.get 9=.int .i64 (g.kinds.length:Int)/\ts.get 10=.int .i64 (i:Int)/\∀j,j<i->Ir g.kinds j=0)
  (fun i=>g.kinds.length-i) ?_ _ 0 _ _ ?_ ?_
 ·rintro i ts st' ⟨rfl,hi,h0',h8,h9,h10,hall⟩
  by_cases Au:i<g.kinds.length
  ·have hnm:=hs.names _ (List.getElem_mem Au)
   have hrun:=Sy (k:=k) (s:=g.kinds[i]) (st:=st') (by omega)
   have hget:g.kinds.getD i []=g.kinds[i]:=by simp[List.getD,Au]
   have bad:∀n,Ir g.kinds i=n->n≠0->g.FR=n:=fun n h hn=>by
    unfold AX.FR; rw[LG hall (by rw[h]; exact hn) Au,h]
   cases hn:KR g.kinds[i] with
   |false=>
    have hb:=bad 5 (by unfold Ir; rw[hget,hn]; simp) (by decide)
    simp[C.f76L0,h0',h8,h9,h10,Au,hk.JY Au,hrun,hn,hb]
   |true=>
    by_cases h0:i=0
    ·subst h0
     have hix0:Aa 1 kv (.int .i64 0) st'=some (.BC [.str g.kinds[0]],st'):=hk.JY (i:=0) Au
     have Mw:Ir g.kinds 0=0:=by unfold Ir; rw[hget,hn]; simp
     simp[C.f76L0,Az,Av,h0',h8,h9,h10,Au,hix0,hrun,hn,wrap64 (n:=(1:Int)) (by omega) (by omega)]
     exact⟨1,by omega,by omega,by simp,fun j hj=>by
      have:j=0:=by omega
      subst this; exact Mw⟩
    ·have hp:i-1<g.kinds.length:=by omega
     have hcast:((i:Int)-1)=((i-1:Nat):Int):=by omega
     have hpos:0<i:=by omega
     have hgp:g.kinds.getD (i-1) []=g.kinds[i-1]:=by simp[List.getD,hp]
     by_cases hless:g.kinds[i-1]<g.kinds[i]
     ·have Mw:Ir g.kinds i=0:=by unfold Ir; rw[hget,hgp,hn]; simp[hless]
      have h1:decide (g.kinds[i]<g.kinds[i-1])=false:=decide_eq_false (NR hless)
      have h2:(g.kinds[i]==g.kinds[i-1])=false:=beq_false_of_ne fun e=>Hm _ (e ▸ hless)
      simp[C.f76L0,Az,Av,h0',h8,h9,h10,Au,hk.JY Au,hrun,hn,hpos,wrap64 (n:=((i-1:Nat):Int)) (by omega) (by omega),hcast,hk.JY hp,Nf,h1,h2,wi i]
      refine⟨i+1,by omega,by omega,by simp,fun j hj=>?_⟩
      rcases Nat.lt_or_ge j i with h|h
      ·exact hall j h
      ·have:j=i:=by omega
       subst this; exact Mw
     ·have hb:=bad 7 (by unfold Ir; rw[hget,hgp,hn]; simp[hless]; omega) (by decide)
      have h1:(decide (g.kinds[i]<g.kinds[i-1])||(g.kinds[i]==g.kinds[i-1]))=true:=by
       by_cases e:g.kinds[i]=g.kinds[i-1]
       ·simp[e]
       ·have:=Iy hless (Ne.symm e)
        simp only[Bool.or_eq_true,decide_eq_true_eq]; exact .inl this
      simp only[← Nf] at h1
      have hle:bin .leq (.str g.kinds[i]) (.str g.kinds[i-1])=some (.bool true):=by rw[YU,h1]
      simp[C.f76L0,Az,Av,h0',h8,h9,h10,Au,hk.JY Au,hrun,hn,hpos,wrap64 (n:=((i-1:Nat):Int)) (by omega) (by omega),hcast,hk.JY hp,-YU,hle,hb]
  ·have:i=g.kinds.length:=by omega
   subst this
   have:g.FR=0:=IV hall
   simp[C.f76L0,h8,h9,h10,this]
 ·show g.kinds.length-0<1000000; omega
 ·exact⟨rfl,by omega,h0',h8,h9,h10,fun j h=>by omega⟩
theorem TR {k:Nat}{g:AX}{kv:AV}{st:St}(hk:BI kv 1 (strs g.kinds))(hs:g.Small):AU E (k+4) 76 [kv] st=.ret (.int .i64 g.FR,st):=by
 have hold:=hk.Gi 0
 have hkn:=hs.kinds
 rw[BZ (fn:=C.f76) rfl rfl rfl (by simp[AV.CL,hold]),Ad (by simp)]
 have goal:((Ar E (AU E (k+3)) C.f76.body (TS.CY [kv] 0 .nil) ⟨[],0,0⟩).bind (leave C.f76.results)).to fun r=>r.1=.int .i64 g.FR:=by
  have hlk:∀S':St,BO .slice kv S'=some (.int .i64 (g.kinds.length:Int),S'):=fun S'=>by have:=hk.len (st:=S'); simpa using this
  have hk60:¬(60:Int)<(g.kinds.length:Int):=by omega
  simp[C.f76,hlk,hk60]
  refine M.Al (RZ (k:=k) hk hs _ (by simp) (by simp) (by simp) (by simp)) fun x hx=>?_
  obtain⟨e,ts1,st1⟩:=x
  obtain⟨h,h'⟩:=hx
  simp only at h h'
  subst h
  rcases h' with⟨rfl,hf0⟩|⟨rfl,hf0,g2⟩
  ·simp[leave,results,AY,hf0]
  ·simp[leave,results,AY,g2]
 obtain⟨⟨v,st'⟩,h1,h2⟩:=goal
 simp only at h2
 subst h2
 rw[h1]
 simp
set_option maxHeartbeats 1000000 in
theorem UB {k:Nat}{v:AV}{g:AX}{st:St}(hg:BP v g)(hs:g.Small){i:Nat}(hi:i<g.rules.length):AU E (k+5) 77 [v,.int .i64 (i:Int)] st=.ret (.int .i64 (KU g i),st):=by
 have hold:=hg.Gi 0
 obtain⟨kv,rv,l,rfl,hk,hr,hrs⟩:=hg
 have hln:=hrs.length
 have hmany:=hs.many
 have hkn:=hs.kinds
 have hil:i<l.length:=by omega
 obtain⟨w,e1,e2⟩:=(hrs.get i hi).2
 have hsm:=hs.rules _ (List.getElem_mem hi)
 have hsr:=hsm.right
 rw[BZ (fn:=C.f77) rfl rfl rfl (by simp[AV.CL,hold]; rfl),Ad (by simp)]
 have hget:g.rules.getD i default=g.rules[i]:=by simp[List.getD,hi]
 have hbx:Dr 0 29 3 (.agg [kv,.str g.start,rv])=some (.AO 0 0,.cells 29 3 [kv,.str g.start,rv] false):=rfl
 obtain⟨rc,hrc⟩:∃rc:List AV,rc=[.str g.rules[i].left,w,.int .i64 g.rules[i].level]:=⟨_,rfl⟩
 obtain⟨h,hh⟩:∃h:Af,h=[(0,.cells 29 3 [kv,.str g.start,rv] false)]:=⟨_,rfl⟩
 have hn0:newObj 0 (.cells 29 3 [kv,.str g.start,rv] false) ⟨[],1,0⟩=some ⟨h,1,0⟩:=by rw[hh]; rfl
 obtain⟨h',hh'⟩:∃h':Af,h'=(1,Ai.cells 68 3 rc false)::h:=⟨_,rfl⟩
 have hb0:HB ⟨h,1,0⟩:=by
  intro p x hp
  rw[hh] at hp
  rcases List.mem_cons.1 hp with e|e
  ·cases e; exact Nat.zero_lt_one
  ·cases e
 have hbS:HB ⟨h',2,0⟩:=hh' ▸ HB.cons (h:=h) (c:=1) (lo:=0) hb0 (by omega) (by omega)
 have hf0:AA h 0=some (.cells 29 3 [kv,.str g.start,rv] false):=by rw[hh]; rfl
 have f0:AA h' 0=some (.cells 29 3 [kv,.str g.start,rv] false):=by rw[hh',AL,if_neg (by omega)]; exact hf0
 have fc:AA h' 1=some (.cells 68 3 rc false):=by rw[hh',AL,if_pos rfl]
 have hix:Aa 3 rv (.int .i64 (i:Int)) ⟨h,2,0⟩=some (.BC l[i].cells,⟨h,2,0⟩):=hr.idx hil
 have hcells:l[i].cells=rc:=by rw[e1,hrc]; rfl
 rw[hcells] at hix
 have hn:newObj 1 (.cells 68 3 [.str [],.AJ,.int .i64 0] false) ⟨h,2,0⟩=some ⟨(1,.cells 68 3 [.str [],.AJ,.int .i64 0] false)::h,2,0⟩:=Ac hb0
 have hst:=CO (h:=h) (c:=1) (c':=2) (lo:=0) (ty:=68) (n:=3) (zs:=[.str [],.AJ,.int .i64 0]) (vs:=rc) (by omega) (by rw[hrc]; rfl) rfl
 rw[← hh'] at hst
 have hrd3:AZ h (.BC rc) 3=some rc:=by rw[hrc]; rfl
 have rr:AP h (.AO 0 2)=some rv:=by rw[AB hf0]; rfl
 have r0:AP h' (.AO 0 2)=some rv:=by rw[AB f0]; rfl
 have rk:AP h' (.AO 0 0)=some kv:=by rw[AB f0]; rfl
 have rc0:AP h' (.AO 1 0)=some (.str g.rules[i].left):=by rw[AB fc,hrc]; rfl
 have rc1:AP h' (.AO 1 1)=some w:=by rw[AB fc,hrc]; rfl
 have rc2:AP h' (.AO 1 2)=some (.int .i64 g.rules[i].level):=by rw[AB fc,hrc]; rfl
 obtain⟨w2,c1,c2⟩:=hr.cut (st:=⟨h',2,0⟩) (i:=i) (by omega)
 have hln2:(l.take i).length=i:=by simp; omega
 have hcon:=Gp (k:=k+2) (n:=i) (fc:=141) (w:=w2) (a:=[]) (b:=[.AO 1 0]) (el:=fun j=>(l.getD j .undef).cells) (p:=fun j=>SG (g.rules.getD j default) g.rules[i]) (st:=⟨h',2,0⟩)
  (by rw[c2.QL,hln2]) (by omega) (fun j hj=>by
   have hjl:j<l.length:=by omega
   have hg:l.getD j .undef=l[j]:=by simp[List.getD,hjl]
   obtain⟨w',lv',e'⟩:=(hrs.get j (by omega)).2.iZ
   refine⟨.BC l[j].cells,?_,?_⟩
   ·have:=c2.idx (st:=⟨h',2,0⟩) (i:=j) (by omega)
    simpa using this
   ·rw[hg,e']; simp[AZ,AV.cells,ble_eq]) (fun j hj=>by
   have hjl:j<l.length:=by omega
   have hg:l.getD j .undef=l[j]:=by simp[List.getD,hjl]
   have hg2:g.rules.getD j default=g.rules[j]'(by omega):=by simp[List.getD,show j<g.rules.length by omega]
   obtain⟨w',e1',e2'⟩:=(hrs.get j (by omega)).2
   have hsm':=hs.rules _ (List.getElem_mem (show j<g.rules.length by omega))
   have hr30:=hsm'.right
   have:=VJ (k:=k) (la:=(g.rules[j]'(by omega)).left) (q:=1) (st:=⟨h',2,0⟩) (na:=(g.rules[j]'(by omega)).level) hbS (by show 1<2; omega) (hrc ▸ fc) (by omega) (fun _ _=>Reads.OI e2') (fun _ _=>Reads.OI e2)
   rw[hg,e1',hg2]
   exact this)
 have hname:=Sy (k:=k+1) (s:=g.rules[i].left) (st:=⟨h',2,0⟩) (by have:=hsm.left; omega)
 have hkind:=Ih (k:=k+2) (x:=g.rules[i].left) (st:=⟨h',2,0⟩) hk (by omega)
 have hin:=fA (k:=k+3) (x:=g.rules[i].level) (l:=0) (u:=99) (st:=⟨h',2,0⟩)
 have hlr:BO .slice w ⟨h',2,0⟩=some (.int .i64 (g.rules[i].right.length:Int),⟨h',2,0⟩):=by have:=e2.len (st:=⟨h',2,0⟩); simpa using this
 have hF:KU g i=bif !KR g.rules[i].left then 5 else bif decide (g.rules[i].left∈g.kinds) then 13 else bif decide (20<g.rules[i].right.length) then 2 else bif !decide (0<=g.rules[i].level/\g.rules[i].level<=99) then 1 else bif decide (∃j,j<i/\SG (g.rules.getD j default) g.rules[i]=true) then 6 else 0:=by
  unfold KU; rw[hget]
  simp only[cond_eq_ite,Bool.not_eq_true',decide_eq_true_eq,decide_eq_false_iff_not]
 have hb3:decide ((20:Int)<(g.rules[i].right.length:Int))=decide (20<g.rules[i].right.length):=by simp only[decide_eq_decide]; omega
 have hgt:bin .gtr (.int .i64 (g.rules[i].right.length:Int)) (.int .i64 20)=some (.bool (decide (20<g.rules[i].right.length))):=by rw[Rq,hb3]
 generalize KR g.rules[i].left=b1 at hF hname
 generalize decide (g.rules[i].left∈g.kinds)=b2 at hF hkind
 generalize decide (20<g.rules[i].right.length)=b3 at hF hgt
 generalize decide (0<=g.rules[i].level/\g.rules[i].level<=99)=b4 at hF hin
 generalize decide (∃j,j<i/\SG (g.rules.getD j default) g.rules[i]=true)=b5 at hF hcon
 rw[hF]
 simp[C.f77,hbx,hn0,rr,hix,-Aw,hrd3,hn,hst,r0,rk,c1,hcon,rc0,rc1,rc2,hname,hkind,hlr,-Rq,hgt,hin,M.Un]
 cases b1 <;> cases b2 <;> cases b3 <;> cases b4 <;> cases b5 <;> simp[leave,results,AY]
def DJ (h:Af)(o:Nat)(K:List Aj):Prop:=∃bs clock,AA h o=some (.map (strs K) (List.replicate K.length (.bool true)) bs clock)
theorem Hy (x:Aj):∀K:List Aj,(x∈K/\∃i,i<K.length/\FU (.one .str) (strs K) (.str x)=some (some i))∨(x∉K/\FU (.one .str) (strs K) (.str x)=some none)
 |[]=>.inr ⟨by simp,rfl⟩
 |y::K=>by
  have hk:jQ (.one .str) (.str x) (.str y)=some (x==y):=rfl
  by_cases e:x=y
  ·subst e
   refine .inl ⟨by simp,0,by simp,?_⟩
   show FU (.one .str) (.str x::strs K) (.str x)=_
   simp[FU,hk]
  ·have hne:(x==y)=false:=beq_false_of_ne e
   rcases Hy x K with⟨h1,i,h2,h3⟩|⟨h1,h2⟩
   ·refine .inl ⟨List.mem_cons_of_mem _ h1,i+1,by simp; omega,?_⟩
    show FU (.one .str) (.str y::strs K) (.str x)=_
    simp[FU,hk,hne,h3]
   ·refine .inr ⟨by simp[e,h1],?_⟩
    show FU (.one .str) (.str y::strs K) (.str x)=_
    simp[FU,hk,hne,h2]
theorem DJ.look {st:St}{o:Nat}{K:List Aj}(H:DJ st.h o K)(x:Aj):DR (.one .str) (.bool false) false (.Bv o) (.str x) st=some (.bool (decide (x∈K)),st):=by
 obtain⟨bs,clock,hf⟩:=H
 rcases Hy x K with⟨h1,i,h2,h3⟩|⟨h1,h2⟩
 ·simp[DR,hf,Ga,HV,h3,Gm,h1,List.getElem?_replicate,h2]
 ·simp[DR,hf,Ga,HV,h2,Gm,h1]
theorem DJ.put {st:St}{o:Nat}{K:List Aj}(H:DJ st.h o K)(hlo:st.lo<=o)(x:Aj) :
 ∃ob K',Cg (.one .str) (.Bv o) (.str x) (.bool true) st=some (.undef,{ st with h:=Ab st.h o ob })/\DJ (Ab st.h o ob) o K'/\(∀y,y∈K'↔y=x∨y∈K)/\∀p,p≠o->AA (Ab st.h o ob) p=AA st.h p:=by
 obtain⟨bs,clock,hf⟩:=H
 have hb:Nat.blt o st.lo=false:=by rw[blt_eq]; simp; omega
 rcases Hy x K with⟨h1,i,h2,h3⟩|⟨h1,h2⟩
 ·refine⟨_,K,by simp only[Cg,hb,HV,hf,h3,Bool.not_true,Bool.or_self,cond_false]; rfl,⟨bs,clock,?_⟩,fun y=>⟨.inr,fun h=>h.elim (fun e=>e ▸ h1) id⟩,fun p hp=>by rw[AR hf,if_neg (Ne.symm hp)]⟩
  rw[AR hf,if_pos rfl]; simp
 ·refine⟨_,K++[x],by simp only[Cg,hb,HV,hf,h2,Bool.not_true,Bool.or_self,cond_false]; rfl,⟨bs++[clock],clock+1,?_⟩,fun y=>by simp[or_comm],fun p hp=>by rw[AR hf,if_neg (Ne.symm hp)]⟩
  rw[AR hf,if_pos rfl]
  simp[strs,List.replicate_succ']
theorem DJ.frame {h h':Af}{o:Nat}{K:List Aj}(H:DJ h o K)(e:AA h' o=AA h o):DJ h' o K:=by
 obtain⟨bs,clock,hf⟩:=H
 exact⟨bs,clock,e.trans hf⟩
theorem HB.Ab {st:St}{o:Nat}{ob:Ai}(hb:HB st):HB { st with h:=Ab st.h o ob }:=by
 intro p x hp
 obtain⟨x',hx'⟩:=JW hp
 exact hb p x' hx'
structure CS (gs:List AV)(K:List Aj)(st:St):Prop where
 hb:HB st
 g0:AA st.h 0=some (.cells 29 3 gs false)
 m1:DJ st.h 1 K
 k2:AA st.h 2=some (.cells 88 1 [.Bv 1] false)
 lo:st.lo=0
 c2:2<st.c
theorem YM {n:Nat}{g:AX}{gs:List AV}{kv:AV}(hk:BI kv 1 (strs g.kinds))(hs:g.Small)(st:St)(H:CS gs [] st)(ts0:TS)(h1:ts0.get 1=.AO 0 0)(h4:ts0.get 4=.AO 2 0)(h31:ts0.get 31=kv)(h32:ts0.get 32=.int .i64 (g.kinds.length:Int))(h33:ts0.get 33=.int .i64 ((0:Nat):Int)) :
 (CJ (Ar E (AU E n) C.f19L0) E.k ts0 st).to fun x=>x.1=.exit 1/\x.2.1.get 1=.AO 0 0/\x.2.1.get 4=.AO 2 0/\x.2.2.c=st.c/\∃K,CS gs K x.2.2/\∀s,s∈K↔s∈g.kinds:=by
 have hkn:=hs.kinds
 refine Be (fun (i:Nat) ts st'=>i<=g.kinds.length/\ts.get 1=.AO 0 0/\ts.get 4=.AO 2 0/\ts.get 31=kv/\ts.get 32=.int .i64 (g.kinds.length:Int)/\ts.get 33=.int .i64 (i:Int)/\st'.c=st.c/\∃K,CS gs K st'/\∀s,s∈K↔s∈g.kinds.take i)
  (fun i=>g.kinds.length-i) ?_ _ 0 _ _ ?_ ?_
 ·rintro i ts st' ⟨hi,h1,h4,h31,h32,h33,hc,K,H,hK⟩
  by_cases Au:i<g.kinds.length
  ·have r2:AP st'.h (.AO 2 0)=some (.Bv 1):=by rw[AB H.k2]; rfl
   obtain⟨ob,K',p1,p2,p3,p4⟩:=H.m1.put (by rw[H.lo]; omega) g.kinds[i]
   simp[C.f19L0,h1,h4,h31,h32,h33,Au,hk.JY Au,r2,p1,wi i]
   refine⟨i+1,by omega,by omega,by simp,hc,K',⟨H.hb.Ab,(p4 0 (by omega)).trans H.g0,p2,(p4 2 (by omega)).trans H.k2,H.lo,H.c2⟩,fun s=>?_⟩
   rw[p3,hK,List.take_succ_eq_append_getElem Au,List.mem_append,List.mem_singleton,or_comm]
  ·have:i=g.kinds.length:=by omega
   subst this
   rw[List.take_length] at hK
   simp[C.f19L0,h1,h4,h31,h32,h33]
   exact⟨hc,K,H,hK⟩
 ·show g.kinds.length-0<1000000; omega
 ·exact⟨by omega,h1,h4,h31,h32,h33,rfl,[],H,by simp⟩
theorem Qu (g:AX)(i:Nat)(hi:i<g.rules.length)(s:Aj):(s=g.rules[i].left∨∃r∈g.rules.take i,r.left=s)↔∃r∈g.rules.take (i+1),r.left=s:=by
 rw[List.take_succ_eq_append_getElem hi]
 constructor
 ·rintro (rfl|⟨r,h1,h2⟩)
  ·exact⟨g.rules[i],List.mem_append.2 (.inr (by simp only[List.mem_singleton])),rfl⟩
  ·exact⟨r,List.mem_append.2 (.inl h1),h2⟩
 ·rintro⟨r,h1,h2⟩
  rcases List.mem_append.1 h1 with h|h
  ·exact .inr ⟨r,h,h2⟩
  ·simp only[List.mem_singleton] at h; subst h; exact .inl h2.symm
set_option maxHeartbeats 1000000 in
theorem YL {k:Nat}{g:AX}{kv rv:AV}{l:List AV}(hk:BI kv 1 (strs g.kinds))(hr:BI rv 3 l)(hrs:Bt l g.rules)(hs:g.Small)(st:St){K0:List Aj}(H:CS [kv,.str g.start,rv] K0 st)(hK0:∀s,s∈K0↔s∈g.kinds)(H3:DJ st.h 3 [])(hc3:3<st.c)(ts0:TS)(h1:ts0.get 1=.AO 0 0)(h4:ts0.get 4=.AO 2 0)(h7:ts0.get 7=.Bv 3)(h42:ts0.get 42=rv)(h43:ts0.get 43=.int .i64 (g.rules.length:Int))(h44:ts0.get 44=.int .i64 ((0:Nat):Int)) :
 (CJ (Ar E (AU E (k+5)) C.f19L1) E.k ts0 st).to fun x=>
  (x.1=.exit 3/\g.Gx=0/\x.2.1.get 1=.AO 0 0/\x.2.1.get 4=.AO 2 0/\x.2.1.get 7=.Bv 3/\3<x.2.2.c/\∃K L,CS [kv,.str g.start,rv] K x.2.2/\DJ x.2.2.h 3 L/\(∀s,s∈K↔g.sym s=true)/\∀s,s∈L↔g.isLeft s=true)∨(x.1=.ret/\g.Gx≠0/\x.2.1.get 2=.int .i64 g.Gx):=by
 have hln:=hrs.length
 have hmany:=hs.many
 have hG:BP (.agg [kv,.str g.start,rv]) g:=⟨kv,rv,l,rfl,hk,hr,hrs⟩
 refine Be (fun (i:Nat) ts st'=>i<=g.rules.length/\ts.get 1=.AO 0 0/\ts.get 4=.AO 2 0/\ts.get 7=.Bv 3/\ts.get 42=rv/\ts.get 43=.int .i64 (g.rules.length:Int)/\ts.get 44=.int .i64 (i:Int)/\3<st'.c/\(∀j,j<i->KU g j=0)/\∃K L,CS [kv,.str g.start,rv] K st'/\DJ st'.h 3 L/\(∀s,s∈K↔s∈g.kinds∨∃r∈g.rules.take i,r.left=s)/\∀s,s∈L↔∃r∈g.rules.take i,r.left=s)
  (fun i=>g.rules.length-i) ?_ _ 0 _ _ ?_ ?_
 ·rintro i ts st' ⟨hi,h1,h4,h7,h42,h43,h44,hc3,hall,K,L,H,H3,hK,hL⟩
  by_cases Au:i<g.rules.length
  ·have hil:i<l.length:=by omega
   obtain⟨w,e1,e2⟩:=(hrs.get i Au).2
   have bad:KU g i≠0->g.Gx=KU g i:=fun hn=>by unfold AX.Gx; rw[LG hall hn Au]
   obtain⟨h,c,lo⟩:=st'
   have hlo:lo=0:=H.lo
   subst hlo
   have hb':∀p x,(p,x)∈h->p<c:=H.hb
   have hc3':3<c:=hc3
   obtain⟨rc,hrc⟩:∃rc:List AV,rc=[.str g.rules[i].left,w,.int .i64 g.rules[i].level]:=⟨_,rfl⟩
   obtain⟨h',hh'⟩:∃h':Af,h'=(c,Ai.cells 68 3 rc false)::h:=⟨_,rfl⟩
   have hbS:HB ⟨h',c+1,0⟩:=hh' ▸ HB.cons (h:=h) (c:=c) (lo:=0) H.hb (by omega) (by omega)
   have fr:∀p,p<c->AA h' p=AA h p:=fun p hp=>by rw[hh',AL,if_neg (by omega)]
   have hix:Aa 3 rv (.int .i64 (i:Int)) ⟨h,c+1,0⟩=some (.BC l[i].cells,⟨h,c+1,0⟩):=hr.idx hil
   have hcells:l[i].cells=rc:=by rw[e1,hrc]; rfl
   rw[hcells] at hix
   have hn:newObj c (.cells 68 3 [.str [],.AJ,.int .i64 0] false) ⟨h,c+1,0⟩=some ⟨(c,.cells 68 3 [.str [],.AJ,.int .i64 0] false)::h,c+1,0⟩:=Ac hb'
   have hst:=CO (h:=h) (c:=c) (c':=c+1) (lo:=0) (ty:=68) (n:=3) (zs:=[.str [],.AJ,.int .i64 0]) (vs:=rc) (by omega) (by rw[hrc]; rfl) rfl
   rw[← hh'] at hst
   have hrd3:AZ h (.BC rc) 3=some rc:=by rw[hrc]; rfl
   have fc:AA h' c=some (.cells 68 3 rc false):=by rw[hh',AL,if_pos rfl]
   have f0:AA h' 0=some (.cells 29 3 [kv,.str g.start,rv] false):=(fr 0 (by omega)).trans H.g0
   have rg:AZ h' (.AO 0 0) 3=some [kv,.str g.start,rv]:=Ae f0 rfl
   have rc0:AP h' (.AO c 0)=some (.str g.rules[i].left):=by rw[AB fc,hrc]; rfl
   have r2:AP h' (.AO 2 0)=some (.Bv 1):=by rw[AB ((fr 2 (by omega)).trans H.k2)]; rfl
   have M1:DJ (St.mk h' (c+1) 0).h 1 K:=H.m1.frame (fr 1 (by omega))
   obtain⟨ob,K',p1,p2,p3,p4⟩:=M1.put (st:=⟨h',c+1,0⟩) (by show 0<=1; omega) g.rules[i].left
   simp only at p1 p2 p4
   have rc0':AP (Ab h' 1 ob) (.AO c 0)=some (.str g.rules[i].left):=by rw[AB ((p4 c (by omega)).trans fc),hrc]; rfl
   have M3:DJ (St.mk (Ab h' 1 ob) (c+1) 0).h 3 L:=H3.frame ((p4 3 (by omega)).trans (fr 3 hc3'))
   obtain⟨ob2,L',q1,q2,q3,q4⟩:=M3.put (st:=⟨Ab h' 1 ob,c+1,0⟩) (by show 0<=3; omega) g.rules[i].left
   simp only at q1 q2 q4
   have hrule:=UB (k:=k) (st:=⟨h',c+1,0⟩) hG hs Au
   by_cases hz:KU g i=0
   ·rw[hz] at hrule
    simp[C.f19L1,h1,h4,h7,h42,h43,h44,Au,hix,-Aw,hrd3,hn,hst,rg,hrule,De,Dx,Cf,CV,Cv,beq_eq,AV.Cx,r2,rc0,p1,rc0',q1,wi i]
    refine⟨i+1,by omega,by omega,by simp,by omega,fun j hj=>?_,K',⟨HB.Ab (st:=⟨Ab h' 1 ob,c+1,0⟩) (HB.Ab (st:=⟨h',c+1,0⟩) hbS),?_,p2.frame (q4 1 (by omega)),?_,rfl,by show 2<c+1; omega⟩,L',q2,fun s=>?_,fun s=>?_⟩
    ·rcases Nat.lt_or_ge j i with h|h
     ·exact hall j h
     ·have:j=i:=by omega
      subst this; exact hz
    ·exact (q4 0 (by omega)).trans ((p4 0 (by omega)).trans f0)
    ·exact (q4 2 (by omega)).trans ((p4 2 (by omega)).trans ((fr 2 (by omega)).trans H.k2))
    ·rw[p3,hK,← Qu g i Au s]
     constructor
     ·rintro (h|h|h)
      ·exact .inr (.inl h)
      ·exact .inl h
      ·exact .inr (.inr h)
     ·rintro (h|h|h)
      ·exact .inr (.inl h)
      ·exact .inl h
      ·exact .inr (.inr h)
    ·rw[q3,hL,← Qu g i Au s]
   ·have hne:(KU g i != 0)=true:=by simpa using hz
    simp[C.f19L1,h1,h4,h7,h42,h43,h44,Au,hix,-Aw,hrd3,hn,hst,rg,hrule,hne,hz,bad hz]
  ·have:i=g.rules.length:=by omega
   subst this
   have hzero:g.Gx=0:=IV hall
   rw[List.take_length] at hK hL
   have hleft:∀s,(∃r∈g.rules,r.left=s)↔g.isLeft s=true:=fun s=>by unfold AX.isLeft; simp
   simp[C.f19L1,h1,h4,h7,h42,h43,h44,hzero]
   exact⟨hc3,K,H,L,H3,fun s=>by rw[hK,hleft]; unfold AX.sym; simp,fun s=>by rw[hL,hleft]⟩
 ·show g.rules.length-0<1000000; omega
 ·exact⟨by omega,h1,h4,h7,h42,h43,h44,hc3,fun j h=>by omega,K0,[],H,H3,by simpa using hK0,by simp⟩
theorem mH {k:Nat}{K:List Aj}{x:Aj}{st:St}(h2:AA st.h 2=some (.cells 88 1 [.Bv 1] false))(h1:DJ st.h 1 K) :
 AU E (k+1) 78 [.str x,.AO 2 0] st=.ret (.bool (!decide (x∈K)),st):=by
 rw[BS (fn:=C.f78) rfl rfl rfl,Ad (by simp)]
 have r2:AP st.h (.AO 2 0)=some (.Bv 1):=by rw[AB h2]; rfl
 have hl:=DJ.look (st:=⟨st.h,st.c,st.c⟩) h1 x
 simp[C.f78,r2,hl,leave,results,AY]
theorem WT {k:Nat}{K:List Aj}{w:AV}{r:List Aj}{st:St}(hw:BI w 1 (strs r))(hrl:r.length<=1000)(h2:AA st.h 2=some (.cells 88 1 [.Bv 1] false))(h1:DJ st.h 1 K) :
 AU E (k+3) 27 [w,.fn (.func 78) [] [.AO 2 0]] st=.ret (.bool (!r.all fun s=>decide (s∈K)),st):=by
 have hc:=Hf (k:=k+1) (n:=r.length) (fc:=78) (w:=w) (a:=[]) (b:=[.AO 2 0]) (el:=fun j=>r.getD j []) (p:=fun j=>!decide (r.getD j []∈K)) (st:=st)
  (by rw[hw.QL]; simp) (by omega) (fun i hi=>⟨_,hw.JY hi,by simp[List.getD,hi]⟩) (fun i hi=>mH h2 h1)
 have e:decide (∃i,i<r.length/\(!decide (r.getD i []∈K))=true)=!r.all fun s=>decide (s∈K):=by
  rw[Bool.eq_iff_iff]
  simp only[decide_eq_true_eq,Bool.not_eq_true',List.all_eq_false,decide_eq_false_iff_not]
  constructor
  ·rintro⟨i,hi,h⟩
   refine⟨r[i],List.getElem_mem hi,?_⟩
   simpa [List.getD,hi] using h
  ·rintro⟨s,hs,h⟩
   obtain⟨i,hi,rfl⟩:=List.getElem_of_mem hs
   exact⟨i,hi,by simpa [List.getD,hi] using h⟩
 rw[hc,e]
set_option maxHeartbeats 1000000 in
theorem YK {k:Nat}{g:AX}{kv rv:AV}{l:List AV}(hr:BI rv 3 l)(hrs:Bt l g.rules)(hs:g.Small)(st:St){K L:List Aj}(H:CS [kv,.str g.start,rv] K st)(hK:∀s,s∈K↔g.sym s=true)(H3:DJ st.h 3 L)(hc3:3<st.c)(ts0:TS)(h1:ts0.get 1=.AO 0 0)(h4:ts0.get 4=.AO 2 0)(h7:ts0.get 7=.Bv 3)(h63:ts0.get 63=rv)(h64:ts0.get 64=.int .i64 (g.rules.length:Int))(h65:ts0.get 65=.int .i64 ((0:Nat):Int)) :
 (CJ (Ar E (AU E (k+3)) C.f19L2) E.k ts0 st).to fun x=>
  (x.1=.exit 5/\g.Jq=true/\x.2.1.get 1=.AO 0 0/\x.2.1.get 7=.Bv 3/\CS [kv,.str g.start,rv] K x.2.2/\DJ x.2.2.h 3 L)∨(x.1=.ret/\g.Jq=false/\x.2.1.get 2=.int .i64 8):=by
 have hln:=hrs.length
 have hmany:=hs.many
 have hfun:(fun s=>decide (s∈K))=g.sym:=by
  funext s; rw[Bool.eq_iff_iff,decide_eq_true_eq]; exact hK s
 refine Be (fun (i:Nat) ts st'=>i<=g.rules.length/\ts.get 1=.AO 0 0/\ts.get 4=.AO 2 0/\ts.get 7=.Bv 3/\ts.get 63=rv/\ts.get 64=.int .i64 (g.rules.length:Int)/\ts.get 65=.int .i64 (i:Int)/\3<st'.c/\(∀j (hj:j<g.rules.length),j<i->g.rules[j].right.all g.sym=true)/\CS [kv,.str g.start,rv] K st'/\DJ st'.h 3 L)
  (fun i=>g.rules.length-i) ?_ _ 0 _ _ ?_ ?_
 ·rintro i ts st' ⟨hi,h1,h4,h7,h63,h64,h65,hc3,hall,H,H3⟩
  by_cases Au:i<g.rules.length
  ·have hil:i<l.length:=by omega
   obtain⟨w,e1,e2⟩:=(hrs.get i Au).2
   have hsm:=hs.rules _ (List.getElem_mem Au)
   have hsr:=hsm.right
   obtain⟨h,c,lo⟩:=st'
   have hlo:lo=0:=H.lo
   subst hlo
   have hb':∀p x,(p,x)∈h->p<c:=H.hb
   have hc3':3<c:=hc3
   obtain⟨rc,hrc⟩:∃rc:List AV,rc=[.str g.rules[i].left,w,.int .i64 g.rules[i].level]:=⟨_,rfl⟩
   obtain⟨h',hh'⟩:∃h':Af,h'=(c,Ai.cells 68 3 rc false)::h:=⟨_,rfl⟩
   have hbS:HB ⟨h',c+1,0⟩:=hh' ▸ HB.cons (h:=h) (c:=c) (lo:=0) H.hb (by omega) (by omega)
   have fr:∀p,p<c->AA h' p=AA h p:=fun p hp=>by rw[hh',AL,if_neg (by omega)]
   have hix:Aa 3 rv (.int .i64 (i:Int)) ⟨h,c+1,0⟩=some (.BC l[i].cells,⟨h,c+1,0⟩):=hr.idx hil
   have hcells:l[i].cells=rc:=by rw[e1,hrc]; rfl
   rw[hcells] at hix
   have hn:newObj c (.cells 68 3 [.str [],.AJ,.int .i64 0] false) ⟨h,c+1,0⟩=some ⟨(c,.cells 68 3 [.str [],.AJ,.int .i64 0] false)::h,c+1,0⟩:=Ac hb'
   have hst:=CO (h:=h) (c:=c) (c':=c+1) (lo:=0) (ty:=68) (n:=3) (zs:=[.str [],.AJ,.int .i64 0]) (vs:=rc) (by omega) (by rw[hrc]; rfl) rfl
   rw[← hh'] at hst
   have hrd3:AZ h (.BC rc) 3=some rc:=by rw[hrc]; rfl
   have fc:AA h' c=some (.cells 68 3 rc false):=by rw[hh',AL,if_pos rfl]
   have rc1:AP h' (.AO c 1)=some w:=by rw[AB fc,hrc]; rfl
   have M1:DJ (St.mk h' (c+1) 0).h 1 K:=H.m1.frame (fr 1 (by omega))
   have HC:CS [kv,.str g.start,rv] K ⟨h',c+1,0⟩:=⟨hbS,(fr 0 (by omega)).trans H.g0,M1,(fr 2 (by omega)).trans H.k2,rfl,by show 2<c+1; omega⟩
   have hu:=WT (k:=k) (st:=⟨h',c+1,0⟩) e2 (by omega) HC.k2 HC.m1
   rw[hfun] at hu
   have H3':DJ h' 3 L:=H3.frame (fr 3 hc3')
   cases ha:g.rules[i].right.all g.sym with
   |true=>
    rw[ha] at hu
    simp[C.f19L2,h1,h4,h7,h63,h64,h65,Au,hix,-Aw,hrd3,hn,hst,rc1,hu,wi i]
    refine⟨i+1,by omega,by omega,by simp,by omega,fun j hj hji=>?_,HC,H3'⟩
    rcases Nat.lt_or_ge j i with h|h
    ·simpa using hall j hj h
    ·have:j=i:=by omega
     subst this; simpa using ha
   |false=>
    rw[ha] at hu
    have hno:g.Jq=false:=by unfold AX.Jq; rw[List.all_eq_false]; exact⟨_,List.getElem_mem Au,by simp only[ha]; decide⟩
    simp[C.f19L2,h1,h4,h7,h63,h64,h65,Au,hix,-Aw,hrd3,hn,hst,rc1,hu,hno]
  ·have:i=g.rules.length:=by omega
   subst this
   have hyes:g.Jq=true:=by
    unfold AX.Jq; rw[List.all_eq_true]; intro x hx
    obtain⟨j,hj,rfl⟩:=List.getElem_of_mem hx
    exact hall j hj hj
   simp[C.f19L2,h1,h4,h7,h64,h65,hyes,H,H3]
 ·show g.rules.length-0<1000000; omega
 ·exact⟨by omega,h1,h4,h7,h63,h64,h65,hc3,fun j _ h=>by omega,H,H3⟩
set_option maxHeartbeats 1000000 in
theorem QW {k:Nat}{v:AV}{g:AX}{st:St}(hg:BP v g)(hs:g.Small):AU E (k+6) 19 [v] st=.ret (.int .i64 g.fault,st):=by
 have hold:=hg.Gi 0
 obtain⟨kv,rv,l,rfl,hk,hr,hrs⟩:=hg
 have hG:BP (.agg [kv,.str g.start,rv]) g:=⟨kv,rv,l,rfl,hk,hr,hrs⟩
 have hln:=hrs.length
 have hmany:=hs.many
 have hkn:=hs.kinds
 rw[BZ (fn:=C.f19) rfl rfl rfl (by simp[AV.CL,hold]),Ad (by simp)]
 have goal:((Ar E (AU E (k+5)) C.f19.body (TS.CY [.agg [kv,.str g.start,rv]] 0 .nil) ⟨[],0,0⟩).bind (leave C.f19.results)).to fun r=>r.1=.int .i64 g.fault:=by
  have hbx:Dr 0 29 3 (.agg [kv,.str g.start,rv])=some (.AO 0 0,.cells 29 3 [kv,.str g.start,rv] false):=rfl
  obtain⟨h0,hh0⟩:∃h:Af,h=[(0,.cells 29 3 [kv,.str g.start,rv] false)]:=⟨_,rfl⟩
  have hn:newObj 0 (.cells 29 3 [kv,.str g.start,rv] false) ⟨[],1,0⟩=some ⟨h0,1,0⟩:=by rw[hh0]; rfl
  have f0:AA h0 0=some (.cells 29 3 [kv,.str g.start,rv] false):=by rw[hh0]; rfl
  have hb0:HB ⟨h0,1,0⟩:=by
   intro p x hp
   rw[hh0] at hp
   rcases List.mem_cons.1 hp with e|e
   ·cases e; exact Nat.zero_lt_one
   ·cases e
  have rk:∀{h:Af},AA h 0=some (.cells 29 3 [kv,.str g.start,rv] false)->AP h (.AO 0 0)=some kv:=fun H=>by rw[AB H]; rfl
  have r1:∀{h:Af},AA h 0=some (.cells 29 3 [kv,.str g.start,rv] false)->AP h (.AO 0 1)=some (.str g.start):=fun H=>by rw[AB H]; rfl
  have r2:∀{h:Af},AA h 0=some (.cells 29 3 [kv,.str g.start,rv] false)->AP h (.AO 0 2)=some rv:=fun H=>by rw[AB H]; rfl
  have hlk:∀S':St,BO .slice kv S'=some (.int .i64 (g.kinds.length:Int),S'):=fun S'=>by have:=hk.len (st:=S'); simpa using this
  have hlr:∀S':St,BO .slice rv S'=some (.int .i64 (g.rules.length:Int),S'):=fun S'=>by have:=hr.len (st:=S'); rw[this,hln]
  have hr100:¬(100:Int)<(g.rules.length:Int):=by omega
  have hck:=TR (k:=k+1) (st:=⟨h0,1,0⟩) hk hs
  by_cases hf0:g.FR=0
  ·rw[hf0] at hck
   by_cases hz:g.rules.length=0
   ·have hfault:g.fault=8:=by unfold AX.fault; rw[if_neg (by simp[hf0]),if_pos hz]
    simp[C.f19,hbx,hn,rk f0,hck,r2 f0,hlr,hz,leave,results,AY,hfault]
   ·have hz':((g.rules.length:Int)==0)=false:=by simp only[beq_eq_false_iff_ne,ne_eq]; omega
    obtain⟨h1,hh1⟩:∃h:Af,h=(2,Ai.cells 88 1 [.Bv 1] false)::(1,.map [] [] [] 0)::h0:=⟨_,rfl⟩
    have n1:newObj 1 (.map [] [] [] 0) ⟨h0,3,0⟩=some ⟨(1,.map [] [] [] 0)::h0,3,0⟩:=Ac hb0
    have hb1:HB ⟨(1,.map [] [] [] 0)::h0,2,0⟩:=HB.cons (h:=h0) (c:=1) (lo:=0) hb0 (by omega) (by omega)
    have n2:newObj 2 (.cells 88 1 [.Dl] false) ⟨(1,.map [] [] [] 0)::h0,3,0⟩=some ⟨(2,.cells 88 1 [.Dl] false)::(1,.map [] [] [] 0)::h0,3,0⟩:=Ac hb1
    have s2:Bc 1 (.AO 2 0) (.Bv 1) ⟨(2,.cells 88 1 [.Dl] false)::(1,.map [] [] [] 0)::h0,3,0⟩=some (.undef,⟨h1,3,0⟩):=by
     rw[hh1]
     simp[Bc,AV.isTuple,AV.cells,beq_eq,Bl,blt_eq,AL,ble_eq,BM,Ab]
    have CS0:CS [kv,.str g.start,rv] [] ⟨h1,3,0⟩:=by
     subst hh1
     refine⟨HB.cons (h:=(1,.map [] [] [] 0)::h0) (c:=2) (lo:=0) hb1 (by omega) (by omega),?_,⟨[],0,?_⟩,?_,rfl,by show 2<3; omega⟩
     ·simp[AL,f0]
     ·simp[AL,strs]
     ·simp[AL]
    simp[C.f19,hbx,hn,rk f0,hck,r2 f0,hlr,hz',hr100,n1,n2,s2,rk CS0.g0,hlk]
    refine M.Al (YM hk hs _ CS0 _ (by simp) (by simp) (by simp) (by simp) (by simp)) fun x hx=>?_
    obtain⟨e,ts1,st1⟩:=x
    obtain⟨h,g1,g4,hc,K,H1,hK⟩:=hx
    simp only at h g1 g4 hc H1
    subst h
    obtain⟨h2,c2,lo2⟩:=st1
    have hlo2:lo2=0:=H1.lo
    subst hlo2
    simp only at hc
    subst hc
    have n3:newObj 3 (.map [] [] [] 0) ⟨h2,4,0⟩=some ⟨(3,.map [] [] [] 0)::h2,4,0⟩:=Ac H1.hb
    obtain⟨h3,hh3⟩:∃h:Af,h=(3,Ai.map [] [] [] 0)::h2:=⟨_,rfl⟩
    rw[← hh3] at n3
    have fr:∀p,p<3->AA h3 p=AA h2 p:=fun p hp=>by rw[hh3,AL,if_neg (by omega)]
    have CS1:CS [kv,.str g.start,rv] K ⟨h3,4,0⟩:=by
     refine⟨hh3 ▸ HB.cons (h:=h2) (c:=3) (lo:=0) H1.hb (by omega) (by omega),(fr 0 (by omega)).trans H1.g0,H1.m1.frame (fr 1 (by omega)),(fr 2 (by omega)).trans H1.k2,rfl,by show 2<4; omega⟩
    have M3:DJ h3 3 []:=⟨[],0,by rw[hh3,AL,if_pos rfl]; rfl⟩
    simp[g1,g4,n3,r2 CS1.g0,hlr]
    refine M.Al (YL (k:=k) hk hr hrs hs _ CS1 hK M3 (by show 3<4; omega) _ (by simp[g1]) (by simp[g4]) (by simp) (by simp) (by simp) (by simp)) fun x hx=>?_
    obtain⟨e,ts2,st2⟩:=x
    rcases hx with⟨h,hf1,g1',g4',g7',hc3,K2,L2,H2,M3',hK2,hL2⟩|⟨h,hf1,g2'⟩
    ·simp only at h hf1 g1' g4' g7' hc3 H2 M3'
     subst h
     simp[g1',g4',g7',r2 H2.g0,hlr]
     refine M.Al (YK (k:=k+2) hr hrs hs _ H2 hK2 M3' hc3 _ (by simp[g1']) (by simp[g4']) (by simp[g7']) (by simp) (by simp) (by simp)) fun x hx=>?_
     obtain⟨e,ts3,st3⟩:=x
     rcases hx with⟨h,hf2,g1'',g7'',H3,M3''⟩|⟨h,hf2,g2''⟩
     ·simp only at h hf2 g1'' g7'' H3 M3''
      subst h
      have hl:=M3''.look (st:=st3) g.start
      have hd:decide (g.start∈L2)=g.isLeft g.start:=by rw[Bool.eq_iff_iff,decide_eq_true_eq]; exact hL2 _
      rw[hd] at hl
      cases hst:g.isLeft g.start with
      |true=>
       rw[hst] at hl
       have hfault:g.fault=0:=by unfold AX.fault; rw[if_neg (by simp[hf0]),if_neg hz,if_neg (by simp[hf1]),if_neg (by simp[hf2]),if_neg (by simp[hst])]
       simp[g1'',g7'',r1 H3.g0,hl,leave,results,AY,hfault]
      |false=>
       rw[hst] at hl
       have hfault:g.fault=8:=by unfold AX.fault; rw[if_neg (by simp[hf0]),if_neg hz,if_neg (by simp[hf1]),if_neg (by simp[hf2]),if_pos hst]
       simp[g1'',g7'',r1 H3.g0,hl,leave,results,AY,hfault]
     ·simp only at h hf2 g2''
      subst h
      have hfault:g.fault=8:=by unfold AX.fault; rw[if_neg (by simp[hf0]),if_neg hz,if_neg (by simp[hf1]),if_pos hf2]
      simp[g2'',leave,results,AY,hfault]
    ·simp only at h hf1 g2'
     subst h
     have hfault:g.fault=g.Gx:=by unfold AX.fault; rw[if_neg (by simp[hf0]),if_neg hz,if_pos hf1]
     simp[g2',leave,results,AY,hfault]
  ·have hfault:g.fault=g.FR:=by unfold AX.fault; rw[if_pos hf0]
   have hne:(g.FR != 0)=true:=by simpa using hf0
   simp[C.f19,hbx,hn,rk f0,hck,hne,hf0,leave,results,AY,hfault]
 obtain⟨⟨v,st'⟩,h1,h2⟩:=goal
 simp only at h2
 subst h2
 rw[h1]
 simp
end Go.Am
