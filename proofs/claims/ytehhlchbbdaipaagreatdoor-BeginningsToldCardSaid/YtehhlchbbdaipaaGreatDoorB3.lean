/- A part of the proof of beginningsTold (merged by a program). -/
import Derived.Test.YtehhlchbbdaipaaGreatDoorB2
namespace Go.Am
open Go
def rE (g:AX)(O K l:List Aj)(n:Nat):Prop:=∀a x b,l=a++x::b->a.length<n->(∀y∈a,Im g y)->(x∈g.kinds->x∈K)/\(x∉g.kinds->x∈O)
theorem rE.mono {g:AX}{O K O' K' l:List Aj}{n:Nat}(h:rE g O K l n)(hO:∀s∈O,s∈O')(hK:∀s∈K,s∈K'):rE g O' K' l n:=
 fun a x b e hn ha=>⟨fun h1=>hK _ ((h a x b e hn ha).1 h1),fun h1=>hO _ ((h a x b e hn ha).2 h1)⟩
structure LX (g:AX)(O K l:List Aj)(n:Nat)(O' K':List Aj):Prop where
 o:∀s∈O,s∈O'
 k:∀s∈K,s∈K'
 sound:∀s∈K',s∈K∨MK g s l
 rF:rE g O' K' l n
 new:∀s∈O',s∉O->∀r∈g.rules,r.left=s->rE g O' K' r.right r.right.length
theorem LX.start {g:AX}{O K l:List Aj}:LX g O K l 0 O K:=⟨fun _ h=>h,fun _ h=>h,fun _ h=>.inl h,fun a x b _ h=>by omega,fun s h h'=>absurd h h'⟩
theorem JO {l a b:List Aj}{x:Aj}(e:l=a++x::b)(h:a.length<l.length):l[a.length]=x:=by subst e; simp
theorem LX.kind {g:AX}(hok:g.Ok){O K l O' K' K2:List Aj}{i:Nat}(W:LX g O K l i O' K')(hp:∀y∈l.take i,Im g y)(hi:i<l.length)(hk:l[i]∈g.kinds)(h2:∀y,y∈K2↔y=l[i]∨y∈K'):LX g O K l l.length O' K2:=by
 have hK:∀s∈K',s∈K2:=fun s h=>(h2 s).2 (.inr h)
 refine⟨W.o,fun s h=>hK s (W.k s h),fun s h=>?_,fun a x b e hn ha=>?_,fun s h h' r hr e=>(W.new s h h' r hr e).mono (fun _ h=>h) hK⟩
 ·rcases (h2 s).1 h with e|h
  ·refine .inr ⟨l.take i,l[i],l.drop (i+1),?_,hp,?_⟩
   ·rw[← List.drop_eq_getElem_cons hi,List.take_append_drop]
   ·rw[e]; exact .kind hk
  ·exact W.sound s h
 ·rcases Nat.lt_trichotomy a.length i with h|h|h
  ·exact⟨fun q=>hK _ ((W.rF a x b e h ha).1 q),(W.rF a x b e h ha).2⟩
  ·subst h
   have hx:=JO e hi
   exact⟨fun _=>(h2 x).2 (.inl hx.symm),fun q=>absurd (hx ▸ hk) q⟩
  ·have hm:l[i]∈a:=by
    have:l[i]=a[i]:=by subst e; simp[List.getElem_append_left h]
    rw[this]; exact List.getElem_mem h
   exact absurd (dw (ha _ hm)) (hok.apart _ hk)
theorem LX.seen {g:AX}{O K l O' K':List Aj}{i:Nat}(W:LX g O K l i O' K')(hi:i<l.length)(hk:l[i]∉g.kinds)(ho:l[i]∈O'):LX g O K l (i+1) O' K':=by
 refine⟨W.o,W.k,W.sound,fun a x b e hn ha=>?_,W.new⟩
 rcases Nat.lt_or_ge a.length i with h|h
 ·exact W.rF a x b e h ha
 ·have:a.length=i:=by omega
  subst this
  have hx:=JO e hi
  exact⟨fun q=>absurd (hx ▸ q) hk,fun _=>hx ▸ ho⟩
structure KM (g:AX)(O K:List Aj)(s:Aj)(j:Nat)(O' K':List Aj):Prop where
 o:∀t∈O,t∈O'
 self:s∈O'
 k:∀t∈K,t∈K'
 sound:∀t∈K',t∈K∨Yv g t s
 done:∀q (hq:q<g.rules.length),q<j->g.rules[q].left=s->rE g O' K' g.rules[q].right g.rules[q].right.length
 new:∀t∈O',t∉O->t≠s->∀r∈g.rules,r.left=t->rE g O' K' r.right r.right.length
theorem KM.start {g:AX}{O K:List Aj}{s:Aj}:KM g O K s 0 (O++[s]) K:=
 ⟨fun t h=>List.mem_append.2 (.inl h),by simp,fun _ h=>h,fun _ h=>.inl h,fun q hq h=>by omega,fun t h h1 h2=>by
  rcases List.mem_append.1 h with h|h
  ·exact absurd h h1
  ·exact absurd (by simpa using h) h2⟩
theorem KM.skip {g:AX}{O K O' K':List Aj}{s:Aj}{j:Nat}(H:KM g O K s j O' K')(hj:j<g.rules.length)(hne:g.rules[j].left≠s):KM g O K s (j+1) O' K':=
 ⟨H.o,H.self,H.k,H.sound,fun q hq h e=>by
  rcases Nat.lt_or_ge q j with h'|h'
  ·exact H.done q hq h' e
  ·have:q=j:=by omega
   subst this; exact absurd e hne,H.new⟩
theorem KM.more {g:AX}{O K O' K' O2 K2:List Aj}{s:Aj}{j:Nat}(H:KM g O K s j O' K')(hj:j<g.rules.length)(he:g.rules[j].left=s)(W:LX g O' K' g.rules[j].right g.rules[j].right.length O2 K2):KM g O K s (j+1) O2 K2 where
 o:=fun t h=>W.o t (H.o t h)
 self:=W.o s H.self
 k:=fun t h=>W.k t (H.k t h)
 sound:=fun t h=>by
  rcases W.sound t h with h|h
  ·exact H.sound t h
  ·exact .inr (he ▸ Yv.xG (List.getElem_mem hj) h)
 done:=fun q hq h e=>by
  rcases Nat.lt_or_ge q j with h'|h'
  ·exact (H.done q hq h' e).mono W.o W.k
  ·have:q=j:=by omega
   subst this; exact W.rF
 new:=fun t h h1 h2 r hr e=>by
  by_cases h3:t∈O'
  ·exact (H.new t h3 h1 h2 r hr e).mono W.o W.k
  ·exact W.new t h h3 r hr e
theorem LX.opened {g:AX}{O K l O' K' O2 K2:List Aj}{i:Nat}(W:LX g O K l i O' K')(hp:∀y∈l.take i,Im g y)(hi:i<l.length)(hk:l[i]∉g.kinds)(H:KM g O' K' l[i] g.rules.length O2 K2):LX g O K l (i+1) O2 K2:=by
 have hB:∀t,Yv g t l[i]->MK g t l:=fun t h=>⟨l.take i,l[i],l.drop (i+1),by rw[← List.drop_eq_getElem_cons hi,List.take_append_drop],hp,h⟩
 refine⟨fun t h=>H.o t (W.o t h),fun t h=>H.k t (W.k t h),fun t h=>?_,fun a x b e hn ha=>?_,fun t h h1 r hr e=>?_⟩
 ·rcases H.sound t h with h|h
  ·exact W.sound t h
  ·exact .inr (hB t h)
 ·rcases Nat.lt_or_ge a.length i with h|h
  ·exact (W.rF.mono H.o H.k) a x b e h ha
  ·have:a.length=i:=by omega
   subst this
   have hx:=JO e hi
   exact⟨fun q=>absurd (hx ▸ q) hk,fun _=>hx ▸ H.self⟩
 ·by_cases h2:t=l[i]
  ·obtain⟨q,hq,rfl⟩:=List.getElem_of_mem hr
   exact H.done q hq hq (e.trans h2)
  ·by_cases h3:t∈O'
   ·exact (W.new t h3 h1 r hr e).mono H.o H.k
   ·exact H.new t h h3 h2 r hr e
theorem LX.stop {g:AX}{O K l O' K':List Aj}{i:Nat}(W:LX g O K l (i+1) O' K')(hi:i<l.length)(hn:¬Im g l[i]):LX g O K l l.length O' K':=by
 refine⟨W.o,W.k,W.sound,fun a x b e hl ha=>?_,W.new⟩
 rcases Nat.lt_or_ge a.length (i+1) with h|h
 ·exact W.rF a x b e h ha
 ·have hm:l[i]∈a:=by
   have:l[i]=a[i]'(by omega):=by subst e; simp[List.getElem_append_left (show i<a.length by omega)]
   rw[this]; exact List.getElem_mem _
  exact absurd (ha _ hm) hn
theorem LX.all {g:AX}(hok:g.Ok){l O' K':List Aj}(W:LX g [] [] l l.length O' K'):∀k,k∈K'↔MK g k l:=by
 intro k
 constructor
 ·intro h
  rcases W.sound k h with h|h
  ·simp at h
  ·exact h
 ·have key:∀x,Yv g k x->((x∈g.kinds->x∈K')/\(x∉g.kinds->x∈O'))->k∈K':=by
   intro x hx
   induction hx with
   |kind h=>exact fun q=>q.1 h
   |KP hr e ha _ ih=>
    rename_i r a b x _
    intro q
    have hl:=q.2 fun h=>hok.apart _ h (AX.Mq hr)
    have hc:=W.new _ hl (by simp) r hr rfl
    exact ih (hc a x b e (by rw[e]; simp) ha)
  rintro⟨a,x,b,e,ha,hx⟩
  exact key x hx (W.rF a x b e (by rw[e]; simp) ha)
theorem M.Pg {α:Type}{Q:α->Prop}:∀{m:M α},m.all Q->∃a,m.leftmost=some a/\Q a
 |.ret a,h=>⟨a,rfl,h⟩
 |.fail,h=>h.elim
 |.ask n k,h=>M.Pg (m:=k 0) (h 0 (Nat.zero_le _))
theorem M.Ye {α:Type}{f:α->Bool}:∀{m:M α},(m.all fun a=>f a=true)->m.TY f=true
 |.ret a,h=>h
 |.fail,h=>h.elim
 |.ask n k,h=>by
  show (List.range (n+1)).all _=true
  rw[List.all_eq_true]
  intro i hi
  exact M.Ye (h i (by have:=List.mem_range.1 hi; omega))
theorem iM {m:M (AV × St)}{v:AV}{st:St}(h:m.all fun r=>r.1=v):Gl st m=.ret (v,st):=by
 obtain⟨a,h1,h2⟩:=M.Pg h
 have h3:m.TY (fun r'=>AV.beq a.1 r'.1)=true:=M.Ye (M.Jn h fun r hr=>by rw[h2,hr]; exact AV.Cx v)
 unfold Gl
 rw[h1]; simp only[h3,cond_true]; rw[h2]
def top:Af->Nat
 |[]=>0
 |(p,_)::h=>max (p+1) (top h)
theorem VF {h:Af}{n:Nat}:top h<=n↔∀p x,(p,x)∈h->p<n:=by
 induction h with
 |nil=>simp[top]
 |cons q h ih=>
  obtain⟨p,x⟩:=q
  simp only[top,Nat.max_le,ih,List.mem_cons,Prod.mk.injEq]
  constructor
  ·rintro⟨h1,h2⟩ a b (⟨rfl,rfl⟩|h)
   ·omega
   ·exact h2 a b h
  ·intro h
   exact⟨h p x (.inl ⟨rfl,rfl⟩),fun a b hm=>h a b (.inr hm)⟩
theorem HB.top {h:Af}{c lo:Nat}(H:HB ⟨h,c,lo⟩):top h<=c:=VF.2 H
theorem Fb {h:Af}{c lo:Nat}(H:top h<=c):HB ⟨h,c,lo⟩:=VF.1 H
theorem Bn {p n:Nat}{x:Ai}{h:Af}:top ((p,x)::h)<=n↔p<n/\top h<=n:=by simp only[top,Nat.max_le]; omega
theorem Fx {h:Af}{o:Nat}{y:Ai}:top (Ab h o y)=top h:=by
 induction h with
 |nil=>rfl
 |cons q h ih=>
  obtain⟨p,x⟩:=q
  simp only[Ab]
  cases Nat.beq p o <;> simp[top,ih]
theorem Br {o c lo:Nat}{y:Ai}{h:Af}(H:top h<=o):newObj o y ⟨h,c,lo⟩=some ⟨(o,y)::h,c,lo⟩:=Ac (VF.1 H)
theorem Ce {p q:Nat}{x:Ai}{h:Af}(e:p=q):AA ((p,x)::h) q=some x:=by rw[AL,if_pos e]
theorem Bg {p q:Nat}{x:Ai}{h:Af}(e:p≠q):AA ((p,x)::h) q=AA h q:=by rw[AL,if_neg e]
theorem bL {p q:Nat}{x y:Ai}{h:Af}(e:p=q):Ab ((p,x)::h) q y=(p,y)::h:=by subst e; simp[Ab,beq_eq]
theorem bK {p q:Nat}{x y:Ai}{h:Af}(e:p≠q):Ab ((p,x)::h) q y=(p,x)::Ab h q y:=by simp[Ab,beq_eq,e]
theorem Ja {p q:Nat}{y:Ai}{h:Af}(e:p=q):AA (Ab h p y) q=(AA h q).map fun _=>y:=by
 subst e
 cases hf:AA h p with
 |some x=>rw[AR hf,if_pos rfl]; rfl
 |none=>
  induction h with
  |nil=>rfl
  |cons r h ih=>
   obtain⟨i,z⟩:=r
   rw[AL] at hf
   by_cases e:i=p
   ·rw[if_pos e] at hf; cases hf
   ·rw[if_neg e] at hf; rw[bK e,AL,if_neg e]; exact ih hf
theorem GQ {p q:Nat}{y:Ai}{h:Af}(e:p≠q):AA (Ab h p y) q=AA h q:=by
 induction h with
 |nil=>rfl
 |cons r h ih=>
  obtain⟨i,z⟩:=r
  by_cases e2:i=p
  ·rw[bL e2,AL,AL,if_neg (by omega),if_neg (by omega)]
  ·rw[bK e2,AL,AL,ih]
def cellAt (x:Option Ai)(off:Nat):Option AV:=match x with
 |some (.cells _ _ cs _)=>cs[off]?
 |_=>none
@[simp] theorem nJ {ty sz off:Nat}{cs:List AV}{ext:Bool}:cellAt (some (.cells ty sz cs ext)) off=cs[off]?:=rfl
def VE (x:Option Ai)(off n:Nat):Option (List AV):=match x with
 |some (.cells _ _ cs _)=>if off+n<=cs.length then some ((cs.drop off).take n) else none
 |_=>none
@[simp] theorem Km {ty sz off n:Nat}{cs:List AV}{ext:Bool}:VE (some (.cells ty sz cs ext)) off n=if off+n<=cs.length then some ((cs.drop off).take n) else none:=rfl
theorem Mh {h:Af}{o off n:Nat}:AZ h (.AO o off) n=VE (AA h o) off n:=by
 simp only[AZ,VE,ble_eq,cond_eq_ite,decide_eq_true_eq]; split <;> simp_all
def putAt (x:Option Ai)(o off:Nat)(vs:List AV)(h:Af)(c lo:Nat):R:=match x with
 |some (.cells ty sz cs ext)=>if lo<=o/\off+vs.length<=cs.length then some (.undef,⟨Ab h o (.cells ty sz (BM cs off vs) ext),c,lo⟩) else none
 |_=>none
@[simp] theorem Qk {o off ty sz c lo:Nat}{cs vs:List AV}{ext:Bool}{h:Af}:putAt (some (.cells ty sz cs ext)) o off vs h c lo=if lo<=o/\off+vs.length<=cs.length then some (.undef,⟨Ab h o (.cells ty sz (BM cs off vs) ext),c,lo⟩) else none:=rfl
theorem IK {n o off c lo:Nat}{v:AV}{h:Af}:Bc n (.AO o off) v ⟨h,c,lo⟩=if v.isTuple=false/\v.cells.length=n then putAt (AA h o) o off v.cells h c lo else none:=by
 simp only[Bc,putAt,Bl,beq_eq,blt_eq,ble_eq]
 cases v.isTuple
 ·by_cases hn:v.cells.length=n
  ·simp only[hn,Bool.false_or,decide_true,Bool.not_true,cond_false,and_self,if_true]
   by_cases hl:o<lo
   ·simp only[hl,decide_true,cond_true]
    split
    ·rw[if_neg (by omega)]; rfl
    ·rfl
   ·simp only[hl,decide_false,cond_false]
    split
    ·rename_i ty sz cs ext heq
     rw[heq]
     by_cases hb:off+n<=cs.length
     ·simp[hb,show lo<=o by omega]
     ·simp[hb]; rfl
    ·rename_i h1
     split
     ·rename_i h2; exact absurd h2 (h1 _ _ _ _)
     ·rfl
  ·simp[hn]
 ·simp
@[simp] theorem uC {a x:AV}{l:List AV}:BM (a::l) 0 [x]=x::l:=by simp[BM]
@[simp] theorem uB {a b x:AV}{l:List AV}:BM (a::b::l) 1 [x]=a::x::l:=by simp[BM]
@[simp] theorem uA {a b c x:AV}{l:List AV}:BM (a::b::c::l) 2 [x]=a::b::x::l:=by simp[BM]
@[simp] theorem sO {a b c x y z:AV}{l:List AV}:BM (a::b::c::l) 0 [x,y,z]=x::y::z::l:=by simp[BM]
@[simp] theorem vD {o ty sz:Nat}{cs:List AV}:Dr o ty sz (.agg cs)=some (.AO o 0,.cells ty sz cs false):=rfl
@[simp] theorem wD {o ty sz:Nat}{f:Fn}{a b:List AV}:Dr o ty sz (.fn f a b)=some (.AO o 0,.cells ty sz [.fn f a b] false):=rfl
@[simp] theorem vC {o ty sz:Nat}{s:Aj}:Dr o ty sz (.str s)=some (.AO o 0,.cells ty sz [.str s] false):=rfl
def Has (ts:TS):List (Nat × AV)->Prop
 |[]=>True
 |(i,v)::l=>ts.get i=v/\Has ts l
@[simp] theorem CR {ts:TS}:Has ts []=True:=rfl
@[simp] theorem Bi {ts:TS}{i:Nat}{v:AV}{l:List (Nat × AV)}:Has ts ((i,v)::l)=(ts.get i=v/\Has ts l):=rfl
def mapOf (K:List Aj):Ai:=.map (strs K) (List.replicate K.length (.bool true)) (List.range K.length) K.length
def MV (x:Aj)(K:List Aj):List Aj:=if x∈K then K else K++[x]
theorem XH {x y:Aj}{K:List Aj}:y∈MV x K↔y=x∨y∈K:=by
 unfold MV; split
 ·constructor
  ·exact .inr
  ·rintro (rfl|h) <;> assumption
 ·simp[or_comm]
theorem Sc {x:Aj}{K:List Aj}(h:K.Nodup):(MV x K).Nodup:=by
 unfold MV; split
 ·exact h
 ·rename_i hx
  rw[List.nodup_append]
  exact⟨h,by simp,fun a ha b hb e=>by simp only[List.mem_singleton] at hb; subst hb; subst e; exact hx ha⟩
theorem map_set {h:Af}{m:Nat}{K:List Aj}(H:AA h m=some (mapOf K)):DJ h m K:=⟨_,_,H⟩
theorem bH {h:Af}{m c lo:Nat}{K:List Aj}(H:AA h m=some (mapOf K))(hlo:lo<=m)(x:Aj):Cg (.one .str) (.Bv m) (.str x) (.bool true) ⟨h,c,lo⟩=some (.undef,⟨Ab h m (mapOf (MV x K)),c,lo⟩):=by
 have hb:Nat.blt m lo=false:=by rw[blt_eq]; simp; omega
 unfold mapOf at H
 rcases Hy x K with⟨h1,i,h2,h3⟩|⟨h1,h2⟩
 ·have e:MV x K=K:=by unfold MV; rw[if_pos h1]
  have e2:(List.replicate K.length (AV.bool true)).set i (.bool true)=List.replicate K.length (.bool true):=by simp
  simp only[Cg,hb,HV,H,h3,Bool.not_true,Bool.or_self,cond_false,e,e2,mapOf]
 ·have e:MV x K=K++[x]:=by unfold MV; rw[if_neg h1]
  simp only[Cg,hb,HV,H,h2,Bool.not_true,Bool.or_self,cond_false,e,mapOf]
  simp[strs,List.replicate_succ',List.range_succ]
def KQ (x:Option Ai):Option Nat:=match x with
 |some (.cells _ _ [w] _)=>Ah w
 |_=>none
@[simp] theorem Jw {ty sz:Nat}{w:AV}{ext:Bool}:KQ (some (.cells ty sz [w] ext))=Ah w:=rfl
structure BT (q m:Nat)(st:St)(O K:List Aj):Prop where
 tp:top st.h<=st.c
 lc:st.lo<=st.c
 qc:q<st.c
 mc:m<st.c
 ql:st.lo<=q
 ml:st.lo<=m
 at_:∃w,AA st.h q=some (.cells 26 1 [w] false)/\La st.h w O
 own:∀p,KQ (AA st.h q)=some p->p<st.c/\st.lo<=p
 map:AA st.h m=some (mapOf K)
 kn:K.Nodup
structure BF (q m:Nat)(a b:St):Prop where
 c:a.c<=b.c
 lo:b.lo=a.lo
 fr:∀p,p<a.c->p≠q->p≠m->KQ (AA a.h q)≠some p->AA b.h p=AA a.h p
 own:∀p,KQ (AA b.h q)=some p->KQ (AA a.h q)=some p∨a.c<=p
theorem BF.refl {q m:Nat}{a:St}:BF q m a a:=⟨Nat.le_refl _,rfl,fun _ _ _ _ _=>rfl,fun _ h=>.inl h⟩
theorem BF.trans {q m:Nat}{a b c:St}(h:BF q m a b)(k:BF q m b c):BF q m a c where
 c:=Nat.le_trans h.c k.c
 lo:=k.lo.trans h.lo
 fr:=fun p hp h1 h2 h3=>(k.fr p (Nat.lt_of_lt_of_le hp h.c) h1 h2 fun e=>(h.own p e).elim h3 fun e=>by omega).trans (h.fr p hp h1 h2 h3)
 own:=fun p hp=>(k.own p hp).elim (fun e=>h.own p e) fun e=>.inr (Nat.le_trans h.c e)
theorem La.obj {h:Af}{w:AV}{L:List Aj}(H:La h w L){p:Nat}(hp:Ah w=some p):∃ext,AA h p=some (.cells 9 1 (strs L) ext):=by
 cases H with
 |nl=>cases hp
 |ob id _ h0 hf=>cases hp; exact⟨_,hf⟩
 |lit id _ h0 hf=>cases hp; exact⟨_,hf⟩
theorem BT.apart {q m:Nat}{st:St}{O K:List Aj}(H:BT q m st O K):q≠m/\∀p,KQ (AA st.h q)=some p->p≠q/\p≠m:=by
 obtain⟨w,h1,h2⟩:=H.at_
 have hm:=H.map
 refine⟨fun e=>?_,fun p hp=>?_⟩
 ·subst e; rw[h1] at hm; cases hm
 ·rw[h1,Jw] at hp
  obtain⟨ext,h3⟩:=h2.obj hp
  constructor
  ·intro e; subst e; rw[h1] at h3; cases h3
  ·intro e; subst e; rw[hm] at h3; cases h3
theorem BT.box {q m:Nat}{h:Af}{c lo:Nat}{O K:List Aj}(H:BT q m ⟨h,c,lo⟩ O K)(x:Ai):BT q m ⟨(c,x)::h,c+1,lo⟩ O K/\BF q m ⟨h,c,lo⟩ ⟨(c,x)::h,c+1,lo⟩:=by
 have tp:top h<=c:=H.tp
 have lc:lo<=c:=H.lc
 have qc:q<c:=H.qc
 have mc:m<c:=H.mc
 have hq:AA ((c,x)::h) q=AA h q:=Bg (by omega)
 obtain⟨w,h1,h2⟩:=H.at_
 have h1':AA h q=some (.cells 26 1 [w] false):=h1
 have ow:∀p,KQ (AA h q)=some p->p<c/\lo<=p:=H.own
 refine⟨⟨by show top ((c,x)::h)<=c+1; rw[Bn]; omega,by show lo<=c+1; omega,by show q<c+1; omega,by show m<c+1; omega,H.ql,H.ml,⟨w,hq.trans h1,h2.heap fun o ho=>Bg (by have:=(ow o (by rw[h1',Jw]; exact ho)).1; omega)⟩,fun p hp=>?_,(Bg (by omega)).trans H.map,H.kn⟩,⟨Nat.le_succ c,rfl,fun p hp _ _ _=>Bg (by have:p<c:=hp; omega),fun p hp=>.inl (by rw[← hp]; exact congrArg KQ hq.symm)⟩⟩
 have:=ow p (by rw[← hp]; exact congrArg KQ hq.symm)
 exact⟨by show p<c+1; omega,this.2⟩
theorem BT.put {q m:Nat}{h:Af}{c lo:Nat}{O K:List Aj}(H:BT q m ⟨h,c,lo⟩ O K)(x:Aj):BT q m ⟨Ab h m (mapOf (MV x K)),c,lo⟩ O (MV x K)/\BF q m ⟨h,c,lo⟩ ⟨Ab h m (mapOf (MV x K)),c,lo⟩:=by
 obtain⟨a1,a2⟩:=H.apart
 have hm:AA h m=some (mapOf K):=H.map
 obtain⟨w,h1,h2⟩:=H.at_
 have h1':AA h q=some (.cells 26 1 [w] false):=h1
 have hq:AA (Ab h m (mapOf (MV x K))) q=AA h q:=GQ (Ne.symm a1)
 have ow:∀p,KQ (AA h q)=some p->p<c/\lo<=p:=H.own
 refine⟨⟨by show top (Ab _ _ _)<=c; rw[Fx]; exact H.tp,H.lc,H.qc,H.mc,H.ql,H.ml,⟨w,hq.trans h1,h2.heap fun o ho=>GQ (Ne.symm (a2 o (by rw[h1,Jw]; exact ho)).2)⟩,fun p hp=>ow p (by rw[← hp]; exact congrArg KQ hq.symm),by show AA (Ab _ _ _) m=_; rw[Ja rfl,hm]; rfl,Sc H.kn⟩,⟨Nat.le_refl c,rfl,fun p hp _ h3 _=>GQ (Ne.symm h3),fun p hp=>.inl (by rw[← hp]; exact congrArg KQ hq.symm)⟩⟩
theorem BT.push {q m:Nat}{h:Af}{c lo:Nat}{O K:List Aj}(H:BT q m ⟨h,c,lo⟩ O K)(hl:O.length<=1000)(x:Aj) :
 ∃w h2,AA h q=some (.cells 26 1 [w] false)/\newObj c (.cells 9 1 [.str x] false) ⟨h,c+2,lo⟩=some ⟨(c,.cells 9 1 [.str x] false)::h,c+2,lo⟩ /\
  BU (c+1) 9 1 16 w (.AQ c 0 1 (some 1)) ⟨(c,.cells 9 1 [.str x] false)::h,c+2,lo⟩=some (.AQ (c+1) 0 (O.length+1) none,⟨h2,c+2,lo⟩)/\Bc 1 (.AO q 0) (.AQ (c+1) 0 (O.length+1) none) ⟨h2,c+2,lo⟩=some (.undef,⟨Ab h2 q (.cells 26 1 [.AQ (c+1) 0 (O.length+1) none] false),c+2,lo⟩) /\
  BT q m ⟨Ab h2 q (.cells 26 1 [.AQ (c+1) 0 (O.length+1) none] false),c+2,lo⟩ (O++[x]) K/\BF q m ⟨h,c,lo⟩ ⟨Ab h2 q (.cells 26 1 [.AQ (c+1) 0 (O.length+1) none] false),c+2,lo⟩:=by
 have tp:top h<=c:=H.tp
 have lc:lo<=c:=H.lc
 have qc:q<c:=H.qc
 have mc:m<c:=H.mc
 have ql:lo<=q:=H.ql
 obtain⟨a1,a2⟩:=H.apart
 have a2':∀p,KQ (AA h q)=some p->p≠q/\p≠m:=a2
 obtain⟨w,h1,h2⟩:=H.at_
 have h1':AA h q=some (.cells 26 1 [w] false):=h1
 have ow:∀p,KQ (AA h q)=some p->p<c/\lo<=p:=H.own
 rw[h1',Jw] at ow a2'
 obtain⟨h2',p1,p2,p3,p4⟩:=bC x (Fb tp) h2 (fun p hp=>⟨(ow p hp).2,(ow p hp).1⟩) hl
 have f2:AA h2' q=some (.cells 26 1 [w] false):=by rw[p4 q qc fun e=>(a2' q e).1 rfl]; exact h1
 have S2:La h2' (.AQ (c+1) 0 (O.length+1) none) (O++[x]):=by
  have:=La.ob (h:=h2') (c+1) (O++[x]) (by simp) p3
  rwa [List.length_append] at this
 have nq:q≠c+1:=by omega
 have F:∀{y:Ai} p,p<c->p≠q->Ah w≠some p->AA (Ab h2' q y) p=AA h p:=fun {y} p hp hne ho=>by rw[GQ (Ne.symm hne)]; exact p4 p hp ho
 refine⟨w,h2',h1',Br tp,p1,by rw[IK,f2]; simp[AV.isTuple,AV.cells,ql],⟨by show top (Ab _ _ _)<=c+2; rw[Fx]; exact HB.top p2,by show lo<=c+2; omega,by show q<c+2; omega,by show m<c+2; omega,ql,H.ml,⟨_,by show AA (Ab _ _ _) q=_; rw[Ja rfl,f2]; rfl,S2.heap fun o ho=>by cases ho; exact GQ nq⟩,fun p hp=>?_,?_,H.kn⟩,⟨by show c<=c+2; omega,rfl,fun p hp h3 h4 h5=>F p hp h3 (by rw[h1,Jw] at h5; exact h5),fun p hp=>?_⟩⟩
 ·have hq:AA (Ab h2' q (.cells 26 1 [.AQ (c+1) 0 (O.length+1) none] false)) q=some (.cells 26 1 [.AQ (c+1) 0 (O.length+1) none] false):=by rw[Ja rfl,f2]; rfl
  have hp':KQ (AA (Ab h2' q (.cells 26 1 [.AQ (c+1) 0 (O.length+1) none] false)) q)=some p:=hp
  rw[hq,Jw] at hp'
  cases hp'
  exact⟨by show c+1<c+2; omega,by show lo<=c+1; omega⟩
 ·show AA (Ab _ _ _) m=_
  rw[F m mc (Ne.symm a1) fun e=>(a2' m e).2 rfl]; exact H.map
 ·have hq:AA (Ab h2' q (.cells 26 1 [.AQ (c+1) 0 (O.length+1) none] false)) q=some (.cells 26 1 [.AQ (c+1) 0 (O.length+1) none] false):=by rw[Ja rfl,f2]; rfl
  have hp':KQ (AA (Ab h2' q (.cells 26 1 [.AQ (c+1) 0 (O.length+1) none] false)) q)=some p:=hp
  rw[hq,Jw] at hp'
  cases hp'
  exact .inr (by show c<=c+1; omega)
def Pt (F:Nat)(v:AV)(g:AX)(q m n:Nat):Prop:=∀(st:St) (base:AV) (l O K:List Aj),BT q m st O K->(∀b,BF q m st b->Reads b.h base l)->l.length<=100->(∀s∈l,s∈g.kinds∨s∈g.CB)->O.Nodup->(∀s∈O,s∈g.CB)->g.CB.length<=O.length+n ->
 (AU E F 93 [v,base,.AO q 0,.Bv m] st).to fun x=>x.1=.tuple []/\∃O' K',BT q m x.2 O' K'/\BF q m st x.2/\LX g O K l l.length O' K'/\O'.Nodup/\∀s∈O',s∈g.CB
def IC (q m c4:Nat)(a8 a15 a16 a17:AV):List (Nat × AV):=[(2,.AO q 0),(3,.Bv m),(4,.AO c4 0),(8,a8),(15,a15),(16,a16),(17,a17)]
set_option maxHeartbeats 2000000 in
theorem WA {F q m n c4:Nat}{g:AX}{kv rv:AV}{lv:List AV}(hr:BI rv 3 lv)(hrs:Bt lv g.rules)(hs:g.Small)(hok:g.Ok)(HC:Pt F (.agg [kv,.str g.start,rv]) g q m n){s:Aj}{O K:List Aj}(hsO:s∉O)(hn:g.CB.length<=O.length+(n+1))(a8 a15 a16 a17:AV)(st1:St)(HB1:BT q m st1 (O++[s]) K)(hN1:(O++[s]).Nodup)(hS1:∀t∈O++[s],t∈g.CB)(h4c:c4<st1.c)(h4q:c4≠q)(h4m:c4≠m)(h4o:KQ (AA st1.h q)≠some c4)(h4:AA st1.h c4=some (.cells 29 3 [kv,.str g.start,rv] false))(ts0:TS)(hts:Has ts0 (IC q m c4 a8 a15 a16 a17))(z10:ts0.get 10=.str s)(z41:ts0.get 41=rv)(z42:ts0.get 42=.int .i64 (g.rules.length:Int))(z43:ts0.get 43=.int .i64 ((0:Nat):Int)) :
 (CJ (Ar E (AU E F) C.f93L1) E.k ts0 st1).to fun x=>x.1=.exit 2/\Has x.2.1 (IC q m c4 a8 a15 a16 a17)/\x.2.1.get 10=.str s/\∃O' K',BT q m x.2.2 O' K'/\BF q m st1 x.2.2/\KM g O K s g.rules.length O' K'/\O'.Nodup/\∀t∈O',t∈g.CB:=by
 have hln:=hrs.length
 have hmany:=hs.many
 refine Be (fun (j:Nat) ts st=>j<=g.rules.length/\Has ts (IC q m c4 a8 a15 a16 a17)/\ts.get 10=.str s/\ts.get 41=rv/\ts.get 42=.int .i64 (g.rules.length:Int)/\ts.get 43=.int .i64 (j:Int)/\∃O' K',BT q m st O' K'/\BF q m st1 st/\KM g O K s j O' K'/\O'.Nodup/\∀t∈O',t∈g.CB)
  (fun j=>g.rules.length-j) ?_ _ 0 _ _ ?_ ?_
 ·rintro j ts st ⟨hj,hts,z10,z41,z42,z43,O',K',B,Fr,Op,hN,hS⟩
  simp only[IC,Bi,CR,and_true] at hts
  obtain⟨z2,z3,z4,z8,z15,z16,z17⟩:=hts
  by_cases Au:j<g.rules.length
  ·have hjl:j<lv.length:=by omega
   obtain⟨w1,e1,e2⟩:=(hrs.get j Au).2
   have hmem:=List.getElem_mem Au
   have hsm:=hs.rules _ hmem
   obtain⟨h,c,lo⟩:=st
   have tp:top h<=c:=B.tp
   have lc:lo<=c:=B.lc
   obtain⟨rc,hrc⟩:∃rc:List AV,rc=[.str g.rules[j].left,w1,.int .i64 g.rules[j].level]:=⟨_,rfl⟩
   obtain⟨B1,F1⟩:=B.box (.cells 68 3 rc false)
   have hix:Aa 3 rv (.int .i64 (j:Int)) ⟨h,c+1,lo⟩=some (.BC lv[j].cells,⟨h,c+1,lo⟩):=hr.idx hjl
   have hcells:lv[j].cells=rc:=by rw[e1,hrc]; rfl
   rw[hcells] at hix
   have hn1:newObj c (.cells 68 3 [.str [],.AJ,.int .i64 0] false) ⟨h,c+1,lo⟩=some ⟨(c,.cells 68 3 [.str [],.AJ,.int .i64 0] false)::h,c+1,lo⟩:=Br tp
   have hst:=CO (h:=h) (c:=c) (c':=c+1) (lo:=lo) (ty:=68) (n:=3) (zs:=[.str [],.AJ,.int .i64 0]) (vs:=rc) (by omega) (by rw[hrc]; rfl) rfl
   obtain⟨h',hh'⟩:∃h':Af,h'=(c,Ai.cells 68 3 rc false)::h:=⟨_,rfl⟩
   rw[← hh'] at hst B1 F1
   have hrd3:AZ h (.BC rc) 3=some rc:=by rw[hrc]; rfl
   have fc:AA h' c=some (.cells 68 3 rc false):=by rw[hh',Ce rfl]
   have rc0:AP h' (.AO c 0)=some (.str g.rules[j].left):=by rw[AB fc,hrc]; rfl
   have rc1:AP h' (.AO c 1)=some w1:=by rw[AB fc,hrc]; rfl
   have F2:=Fr.trans F1
   have r4:AZ h' (.AO c4 0) 3=some [kv,.str g.start,rv]:=Ae ((F2.fr c4 h4c h4q h4m h4o).trans h4) rfl
   by_cases he:g.rules[j].left=s
   ·have hlen:(O++[s]).length<=O'.length:=DV hN1 fun t ht=>by
     rcases List.mem_append.1 ht with h|h
     ·exact Op.o t h
     ·simp only[List.mem_singleton] at h; subst h; exact Op.self
    simp only[List.length_append,List.length_cons,List.length_nil] at hlen
    have call:=HC ⟨h',c+1,lo⟩ w1 g.rules[j].right O' K' B1 (fun b _=>Reads.OI e2) (by have:=hsm.right; omega) (hok.syms _ hmem) hN hS (by omega)
    have heb:(g.rules[j].left==s)=true:=by simp[he]
    simp[C.f93L1,z2,z3,z4,z10,z41,z42,z43,Au,hix,-Aw,hrd3,hn1,hst,rc0,rc1,r4,heb]
    refine M.Al call fun x hx=>?_
    obtain⟨w,st2⟩:=x
    obtain⟨ew,O2,K2,B2,F3,W,hN2,hS2⟩:=hx
    simp only at ew B2 F3
    simp[IC,z2,z3,z4,z8,z10,z15,z16,z17,z41,z42,z43,wi j]
    exact⟨j+1,by omega,by omega,by simp,O2,K2,B2,F2.trans F3,Op.more Au he W,hN2,hS2⟩
   ·have heb:(g.rules[j].left==s)=false:=beq_false_of_ne he
    simp[C.f93L1,IC,z2,z3,z4,z8,z10,z15,z16,z17,z41,z42,z43,Au,hix,-Aw,hrd3,hn1,hst,rc0,rc1,heb,wi j]
    exact⟨j+1,by omega,by omega,by simp,O',K',B1,F2,Op.skip Au he,hN,hS⟩
  ·have:j=g.rules.length:=by omega
   subst this
   simp[C.f93L1,IC,z2,z3,z4,z8,z10,z15,z16,z17,z41,z42,z43]
   exact⟨O',K',B,Fr,Op,hN,hS⟩
 ·show g.rules.length-0<1000000; omega
 ·exact⟨by omega,hts,z10,z41,z42,z43,O++[s],K,HB1,.refl,.start,hN1,hS1⟩
set_option maxHeartbeats 2000000 in
theorem YX {F k q m n c4:Nat}{g:AX}{kv rv base:AV}{lv:List AV}(hF:F=k+8)(hk:BI kv 1 (strs g.kinds))(hr:BI rv 3 lv)(hrs:Bt lv g.rules)(hs:g.Small)(hok:g.Ok)(HC:∀n',n=n'+1->Pt F (.agg [kv,.str g.start,rv]) g q m n'){N:List Aj}(hNull:∀s,s∈N↔Im g s){l O K:List Aj}(hn:g.CB.length<=O.length+n)(hll:l.length<=100)(hls:∀s∈l,s∈g.kinds∨s∈g.CB)(st1:St)(HB1:BT q m st1 O K)(hN1:O.Nodup)(hS1:∀t∈O,t∈g.CB)(hbase:∀b,BF q m st1 b->Reads b.h base l)(h4c:c4<st1.c)(h4q:c4≠q)(h4m:c4≠m)(h4o:KQ (AA st1.h q)≠some c4)(h4:AA st1.h c4=some (.cells 29 3 [kv,.str g.start,rv] false))(ts0:TS)(z2:ts0.get 2=.AO q 0)(z3:ts0.get 3=.Bv m)(z4:ts0.get 4=.AO c4 0)(z8:ts0.get 8=.fn (.func 188) [] [.BC [Da N]])(z15:ts0.get 15=base)(z16:ts0.get 16=.int .i64 (l.length:Int))(z17:ts0.get 17=.int .i64 ((0:Nat):Int)) :
 (CJ (Ar E (AU E F) C.f93L0) E.k ts0 st1).to fun x=>(x.1=.exit 0∨x.1=.ret)/\∃O' K',BT q m x.2.2 O' K'/\BF q m st1 x.2.2/\LX g O K l l.length O' K'/\O'.Nodup/\∀t∈O',t∈g.CB:=by
 have hG:BP (.agg [kv,.str g.start,rv]) g:=⟨kv,rv,lv,rfl,hk,hr,hrs⟩
 have hln:=hrs.length
 have hmany:=hs.many
 refine Be (fun (i:Nat) ts st=>i<=l.length/\Has ts (IC q m c4 (.fn (.func 188) [] [.BC [Da N]]) base (.int .i64 (l.length:Int)) (.int .i64 (i:Int)))/\(∀y∈l.take i,Im g y)/\∃O' K',BT q m st O' K'/\BF q m st1 st/\LX g O K l i O' K'/\O'.Nodup/\∀t∈O',t∈g.CB)
  (fun i=>l.length-i) ?_ _ 0 _ _ ?_ ?_
 ·clear z2 z3 z4 z8 z15 z16 z17
  rintro i ts st ⟨hi,hts,hpre,O',K',B,Fr,W,hN,hS⟩
  simp only[IC,Bi,CR,and_true] at hts
  obtain⟨z2,z3,z4,z8,z15,z16,z17⟩:=hts
  by_cases Au:i<l.length
  ·obtain⟨h,c,lo⟩:=st
   have tp:top h<=c:=B.tp
   have lc:lo<=c:=B.lc
   have hb:HB ⟨h,c,lo⟩:=Fb tp
   obtain⟨p,a1,b1⟩:=(hbase _ Fr).at_ i Au ⟨h,c,lo⟩ rfl
   have b1':AP h p=some (.str l[i]):=b1
   have f4:AA h c4=some (.cells 29 3 [kv,.str g.start,rv] false):=(Fr.fr c4 h4c h4q h4m h4o).trans h4
   have r4:AZ h (.AO c4 0) 3=some [kv,.str g.start,rv]:=Ae f4 rfl
   have hkind:=PD (k:=k+5) (x:=l[i]) (st:=⟨h,c,lo⟩) hG hs hb
   have eF:k+5+3=F:=by omega
   rw[eF] at hkind
   have hpre':Im g l[i]->∀y∈l.take (i+1),Im g y:=fun hx y hy=>by
    rw[List.take_succ_eq_append_getElem Au,List.mem_append,List.mem_singleton] at hy
    rcases hy with h|h
    ·exact hpre y h
    ·exact h ▸ hx
   by_cases hkd:l[i]∈g.kinds
   ·rw[decide_eq_true hkd] at hkind
    have pm:=bH (c:=c) B.map B.ml l[i]
    obtain⟨B1,F1⟩:=B.put l[i]
    have pm':Cg (.one .str) (.Bv m) (.str l[i]) (.bool true) ⟨h,c,lo⟩=some (.undef,⟨Ab h m (mapOf (MV l[i] K')),c,lo⟩):=pm
    simp[C.f93L0,z2,z3,z4,z8,z15,z16,z17,Au,a1,b1',r4,hkind,pm']
    exact⟨O',_,B1,Fr.trans F1,W.kind hok hpre Au hkd fun y=>XH,hN,hS⟩
   ·rw[decide_eq_false hkd] at hkind
    have hleft:l[i]∈g.CB:=(hls _ (List.getElem_mem Au)).resolve_left hkd
    obtain⟨w,fq,S⟩:=B.at_
    have fq':AA h q=some (.cells 26 1 [w] false):=fq
    have rq:AP h (.AO q 0)=some w:=by rw[AB fq']; rfl
    have hOl:O'.length<=1000:=by
     have:=DV hN hS
     have:=g.Fj
     omega
    have hcon:=Ii (k:=k+6) (x:=l[i]) (st:=⟨h,c,lo⟩) S.reads (by omega)
    have eF2:k+6+2=F:=by omega
    rw[eF2] at hcon
    have hemp:∀st:St,HB st->AU E F 188 [.str l[i],.BC [Da N]] st=.ret (.bool (decide (l[i]∈N)),st):=fun st hb=>by
     have:=Vf (k:=k+7) (K:=N) st l[i] (Df.refl hb)
     have eF3:k+7+1=F:=by omega
     rw[eF3] at this
     exact this
    by_cases hin:l[i]∈O'
    ·rw[decide_eq_true hin] at hcon
     have W1:=W.seen Au hkd hin
     have he:=hemp ⟨h,c,lo⟩ hb
     by_cases hnl:l[i]∈N
     ·rw[decide_eq_true hnl] at he
      simp[C.f93L0,IC,z2,z3,z4,z8,z15,z16,z17,Au,a1,b1',r4,hkind,rq,hcon,he,wi i]
      exact⟨i+1,by omega,by omega,by simp,hpre' ((hNull _).1 hnl),O',K',B,Fr,W1,hN,hS⟩
     ·rw[decide_eq_false hnl] at he
      simp[C.f93L0,IC,z2,z3,z4,z8,z15,z16,z17,Au,a1,b1',r4,hkind,rq,hcon,he]
      exact⟨O',K',B,Fr,W1.stop Au (fun h=>hnl ((hNull _).2 h)),hN,hS⟩
    ·rw[decide_eq_false hin] at hcon
     have hN2:(O'++[l[i]]).Nodup:=by
      rw[List.nodup_append]
      exact⟨hN,by simp,fun a ha b hb'=>by
       simp only[List.mem_singleton] at hb'
       subst hb'; intro e; subst e; exact hin ha⟩
     have hS2:∀t∈O'++[l[i]],t∈g.CB:=fun t ht=>by
      rcases List.mem_append.1 ht with h|h
      ·exact hS t h
      ·simp only[List.mem_singleton] at h; subst h; exact hleft
     have hlen:=DV hN2 hS2
     have hOO:=DV hN1 W.o
     rw[List.length_append,List.length_singleton] at hlen
     obtain⟨n',rfl⟩:∃n',n=n'+1:=⟨n-1,by omega⟩
     obtain⟨w',h2,q1,q2,q3,q4,B2,F2⟩:=B.push hOl l[i]
     rw[fq'] at q1
     cases q1
     obtain⟨h3,hh3⟩:∃h3,h3=Ab h2 q (.cells 26 1 [.AQ (c+1) 0 (O'.length+1) none] false):=⟨_,rfl⟩
     rw[← hh3] at q4 B2 F2
     have F2':=Fr.trans F2
     have f43:AA h3 c4=some (.cells 29 3 [kv,.str g.start,rv] false):=(F2'.fr c4 h4c h4q h4m h4o).trans h4
     have r43:AP h3 (.AO c4 2)=some rv:=by rw[AB f43]; rfl
     have c4o:KQ (AA h3 q)≠some c4:=fun e=>(F2'.own c4 e).elim h4o fun e=>by omega
     have hcc:st1.c<=c:=Fr.c
     have hlr:∀S':St,BO .slice rv S'=some (.int .i64 (g.rules.length:Int),S'):=fun S'=>by have:=hr.len (st:=S'); rw[this,hln]
     simp[C.f93L0,IC,z2,z3,z4,z8,z15,z16,z17,Au,a1,b1',r4,hkind,rq,hcon,YY,q2,q3,q4,r43,hlr]
     refine M.Al (WA (F:=F) hr hrs hs hok (HC n' rfl) hin (by omega) (.fn (.func 188) [] [.BC [Da N]]) base (.int .i64 (l.length:Int)) (.int .i64 (i:Int)) ⟨h3,c+2,lo⟩ B2 hN2 hS2 (by show c4<c+2; omega) h4q h4m c4o f43 _ (by simp[IC,z2,z3,z4,z8,z15,z16,z17]) (by simp) (by simp) (by simp) (by simp)) fun x hx=>?_
     obtain⟨e,ts2,st2⟩:=x
     obtain⟨ee,g1,g10,O2,K2,B3,F3,Op,hN3,hS3⟩:=hx
     simp only at ee g1 g10 B3 F3
     subst ee
     simp only[IC,Bi,CR,and_true] at g1
     obtain⟨g2,g3,g4,g8,g15,g16,g17⟩:=g1
     have he:=hemp st2 (Fb (lo:=st2.lo) B3.tp)
     have W1:=W.opened hpre Au hkd Op
     by_cases hnl:l[i]∈N
     ·rw[decide_eq_true hnl] at he
      simp[g2,g3,g4,g8,g10,g15,g16,g17,he,wi i]
      exact⟨i+1,by omega,by omega,by simp,hpre' ((hNull _).1 hnl),O2,K2,B3,F2'.trans F3,W1,hN3,hS3⟩
     ·rw[decide_eq_false hnl] at he
      simp[g2,g3,g4,g8,g10,g15,g16,g17,he]
      exact⟨O2,K2,B3,F2'.trans F3,W1.stop Au (fun h=>hnl ((hNull _).2 h)),hN3,hS3⟩
  ·have:i=l.length:=by omega
   subst this
   simp[C.f93L0,z2,z3,z4,z8,z15,z16,z17]
   exact⟨O',K',B,Fr,W,hN,hS⟩
 ·show l.length-0<1000000; omega
 ·exact⟨by omega,by simp[IC,z2,z3,z4,z8,z15,z16,z17],by simp,O,K,HB1,.refl,.start,hN1,hS1⟩
set_option maxHeartbeats 1000000 in
theorem RG {k q m n:Nat}{v:AV}{g:AX}(hg:BP v g)(hs:g.Small)(hok:g.Ok)(HC:∀n',n=n'+1->Pt (k+8) v g q m n'):Pt (k+9) v g q m n:=by
 intro st base l O K B hbase hll hls hN hS hn
 obtain⟨kv,rv,lv,rfl,hk,hr,hrs⟩:=hg
 have hG:BP (.agg [kv,.str g.start,rv]) g:=⟨kv,rv,lv,rfl,hk,hr,hrs⟩
 rw[Ap (fn:=C.f93) rfl rfl rfl,Ad (by simp)]
 obtain⟨h,c,lo⟩:=st
 have tp:top h<=c:=B.tp
 have lc:lo<=c:=B.lc
 have qc:q<c:=B.qc
 have mc:m<c:=B.mc
 obtain⟨B1,F1⟩:=B.box (.cells 29 3 [kv,.str g.start,rv] false)
 have n1:newObj c (.cells 29 3 [kv,.str g.start,rv] false) ⟨h,c+1,lo⟩=some ⟨(c,.cells 29 3 [kv,.str g.start,rv] false)::h,c+1,lo⟩:=Br tp
 obtain⟨h1,hh1⟩:∃h1:Af,h1=(c,Ai.cells 29 3 [kv,.str g.start,rv] false)::h:=⟨_,rfl⟩
 rw[← hh1] at B1 F1 n1
 have f4:AA h1 c=some (.cells 29 3 [kv,.str g.start,rv] false):=by rw[hh1,Ce rfl]
 have r4:AZ h1 (.AO c 0) 3=some [kv,.str g.start,rv]:=Ae f4 rfl
 obtain⟨N,e1,e2⟩:=Qz (k:=k) (st:=⟨h1,c+1,lo⟩) hG hs
 have hlen:∀S:St,BO .slice base S=some (.int .i64 (l.length:Int),S):=fun S=>by simp[BO,(hbase _ .refl).len]
 have c4o:KQ (AA h1 q)≠some c:=fun e=>by
  rw[hh1,Bg (by omega)] at e
  have:=(B.own c e).1
  have:c<c:=this
  omega
 simp[C.f93,n1,r4,e1,hlen]
 refine M.Al (YX (F:=k+8) (q:=q) (m:=m) (n:=n) (c4:=c) (base:=base) rfl hk hr hrs hs hok HC e2 hn hll hls ⟨h1,c+1,lo⟩ B1 hN hS (fun b hb=>hbase b (F1.trans hb)) (by show c<c+1; omega) (by omega) (by omega) c4o f4 _ (by simp) (by simp) (by simp) (by simp) (by simp) (by simp) (by simp)) fun x hx=>?_
 obtain⟨e,ts2,st2⟩:=x
 obtain⟨ee,O',K',B2,F2,W,hN2,hS2⟩:=hx
 simp only at ee B2 F2
 rcases ee with rfl|rfl
 ·simp[leave,results,AY]
  exact⟨O',K',B2,F1.trans F2,W,hN2,hS2⟩
 ·simp[leave,results,AY]
  exact⟨O',K',B2,F1.trans F2,W,hN2,hS2⟩
theorem aV {v:AV}{g:AX}(hg:BP v g)(hs:g.Small)(hok:g.Ok)(q m:Nat):∀n k,Pt (k+9+n) v g q m n:=by
 intro n
 induction n with
 |zero=>exact fun k=>RG (k:=k) hg hs hok fun n' h=>absurd h (by omega)
 |succ n ih=>
  intro k
  rw[show k+9+(n+1)=k+n+1+9 by omega]
  refine RG hg hs hok fun n' h=>?_
  have:n'=n:=by omega
  subst this
  rw[show k+n'+1+8=k+9+n' by omega]
  exact ih k
theorem iL {k:Nat}{st:St}:AU E (k+5) 55 [.AJ] st=.ret (.tuple [],st):=by kernel_rfl
theorem Ou:∀{b a:List Aj},a.Nodup->(∀s∈a,s∈b)->b.length<=a.length->b.Nodup
 |[],_,_,_,_=>List.nodup_nil
 |x::b,a,ha,hs,hl=>by
  have hx:x∉b:=fun hx=>by
   have:=DV ha fun s h=>by
    rcases List.mem_cons.1 (hs s h) with e|h
    ·subst e; exact hx
    ·exact h
   simp only[List.length_cons] at hl; omega
  refine List.nodup_cons.2 ⟨hx,Ou (a:=a.erase x) (ha.erase x) (fun s h=>?_) ?_⟩
  ·have h1:=List.mem_of_mem_erase h
   rcases List.mem_cons.1 (hs s h1) with e|h2
   ·subst e; exact absurd h (List.Nodup.not_mem_erase ha)
   ·exact h2
  ·have:=List.length_erase (a:=x) (l:=a)
   simp only[List.length_cons] at hl
   rw[this]; split <;> omega
theorem iJ {K L:List Aj}(hK:K.Nodup)(hm:∀s,s∈L↔s∈K)(hl:L.length=K.length)(hS:cK L L.length):L=Di K:=by
 have hN:L.Nodup:=Ou hK (fun s h=>(hm s).2 h) (by omega)
 refine VD ?_ (NN K) fun s=>by rw[hm,Hu]
 unfold Up
 rw[List.pairwise_iff_getElem]
 intro i j hi hj hij
 have h1:=hS i j hij hj
 simp only[List.getD,List.getElem?_eq_getElem hi,List.getElem?_eq_getElem hj,Option.getD_some] at h1
 refine Iy h1 fun e=>?_
 have:=(List.getElem_inj hN).1 e
 omega
theorem TT {n b:Nat}(hb:b<n):JK (List.range n) b=some b:=by
 have key:∀(m s b:Nat),s<=b->b<s+m->JK (List.range' s m) b=some (b-s):=by
  intro m
  induction m with
  |zero=>intro s b h1 h2; omega
  |succ m ih=>
   intro s b h1 h2
   rw[List.range'_succ,JK]
   by_cases e:s=b
   ·subst e; simp[beq_eq]
   ·rw[ih (s+1) b (by omega) (by omega)]
    simp[beq_eq,e]; omega
 have:=key n 0 b (Nat.zero_le _) (by omega)
 rwa [← List.range_eq_range'] at this
theorem aR {n:Nat}{seen:List Nat}:candidates (List.range n) n seen=if ((List.range n).filter fun b=>!seen.contains b).isEmpty then [none] else ((List.range n).filter fun b=>!seen.contains b).map some:=by
 have h1:((List.range n).filter fun b=>!seen.contains b).filter (fun b=>decide (b<n))=(List.range n).filter fun b=>!seen.contains b:=List.filter_eq_self.2 fun b hb=>by simpa using List.mem_range.1 (List.mem_filter.1 hb).1
 have h2:((List.range n).filter fun b=>!seen.contains b).filter (fun b=>decide (n<=b))=[]:=by
  rw[List.filter_eq_nil_iff]
  intro b hb
  have:=List.mem_range.1 (List.mem_filter.1 hb).1
  simp; omega
 simp only[candidates,h1,h2,List.append_nil]
 split
 ·rename_i h; rw[List.isEmpty_iff.1 h]; simp
 ·simp
theorem iq {h:Af}{c lo i m:Nat}{K:List Aj}{seen:List Nat}{Q:AV × St->Prop}(hlo:lo<=i)(hm:AA h m=some (mapOf K))(hi:AA h i=some (.iter (some m) K.length seen K.length))(hN:seen.Nodup)(hs:∀b∈seen,b<K.length)(fin:(∀b,b<K.length->b∈seen)->Q (.tuple [.bool false],⟨h,c,lo⟩))(more:∀b (hb:b<K.length),b∉seen->Q (.tuple [.bool true,.str K[b],.bool true],⟨Ab h i (.iter (some m) K.length (seen++[b]) K.length),c,lo⟩)) :
 (Lt [.AO i 0] ⟨h,c,lo⟩).all Q:=by
 have hb:Nat.blt i lo=false:=by rw[blt_eq]; simp; omega
 have hall:(!seen.isEmpty&&!(List.range K.length).isEmpty&&(List.range K.length).all (Nat.ble K.length))=false:=by
  cases hK:K.length with
  |zero=>simp
  |succ n=>
   have:(List.range (n+1)).all (Nat.ble (n+1))=false:=by
    rw[List.all_eq_false]
    exact⟨0,by simp,by simp[ble_eq]⟩
   simp[this]
 simp only[mapOf] at hm
 simp only[Lt,hi,hb,cond_false,hm,hall]
 rw[aR]
 generalize hleft:((List.range K.length).filter fun b=>!seen.contains b)=left
 have hmem:∀b,b∈left↔b<K.length/\b∉seen:=fun b=>by rw[← hleft,List.mem_filter,List.mem_range]; simp
 cases left with
 |nil=>
  intro j hj
  have:j=0:=by simpa using hj
  subst this
  exact fin fun b hb=>Decidable.not_not.1 fun h=>by have:=(hmem b).2 ⟨hb,h⟩; simp at this
 |cons b0 left=>
  intro j hj
  simp only[List.isEmpty_cons,Bool.false_eq_true,if_false,List.length_map] at hj ⊢
  have hjl:j<(b0::left).length:=by simp only[List.length_cons] at hj ⊢; omega
  obtain⟨b,hbj⟩:∃b,(b0::left)[j]=b:=⟨_,rfl⟩
  have hb':b∈b0::left:=hbj ▸ List.getElem_mem hjl
  obtain⟨h1,h2⟩:=(hmem b).1 hb'
  have e1:((b0::left).map some)[j]?=some (some b):=by rw[List.getElem?_map,List.getElem?_eq_getElem hjl,hbj]; rfl
  have e2:(strs K)[b]?=some (.str K[b]):=by rw[strs_get? _ _ h1]; simp[List.getD,h1]
  have e3:(List.replicate K.length (AV.bool true))[b]?=some (.bool true):=by simp[List.getElem?_replicate,h1]
  rw[e1]
  simp only[Sd,TT h1,e2,e3]
  exact more b h1 h2
theorem fP {h:Af}{c lo i m b:Nat}{K:List Aj}{seen:List Nat}(hm:AA h m=some (mapOf K))(hi:AA h i=some (.iter (some m) K.length (seen++[b]) K.length))(hb:b<K.length) :
 KV (.AO i 0) ⟨h,c,lo⟩=some (.tuple [.str K[b],.bool true],⟨h,c,lo⟩):=by
 have e2:(strs K)[b]?=some (.str K[b]):=by rw[strs_get? _ _ hb]; simp[List.getD,hb]
 have e3:(List.replicate K.length (AV.bool true))[b]?=some (.bool true):=by simp[List.getElem?_replicate,hb]
 simp only[mapOf] at hm
 simp[KV,hi,hm,beq_eq,TT hb,e2,e3]
theorem Add.hs {st0:St}{w0:AV}{h:Af}{c lo o:Nat}{w:AV}{L:List Aj}{y:Ai}(A:Add st0 w0 ⟨h,c,lo⟩ w L)(ho:st0.c<=o)(hw:Ah w≠some o):Add st0 w0 ⟨Ab h o y,c,lo⟩ w L where
 c:=A.c
 lo:=A.lo
 hb:=HB.Ab (st:=⟨h,c,lo⟩) A.hb
 sl:=A.sl.heap fun p hp=>GQ fun e=>hw (e ▸ hp)
 own:=A.own
 fr:=fun p hp hne=>(GQ (by omega)).trans (A.fr p hp hne)
def Ia (K:List Aj):AV:=if K=[] then .AJ else .list false 1 (strs (Di K))
theorem Ky (K:List Aj):BI (Ia K) 1 (strs (Di K)):=by
 unfold Ia; split
 ·rename_i h; subst h; exact⟨.inl ⟨rfl,rfl⟩⟩
 ·exact⟨.inr ⟨_,rfl⟩⟩
theorem Wl {K:List Aj}(hK:K.Nodup):(Di K).length=K.length:=
 Nat.le_antisymm (DV (NN K).nodup fun s h=>Hu.1 h) (DV hK fun s h=>Hu.2 h)
theorem Qo:∀(n:Nat) (l:List Nat),l.Nodup->(∀b∈l,b<n)->l.length<=n:=by
 intro n
 induction n with
 |zero=>
  intro l _ h
  cases l with
  |nil=>exact Nat.le_refl _
  |cons a l=>have:=h a (by simp); omega
 |succ n ih=>
  intro l hl h
  have h1:=ih (l.erase n) (hl.erase n) fun b hb=>by
   have h2:=h b (List.mem_of_mem_erase hb)
   have h3:b≠n:=fun e=>by subst e; exact List.Nodup.not_mem_erase hl hb
   omega
  have:=List.length_erase (a:=n) (l:=l)
  rw[this] at h1
  split at h1 <;> omega
set_option maxHeartbeats 2000000 in
theorem Wj {F m c0:Nat}{K:List Aj}{S0:St}(hc0:S0.c<=c0)(hm:m<S0.c)(hlo:S0.lo<=S0.c)(hK:AA S0.h m=some (mapOf K))(hKl:K.length<=100){st:St}(A:Add S0 .AJ st .AJ [])(hi:AA st.h c0=some (.iter (some m) K.length [] K.length))(hc:c0<st.c)(ts0:TS)(z3:ts0.get 3=.AJ)(z6:ts0.get 6=.AO c0 0) :
 (CJ (Ar E (AU E F) C.f94L0) E.k ts0 st).all fun x=>x.1=.exit 0/\∃w L,x.2.1.get 3=w/\(∀id n q,w≠.AQ id 0 n (some q))/\Add S0 .AJ x.2.2 w L/\L.length=K.length/\∀s,s∈L↔s∈K:=by
 refine gN (fun (seen:List Nat) ts st=>seen.Nodup/\(∀b∈seen,b<K.length)/\ts.get 6=.AO c0 0/\c0<st.c/\AA st.h c0=some (.iter (some m) K.length seen K.length)/\∃w,ts.get 3=w/\Ah w≠some c0/\(∀id n q,w≠.AQ id 0 n (some q))/\Add S0 .AJ st w (seen.map fun b=>K.getD b []))
  (fun seen=>K.length-seen.length) (fun e ts st=>e=.exit 0/\∃w L,ts.get 3=w/\(∀id n q,w≠.AQ id 0 n (some q))/\Add S0 .AJ st w L/\L.length=K.length/\∀s,s∈L↔s∈K) ?_ _ [] _ _ ?_ ?_
 ·clear z3 z6 hi hc A
  rintro seen ts ⟨h,c,lo⟩ ⟨hN,hs,z6,hc,hi,w,z3,hwc,hwq,A⟩
  have hlen:seen.length<=K.length:=by
   exact Qo _ _ hN hs
  have hlo1:lo=S0.lo:=A.lo
  have hm':AA h m=some (mapOf K):=(A.fr m hm (by simp[Ah])).trans hK
  have hc':c0<c:=hc
  simp only[C.f94L0,Nh,Ph,kH,Ya,oU,gZ,dG,bQ,bR,z6,M.bind_assoc,M.CE,Nat.add_zero]
  rw[M.Jo]
  refine iq (K:=K) (seen:=seen) (by omega) hm' hi hN hs ?_ ?_
  ·intro hall
   simp[z3]
   refine⟨hwq,_,A,?_,fun s=>?_⟩
   ·rw[List.length_map]
    refine Nat.le_antisymm hlen ?_
    have:∀(n:Nat) (l:List Nat),(∀b,b<n->b∈l)->n<=l.length:=by
     intro n
     induction n with
     |zero=>intro l _; omega
     |succ n ih=>
      intro l h
      have h1:=h n (by omega)
      have h2:=ih (l.erase n) fun b hb=>(List.mem_erase_of_ne (by omega)).2 (h b (by omega))
      rw[List.length_erase_of_mem h1] at h2
      have:=List.length_pos_of_mem h1
      omega
    exact this _ _ hall
   ·rw[List.mem_map,Mo]
    exact⟨fun⟨b,h1,h2⟩=>⟨b,hs b h1,h2⟩,fun⟨b,h1,h2⟩=>⟨b,hall b h1,h2⟩⟩
  ·intro b hb hnb
   have A1:=A.hs (y:=.iter (some m) K.length (seen++[b]) K.length) hc0 hwc
   obtain⟨h1,hh1⟩:∃h1,h1=Ab h c0 (.iter (some m) K.length (seen++[b]) K.length):=⟨_,rfl⟩
   have hi1:AA h1 c0=some (.iter (some m) K.length (seen++[b]) K.length):=by rw[hh1,Ja rfl,hi]; rfl
   rw[← hh1] at A1
   have hm1:AA h1 m=some (mapOf K):=(A1.fr m hm (by simp[Ah])).trans hK
   have he:=fP (c:=c) (lo:=lo) hm1 hi1 hb
   have hl:(seen.map fun b=>K.getD b []).length<=1000:=by rw[List.length_map]; omega
   obtain⟨n1,h2,p1,A2⟩:=A1.nz.push (by show lo<=c; have:=A1.c; have:S0.c<=c:=this; omega) hl K[b]
   have hcc:S0.c<=c:=A1.c
   have hi2:AA h2 c0=some (.iter (some m) K.length (seen++[b]) K.length):=(A2.fr c0 hc' hwc).trans hi1
   rw[← hh1]
   have hN2:(seen++[b]).Nodup:=by
    rw[List.nodup_append]
    exact⟨hN,by simp,fun a ha b' hb' e=>by simp only[List.mem_singleton] at hb'; subst hb'; subst e; exact hnb ha⟩
   have hs2:∀x∈seen++[b],x<K.length:=fun x hx=>by
    rcases List.mem_append.1 hx with h|h
    ·exact hs x h
    ·simp only[List.mem_singleton] at h; subst h; exact hb
   have hlen2:=Qo _ _ hN2 hs2
   rw[List.length_append,List.length_singleton] at hlen2
   simp[-List.length_map,-List.getD_eq_getElem?_getD,z3,z6,he,YY,n1,p1]
   refine⟨seen++[b],by rw[List.length_append,List.length_singleton]; omega,hN2,hs2,by omega,hi2,fun e=>?_,?_⟩
   ·simp only[Ah,Option.some.injEq] at e; omega
   ·have e:(seen++[b]).map (fun b=>K.getD b [])=(seen.map fun b=>K.getD b [])++[K[b]]:=by simp[List.getD,hb]
    rw[e]; exact A1.trans A2
 ·show K.length-0<1000000; omega
 ·exact⟨by simp,by simp,z6,hc,hi,.AJ,z3,by simp[Ah],by simp,A⟩
theorem SI {k m:Nat}{K:List Aj}{st:St}(hm:m<st.c)(hf:AA st.h m=some (mapOf K))(hb:HB st)(hN:K.Nodup)(hKl:K.length<=12):AU E (k+6) 94 [.Bv m] st=.ret (Ia K,st):=by
 rw[ah (fn:=C.f94) rfl rfl rfl,Ad (by simp)]
 refine iM ?_
 obtain⟨h,c,lo⟩:=st
 have hb':∀p x,(p,x)∈h->p<c:=hb
 have hm':m<c:=hm
 have hf':AA h m=some (mapOf K):=hf
 have goal:((Ar E (AU E (k+5)) C.f94.body (TS.CY [.Bv m] 0 .nil) ⟨h,c,c⟩).bind (leave C.f94.results)).all fun x=>(K=[]/\x.1=.AJ)∨(K≠[]/\∃id,x.1=.AQ id 0 K.length none/\c<=id/\AA x.2.h id=some (.cells 9 1 (strs (Di K)) true)):=by
  have hr:Hr c (.Bv m) ⟨h,c+1,c⟩=some (.AO c 0,⟨(c,.iter (some m) K.length [] K.length)::h,c+1,c⟩):=by
   simp only[mapOf] at hf'
   simp only[Hr,hf',Ac hb',Vh]
  have A0:Add ⟨h,c,c⟩ .AJ ⟨(c,.iter (some m) K.length [] K.length)::h,c+1,c⟩ .AJ []:=⟨Nat.le_succ c,rfl,Fb (by rw[Bn]; exact⟨by omega,by have:=VF.2 hb'; omega⟩),.nl,(fun p hp=>by cases hp),fun p hp _=>Bg (by have:p<c:=hp; omega)⟩
  simp only[C.f94,Nh,Ph,kH,Ya,gZ,Yw,bQ,mW,bR,M.bind_assoc,M.CE,Nat.add_zero,XA,Zb,Yi,aa]
  simp[hr]
  rw[M.Jo]
  refine M.Jn (Wj (F:=k+5) (c0:=c) (Nat.le_refl c) hm' (Nat.le_refl c) hf' (by omega) A0 (Ce rfl) (Nat.lt_succ_self c) _ (by simp) (by simp)) fun x hx=>?_
  obtain⟨e,ts1,st1⟩:=x
  obtain⟨ee,w,L,z3,hwq,A,hl,hmem⟩:=hx
  simp only at ee z3 A
  subst ee
  have hS:=A.sl
  cases hS with
  |nl=>
   have:K=[]:=List.eq_nil_of_length_eq_zero (by rw[← hl]; rfl)
   simp[z3,iL,leave,results,AY,this]
  |ob id _ h0 hfi=>
   have ow:=A.own id rfl
   have hlc:st1.lo=c:=A.lo
   have hcle:c<=id:=ow.2.2.resolve_left (by simp[Ah])
   obtain⟨⟨v1,st2⟩,s1,L',s2,s3⟩:=WW (k:=k) (cap:=none) (L:=L) hfi (by omega) (by omega)
   have hL':=s2.len
   have e:L'=Di K:=iJ hN (fun s=>(s2.mem s).trans (hmem s)) (by omega) (by rw[hL']; exact s3)
   have hne:K≠[]:=fun e=>by subst e; exact h0 (List.eq_nil_of_length_eq_zero hl)
   have hat:=s2.at_
   rw[e] at hat
   simp[z3,s1,leave,results,AY,hne]
   exact⟨id,⟨rfl,hl⟩,hcle,hat⟩
  |lit id _ h0 hfi=>
   exact absurd rfl (hwq _ _ _)
 rw[M.Jo]
 refine M.Jn goal fun x hx=>?_
 obtain⟨w,st'⟩:=x
 rcases hx with⟨e1,e2⟩|⟨e1,id,e2,e3,e4⟩
 ·simp only at e2; subst e2
  have h64:Bp c st'.h 64 .AJ=some .AJ:=Fe (n:=63) rfl
  simp[BA,Bu,h64,Ia,e1]
 ·simp only at e2 e4; subst e2
  have hl:(strs (Di K)).length=K.length:=by rw[DZ,Wl hN]
  have ht:CP (Am.Bp c st'.h 63) (((strs (Di K)).drop 0).take (K.length*1))=some (strs (Di K)):=by
   rw[List.drop_zero,Nat.mul_one,← hl,List.take_length]; exact DY (n:=62) (Dq c _)
  have:=FN (c:=c) (n:=63) (off:=0) (cap:=none) e3 e4 (by omega) (by omega) ht
  simp only[BA,Bu,this]
  rw[← hl,IZ]
  simp[Ia,e1]
theorem Xv {k f:Nat}{w:AV}{r:List Aj}{a b:List AV}{st:St}{p:Aj->Bool}(hw:Reads ((st.c,.cells 51 1 [.fn (.func f) a b] false)::st.h) w r)(hrl:r.length<=1000)(hb:HB st)(H:FB k f a b st p) :
 AU E (k+4) 74 [w,.fn (.func f) a b] st=.ret (.bool (r.all p),st):=by
 rw[BS (fn:=C.f74) rfl rfl rfl,Ad (by simp)]
 have hb':∀p x,(p,x)∈st.h->p<st.c:=hb
 obtain⟨S,hS⟩:∃S:St,S=⟨(st.c,.cells 51 1 [.fn (.func f) a b] false)::st.h,st.c+1,st.c⟩:=⟨_,rfl⟩
 have n1:newObj st.c (.cells 51 1 [.fn (.func f) a b] false) ⟨st.h,st.c+1,st.c⟩=some S:=by rw[hS]; exact Ac hb'
 have E1:Df st S:=by rw[hS]; exact Df.cons (Df.refl hb) (by omega)
 have hN:FB (k+1) 138 [] [.AO st.c 0] S fun x=>!p x:=Ow (fn:=C.f138) rfl rfl rfl rfl rfl (H.mono E1) (by rw[hS]; show st.c<st.c+1; omega) (by rw[hS]; show AA ((st.c,_)::_) _=_; rw[AL,if_pos rfl])
 have hSh:S.h=(st.c,.cells 51 1 [.fn (.func f) a b] false)::st.h:=by rw[hS]
 have hc:=Hf (k:=k+1) (n:=r.length) (fc:=138) (w:=w) (a:=[]) (b:=[.AO st.c 0]) (el:=fun j=>r.getD j []) (p:=fun j=>!p (r.getD j [])) (st:=S)
  hw.len (by omega) (fun i hi=>by
   obtain⟨q,a1,b1⟩:=hw.at_ i hi S hSh
   exact⟨q,a1,by rw[hSh,b1]; simp[List.getD,hi]⟩) (fun i hi=>hN S _ (Df.refl E1.hb))
 have e:decide (∃i,i<r.length/\(!p (r.getD i []))=true)=!r.all p:=by
  rw[Bool.eq_iff_iff]
  simp only[decide_eq_true_eq,Bool.not_eq_true',List.all_eq_false]
  constructor
  ·rintro⟨i,hi,h⟩
   exact⟨r[i],List.getElem_mem hi,by simpa [List.getD,hi] using h⟩
  ·rintro⟨s,hs,h⟩
   obtain⟨i,hi,rfl⟩:=List.getElem_of_mem hs
   exact⟨i,hi,by simpa [List.getD,hi] using h⟩
 rw[e] at hc
 simp[C.f74,n1,hc,leave,results,AY]
set_option maxHeartbeats 1000000 in
theorem Oq {k:Nat}{v base:AV}{g:AX}{l:List Aj}{st:St}(hg:BP v g)(hs:g.Small)(hok:g.Ok)(hb:HB st)(hbase:∀h',(∀p,p<st.c->AA h' p=AA st.h p)->Reads h' base l)(hll:l.length<=100)(hls:∀s∈l,s∈g.kinds∨s∈g.CB) :
 ∃K b,AU E (k+22) 31 [v,base] st=.ret (.tuple [Ia K,.bool b],st)/\K.Nodup/\(∀x,x∈K↔MK g x l)/\(b=true↔∀y∈l,Im g y):=by
 have hg':=hg
 obtain⟨kv,rv,lv,rfl,hk,hr,hrs⟩:=hg'
 rw[BS (fn:=C.f31) rfl rfl rfl,Ad (by simp)]
 obtain⟨h,c,lo⟩:=st
 have tp:top h<=c:=HB.top hb
 have n1:newObj c (.cells 29 3 [kv,.str g.start,rv] false) ⟨h,c+1,c⟩=some ⟨(c,.cells 29 3 [kv,.str g.start,rv] false)::h,c+1,c⟩:=Br tp
 obtain⟨h1,hh1⟩:∃h1:Af,h1=(c,Ai.cells 29 3 [kv,.str g.start,rv] false)::h:=⟨_,rfl⟩
 have tp1:top h1<=c+1:=by rw[hh1,Bn]; omega
 have n2:newObj (c+1) (.map [] [] [] 0) ⟨h1,c+2,c⟩=some ⟨(c+1,.map [] [] [] 0)::h1,c+2,c⟩:=Br tp1
 obtain⟨h2,hh2⟩:∃h2:Af,h2=(c+1,Ai.map [] [] [] 0)::h1:=⟨_,rfl⟩
 have tp2:top h2<=c+2:=by rw[hh2,Bn]; omega
 have n3:newObj (c+2) (.cells 26 1 [.AJ] false) ⟨h2,c+3,c⟩=some ⟨(c+2,.cells 26 1 [.AJ] false)::h2,c+3,c⟩:=Br tp2
 obtain⟨h3,hh3⟩:∃h3:Af,h3=(c+2,Ai.cells 26 1 [.AJ] false)::h2:=⟨_,rfl⟩
 have tp3:top h3<=c+3:=by rw[hh3,Bn]; omega
 rw[← hh1] at n1
 rw[← hh2] at n2
 rw[← hh3] at n3
 have f0:AA h3 c=some (.cells 29 3 [kv,.str g.start,rv] false):=by rw[hh3,Bg (by omega),hh2,Bg (by omega),hh1,Ce rfl]
 have fm:AA h3 (c+1)=some (mapOf []):=by rw[hh3,Bg (by omega),hh2,Ce rfl]; rfl
 have fq:AA h3 (c+2)=some (.cells 26 1 [.AJ] false):=by rw[hh3,Ce rfl]
 have old3:∀p,p<c->AA h3 p=AA h p:=fun p hp=>by rw[hh3,Bg (by omega),hh2,Bg (by omega),hh1,Bg (by omega)]
 have B0:BT (c+2) (c+1) ⟨h3,c+3,c⟩ [] []:=⟨tp3,by show c<=c+3; omega,by show c+2<c+3; omega,by show c+1<c+3; omega,by show c<=c+2; omega,by show c<=c+1; omega,⟨_,fq,.nl⟩,(fun p hp=>by
  have:KQ (AA h3 (c+2))=some p:=hp
  rw[fq] at this; cases this),fm,List.nodup_nil⟩
 have hF:∀b,BF (c+2) (c+1) ⟨h3,c+3,c⟩ b->∀p,p<c+1->AA b.h p=AA h3 p:=fun b F p hp=>F.fr p (by show p<c+3; omega) (by omega) (by omega) (by show KQ (AA h3 (c+2))≠_; rw[fq]; simp[Ah])
 have r0:AZ h3 (.AO c 0) 3=some [kv,.str g.start,rv]:=Ae f0 rfl
 have hlefts:=g.Fj
 have hmany:=hs.many
 obtain⟨⟨w,st4⟩,e1,e2,O',K',B1,F1,W,hN',hS'⟩:=aV hg hs hok (c+2) (c+1) 12 k ⟨h3,c+3,c⟩ base l [] [] B0 (fun b F=>hbase b.h fun p hp=>(hF b F p (by have:p<c:=hp; omega)).trans (old3 p hp)) hll hls (by simp) (by simp) (by simp; omega)
 simp only at e2 B1 F1
 subst e2
 obtain⟨h4,c4,lo4⟩:=st4
 have hlo4:lo4=c:=F1.lo
 subst hlo4
 have hc4:lo4+3<=c4:=F1.c
 have hK:=W.all hok
 have hKN:=B1.kn
 have hKl:K'.length<=12:=by
  have:=DV hKN fun s h=>((hK s).1 h).kinds
  have:=hs.kinds
  omega
 have hb4:HB ⟨h4,c4,lo4⟩:=Fb B1.tp
 have rs:=SI (k:=k+15) (st:=⟨h4,c4,lo4⟩) (by show lo4+1<c4; omega) B1.map hb4 hKN hKl
 have f04:AA h4 lo4=some (.cells 29 3 [kv,.str g.start,rv] false):=(hF _ F1 lo4 (by omega)).trans f0
 have r04:AZ h4 (.AO lo4 0) 3=some [kv,.str g.start,rv]:=Ae f04 rfl
 obtain⟨N,m1,m2⟩:=Qz (k:=k+13) (st:=⟨h4,c4,lo4⟩) hg hs
 have ev:=Xv (k:=k+17) (w:=base) (r:=l) (st:=⟨h4,c4,lo4⟩) (hbase _ fun p hp=>by
  have hp':p<lo4:=hp
  show AA ((c4,_)::h4) p=_
  rw[Bg (by omega)]; exact (hF _ F1 p (by omega)).trans (old3 p hp')) (by omega) hb4 (Vf (k:=k+16) (K:=N) (st0:=⟨h4,c4,lo4⟩))
 refine⟨K',l.all fun x=>decide (x∈N),?_,hKN,hK,?_⟩
 ·simp[-List.all_eq_true,C.f31,n1,n2,n3,r0,e1,De,Dx,Cf,CV,Cv,beq_eq,AV.Cx,rs,r04,m1,ev,leave,results,AY]
  exact Ca (by simp[AV.CL,AV.Bw,(Ky K').Gi])
 ·rw[List.all_eq_true]
  simp only[decide_eq_true_eq,m2]
end Go.Am
