/- A part of the proof of beginningsTold (merged by a program). -/
import Derived.Test.YtehhlchbbdaipaaGreatDoorB3
namespace Go.Am
open Go
inductive KO (g:AX) (s:Aj):Aj->Prop
 |base:KO g s s
 |up {r:Ba} {a b:List Aj} {x:Aj} (h:KO g s x) (hr:r∈g.rules) (hR:Reach g r.left) (e:r.right=a++x::b) (hb:∀y∈b,Im g y):KO g s r.left
def au (g:AX)(s k:Aj):Prop:=∃t r a b,KO g s t/\r∈g.rules/\Reach g r.left/\r.right=a++t::b/\MK g k b
theorem RA {g:AX}{s t u:Aj}(h:KO g s t)(k:KO g t u):KO g s u:=by
 induction k with
 |base=>exact h
 |up _ hr hR e hb ih=>exact .up ih hr hR e hb
theorem Zl {g:AX}{s:Aj}:Pp g s↔KO g s g.start:=by
 constructor
 ·intro h
  induction h with
  |start=>exact .base
  |up hr hR e hb _ ih=>exact RA (.up .base hr hR e hb) ih
 ·intro h
  have key:∀t,KO g s t->Pp g t->Pp g s:=by
   intro t ht
   induction ht with
   |base=>exact id
   |up _ hr hR e hb ih=>exact fun h=>ih (.up hr hR e hb h)
  exact key _ h .start
theorem bO {g:AX}{s k:Aj}:Mc g k s↔au g s k:=by
 constructor
 ·intro h
  induction h with
  |here hr hR e h=>exact⟨_,_,_,_,.base,hr,hR,e,h⟩
  |up hr hR e hb _ ih=>
   obtain⟨t,r,a,b,h1,h2⟩:=ih
   exact⟨t,r,a,b,RA (.up .base hr hR e hb) h1,h2⟩
 ·rintro⟨t,r,a,b,h1,hr,hR,e,h⟩
  have key:∀t,KO g s t->Mc g k t->Mc g k s:=by
   intro t ht
   induction ht with
   |base=>exact id
   |up _ hr hR e hb ih=>exact fun h=>ih (.up hr hR e hb h)
  exact key _ h1 (.here hr hR e h)
def dC (g:AX)(T K:List Aj)(t:Aj)(r:Ba)(n:Nat):Prop:=∀a b,r.right=a++t::b->a.length<n->(∀x,MK g x b->x∈K)/\((∀y∈b,Im g y)->r.left∈T)
theorem dC.mono {g:AX}{T K T' K':List Aj}{t:Aj}{r:Ba}{n:Nat}(h:dC g T K t r n)(hT:∀s∈T,s∈T')(hK:∀s∈K,s∈K'):dC g T' K' t r n:=
 fun a b e hn=>⟨fun x hx=>hK x ((h a b e hn).1 x hx),fun hb=>hT _ ((h a b e hn).2 hb)⟩
theorem dC.next {g:AX}{T K:List Aj}{t:Aj}{r:Ba}{n:Nat}(h:dC g T K t r n)(hn:n<r.right.length)(k:r.right[n]=t->(∀x,MK g x (r.right.drop (n+1))->x∈K)/\((∀y∈r.right.drop (n+1),Im g y)->r.left∈T)):dC g T K t r (n+1):=by
 intro a b e ha
 rcases Nat.lt_or_ge a.length n with h1|h1
 ·exact h a b e h1
 ·have:a.length=n:=by omega
  subst this
  have h2:=JO e hn
  have h3:r.right.drop (a.length+1)=b:=by rw[e]; simp
  have:=k h2
  rwa [h3] at this
structure ax (g:AX)(s:Aj)(T K:List Aj):Prop where
 t:∀t∈T,KO g s t
 k:∀x∈K,au g s x
theorem jf {g:AX}{s:Aj}{T K:List Aj}(H:ax g s T K)(hs:s∈T)(hall:∀q (hq:q<T.length),∀r∈g.rules,Reach g r.left->dC g T K T[q] r r.right.length):(∀t,t∈T↔KO g s t)/\∀x,x∈K↔Mc g x s:=by
 have hT:∀t,KO g s t->t∈T:=by
  intro t ht
  induction ht with
  |base=>exact hs
  |up _ hr hR e hb ih=>
   obtain⟨q,hq,e2⟩:=List.getElem_of_mem ih
   subst e2
   exact (hall q hq _ hr hR _ _ e (by rw[e]; simp)).2 hb
 refine⟨fun t=>⟨H.t t,hT t⟩,fun x=>⟨fun h=>bO.2 (H.k x h),fun h=>?_⟩⟩
 obtain⟨t,r,a,b,h1,hr,hR,e,h⟩:=bO.1 h
 obtain⟨q,hq,e2⟩:=List.getElem_of_mem (hT t h1)
 subst e2
 exact (hall q hq r hr hR a b e (by rw[e]; simp)).1 x h
theorem jZ {ts:TS}{i:Nat}{v:AV}{Ls:List (Nat × AV)}(hi:i<65535)(h:∀p∈Ls,i≠p.1):Has (ts.set i v) Ls=Has ts Ls:=by
 induction Ls with
 |nil=>rfl
 |cons p l ih=>
  obtain⟨j,w⟩:=p
  have hj:=h (j,w) (by simp)
  simp only[Bi,TS.TC _ _ _ _ hi,if_neg hj,ih fun p hp=>h p (List.mem_cons_of_mem _ hp)]
structure FT (cs:List AV)(st:St)(w:AV)(T K:List Aj):Prop where
 tp:top st.h<=st.c
 lo:st.lo=0
 c3:2<=st.c
 sl:La st.h w T
 own:∀p,Ah w=some p->2<=p/\p<st.c
 map:AA st.h 1=some (mapOf K)
 kn:K.Nodup
 g0:AA st.h 0=some (.cells 29 3 cs false)
structure FF (a:St)(wa:AV)(b:St)(wb:AV):Prop where
 c:a.c<=b.c
 fr:∀p,p<a.c->p≠1->Ah wa≠some p->AA b.h p=AA a.h p
 own:∀p,Ah wb=some p->Ah wa=some p∨a.c<=p
theorem FF.refl {a:St}{w:AV}:FF a w a w:=⟨Nat.le_refl _,fun _ _ _ _=>rfl,fun _ h=>.inl h⟩
theorem FF.trans {a b c:St}{wa wb wc:AV}(h:FF a wa b wb)(k:FF b wb c wc):FF a wa c wc where
 c:=Nat.le_trans h.c k.c
 fr:=fun p hp h1 h3=>(k.fr p (Nat.lt_of_lt_of_le hp h.c) h1 fun e=>(h.own p e).elim h3 fun e=>by omega).trans (h.fr p hp h1 h3)
 own:=fun p hp=>(k.own p hp).elim (fun e=>h.own p e) fun e=>.inr (Nat.le_trans h.c e)
theorem FT.box {cs:List AV}{h:Af}{c lo:Nat}{w:AV}{T K:List Aj}(H:FT cs ⟨h,c,lo⟩ w T K)(x:Ai):FT cs ⟨(c,x)::h,c+1,lo⟩ w T K/\FF ⟨h,c,lo⟩ w ⟨(c,x)::h,c+1,lo⟩ w:=by
 have tp:top h<=c:=H.tp
 have c3:2<=c:=H.c3
 have ow:∀p,Ah w=some p->2<=p/\p<c:=H.own
 exact⟨⟨by show top ((c,x)::h)<=c+1; rw[Bn]; omega,H.lo,by show 2<=c+1; omega,H.sl.heap fun o ho=>Bg (by have:=ow o ho; omega),fun p hp=>by have:=ow p hp; exact⟨this.1,by show p<c+1; omega⟩,(Bg (by omega)).trans H.map,H.kn,(Bg (by omega)).trans H.g0⟩,⟨Nat.le_succ c,fun p hp _ _=>Bg (by have:p<c:=hp; omega),fun p hp=>.inl hp⟩⟩
theorem FT.put {cs:List AV}{h:Af}{c lo:Nat}{w:AV}{T K:List Aj}(H:FT cs ⟨h,c,lo⟩ w T K)(x:Aj):FT cs ⟨Ab h 1 (mapOf (MV x K)),c,lo⟩ w T (MV x K)/\FF ⟨h,c,lo⟩ w ⟨Ab h 1 (mapOf (MV x K)),c,lo⟩ w:=by
 have ow:∀p,Ah w=some p->2<=p/\p<c:=H.own
 have hm:AA h 1=some (mapOf K):=H.map
 exact⟨⟨by show top (Ab _ _ _)<=c; rw[Fx]; exact H.tp,H.lo,H.c3,H.sl.heap fun o ho=>GQ (by have:=ow o ho; omega),ow,by show AA (Ab _ _ _) 1=_; rw[Ja rfl,hm]; rfl,Sc H.kn,(GQ (by omega)).trans H.g0⟩,⟨Nat.le_refl c,fun p hp h1 _=>GQ (Ne.symm h1),fun p hp=>.inl hp⟩⟩
theorem FT.push {cs:List AV}{h:Af}{c lo:Nat}{w:AV}{T K:List Aj}(H:FT cs ⟨h,c,lo⟩ w T K)(hl:T.length<=1000)(x:Aj) :
 ∃h2,newObj c (.cells 9 1 [.str x] false) ⟨h,c+2,lo⟩=some ⟨(c,.cells 9 1 [.str x] false)::h,c+2,lo⟩ /\
  BU (c+1) 9 1 16 w (.AQ c 0 1 (some 1)) ⟨(c,.cells 9 1 [.str x] false)::h,c+2,lo⟩=some (.AQ (c+1) 0 (T.length+1) none,⟨h2,c+2,lo⟩) /\
  FT cs ⟨h2,c+2,lo⟩ (.AQ (c+1) 0 (T.length+1) none) (T++[x]) K/\FF ⟨h,c,lo⟩ w ⟨h2,c+2,lo⟩ (.AQ (c+1) 0 (T.length+1) none):=by
 have tp:top h<=c:=H.tp
 have c3:2<=c:=H.c3
 have hlo:lo=0:=H.lo
 have ow:∀p,Ah w=some p->2<=p/\p<c:=H.own
 obtain⟨h2,p1,p2,p3,p4⟩:=bC (lo:=lo) x (Fb tp) H.sl (fun p hp=>by have:=ow p hp; omega) hl
 have S2:La h2 (.AQ (c+1) 0 (T.length+1) none) (T++[x]):=by
  have:=La.ob (h:=h2) (c+1) (T++[x]) (by simp) p3
  rwa [List.length_append] at this
 refine⟨h2,Br tp,p1,⟨HB.top p2,hlo,by show 2<=c+2; omega,S2,(fun p hp=>by cases hp; exact⟨by omega,by show c+1<c+2; omega⟩),(p4 1 (by omega) fun e=>by have:=ow 1 e; omega).trans H.map,H.kn,(p4 0 (by omega) fun e=>by have:=ow 0 e; omega).trans H.g0⟩,⟨by show c<=c+2; omega,fun p hp _ h3=>p4 p hp h3,(fun p hp=>by cases hp; exact .inr (by show c<=c+1; omega))⟩⟩
set_option maxHeartbeats 1000000 in
theorem mU {F:Nat}{cs:List AV}{w lv:AV}{L T K:List Aj}(hl:BI lv 1 (strs L))(hL:L.length<=1000)(Ls:List (Nat × AV))(hLs:∀p∈Ls,p.1<78/\p.1≠18){st:St}(H:FT cs st w T K)(ts0:TS)(hts:Has ts0 Ls)(z7:ts0.get 7=.Bv 1)(z78:ts0.get 78=lv)(z79:ts0.get 79=.int .i64 (L.length:Int))(z80:ts0.get 80=.int .i64 ((0:Nat):Int)) :
 (CJ (Ar E (AU E F) C.f32L3) E.k ts0 st).to fun x=>x.1=.exit 6/\Has x.2.1 Ls/\x.2.1.get 7=.Bv 1/\∃K',FT cs x.2.2 w T K'/\FF st w x.2.2 w/\∀s,s∈K'↔s∈K∨s∈L:=by
 have hk:∀(ts:TS) (i:Nat) (v:AV),(78<=i∨i=18)->i<65535->Has (ts.set i v) Ls=Has ts Ls:=fun ts i v h h'=>jZ h' fun p hp=>by have:=hLs p hp; omega
 refine Be (fun (i:Nat) ts st'=>i<=L.length/\Has ts Ls/\ts.get 7=.Bv 1/\ts.get 78=lv/\ts.get 79=.int .i64 (L.length:Int)/\ts.get 80=.int .i64 (i:Int)/\∃K',FT cs st' w T K'/\FF st w st' w/\∀s,s∈K'↔s∈K∨s∈L.take i)
  (fun i=>L.length-i) ?_ _ 0 _ _ ?_ ?_
 ·rintro i ts st' ⟨hi,hts,z7,z78,z79,z80,K',H',Fr,hm⟩
  by_cases Au:i<L.length
  ·obtain⟨h,c,lo⟩:=st'
   have hix:Aa 1 lv (.int .i64 (i:Int)) ⟨h,c,lo⟩=some (.BC [.str L[i]],⟨h,c,lo⟩):=hl.JY Au
   have hlo:lo=0:=H'.lo
   have pm:=bH (c:=c) (lo:=lo) H'.map (by omega) L[i]
   obtain⟨H2,F2⟩:=H'.put L[i]
   have pm':Cg (.one .str) (.Bv 1) (.str L[i]) (.bool true) ⟨h,c,lo⟩=some (.undef,⟨Ab h 1 (mapOf (MV L[i] K')),c,lo⟩):=pm
   simp[C.f32L3,hk,hts,z7,z78,z79,z80,Au,hix,pm',wi i]
   refine⟨i+1,by omega,by omega,by simp,_,H2,Fr.trans F2,fun s=>?_⟩
   rw[XH,hm,List.take_succ_eq_append_getElem Au,List.mem_append,List.mem_singleton]
   constructor
   ·rintro (h|h|h)
    ·exact .inr (.inr h)
    ·exact .inl h
    ·exact .inr (.inl h)
   ·rintro (h|h|h)
    ·exact .inr (.inl h)
    ·exact .inr (.inr h)
    ·exact .inl h
  ·have:i=L.length:=by omega
   subst this
   rw[List.take_length] at hm
   simp[C.f32L3,hk,hts,z7,z78,z79,z80]
   exact⟨K',H',Fr,hm⟩
 ·show L.length-0<1000000; omega
 ·exact⟨by omega,hts,z7,z78,z79,z80,K,H,.refl,by simp⟩
def IA (hv e w:AV)(i:Nat)(rv:AV)(n j c12:Nat)(rw':AV)(rn:Nat):List (Nat × AV):=[(2,.AO 0 0),(6,hv),(8,e),(9,w),(10,.int .i64 (i:Int)),(12,.AO c12 0),(43,rv),(44,.int .i64 (n:Int)),(45,.int .i64 (j:Int)),(55,rw'),(56,.int .i64 (rn:Int))]
set_option maxHeartbeats 4000000 in
theorem fJ {k:Nat}{g:AX}{kv rv hv e:AV}{lv:List AV}(hk:BI kv 1 (strs g.kinds))(hr:BI rv 3 lv)(hrs:Bt lv g.rules)(hs:g.Small)(hok:g.Ok){sym:Aj}{i j c12:Nat}{r:Ba}(hrm:r∈g.rules)(hR:Reach g r.left){rw':AV}(hrw:BI rw' 1 (strs r.right)){t:Aj}{w:AV}{T K:List Aj}{S0:St}(hc12:c12<S0.c)(h1:c12≠1)(hw12:Ah w≠some c12)(f12:AA S0.h c12=some (.cells 68 3 [.str r.left,rw',.int .i64 r.level] false))(hti:∀h:i<T.length,T[i]=t)(hiT:i<T.length)(hcl:KO g sym t)(H:FT [kv,.str g.start,rv] S0 w T K)(hS:ax g sym T K)(hN:T.Nodup)(hTl:∀s∈T,s∈g.CB)(ts0:TS)(hts:Has ts0 (IA hv e w i rv g.rules.length j c12 rw' r.right.length))(z7:ts0.get 7=.Bv 1)(z57:ts0.get 57=.int .i64 ((0:Nat):Int)) :
 (CJ (Ar E (AU E (k+22)) C.f32L2) E.k ts0 S0).to fun x=>x.1=.exit 4/\∃w' T' K',Has x.2.1 (IA hv e w' i rv g.rules.length j c12 rw' r.right.length)/\x.2.1.get 7=.Bv 1/\FT [kv,.str g.start,rv] x.2.2 w' T' K'/\FF S0 w x.2.2 w'/\ax g sym T' K'/\T'.Nodup/\(∀s∈T',s∈g.CB)/\(∃X,T'=T++X)/\(∀s∈K,s∈K')/\dC g T' K' t r r.right.length:=by
 have hG:BP (.agg [kv,.str g.start,rv]) g:=⟨kv,rv,lv,rfl,hk,hr,hrs⟩
 have hsr:=(hs.rules _ hrm).right
 have hlefts:=g.Fj
 have hmany:=hs.many
 refine Be (fun (n:Nat) ts st=>n<=r.right.length/\ts.get 57=.int .i64 (n:Int)/\∃w' T' K',Has ts (IA hv e w' i rv g.rules.length j c12 rw' r.right.length)/\ts.get 7=.Bv 1/\FT [kv,.str g.start,rv] st w' T' K'/\FF S0 w st w'/\ax g sym T' K'/\T'.Nodup/\(∀s∈T',s∈g.CB)/\(∃X,T'=T++X)/\(∀s∈K,s∈K')/\dC g T' K' t r n)
  (fun n=>r.right.length-n) ?_ _ 0 _ _ ?_ ?_
 ·clear hts z7 z57 H hS hN hTl
  rintro n ts st ⟨hn,z57,w',T',K',hts,z7,H,Fr,hS,hN,hTl,⟨X,hX⟩,hKK,hD⟩
  simp only[IA,Bi,CR,and_true] at hts
  obtain⟨z2,z6,z8,z9,z10,z12,z43,z44,z45,z55,z56⟩:=hts
  by_cases Au:n<r.right.length
  ·obtain⟨h,c,lo⟩:=st
   have tp:top h<=c:=H.tp
   have hb:HB ⟨h,c,lo⟩:=Fb tp
   have hx:Aa 1 rw' (.int .i64 (n:Int)) ⟨h,c,lo⟩=some (.BC [.str r.right[n]],⟨h,c,lo⟩):=hrw.JY Au
   have hiT':i<T'.length:=by rw[hX,List.length_append]; omega
   have hti':T'[i]=t:=by
    have:=hti hiT
    simp only[hX]
    rw[List.getElem_append_left hiT]; exact this
   obtain⟨p,a1,b1⟩:=H.sl.reads.at_ i hiT' ⟨h,c,lo⟩ rfl
   rw[hti'] at b1
   have b1':AP h p=some (.str t):=b1
   have g0:AA h 0=some (.cells 29 3 [kv,.str g.start,rv] false):=H.g0
   have r0:AZ h (.AO 0 0) 3=some [kv,.str g.start,rv]:=Ae g0 rfl
   have f12':AA h c12=some (.cells 68 3 [.str r.left,rw',.int .i64 r.level] false):=(Fr.fr c12 hc12 h1 hw12).trans f12
   have r120:AP h (.AO c12 0)=some (.str r.left):=by rw[AB f12']; rfl
   have r121:AP h (.AO c12 1)=some rw':=by rw[AB f12']; rfl
   by_cases he:r.right[n]=t
   ·have heb:(r.right[n]==t)=true:=by simp[he]
    obtain⟨sv,s1,s2⟩:=hrw.from_ (st:=⟨h,c,lo⟩) (i:=n+1) (by simp; omega)
    have s2':BI sv 1 (strs (r.right.drop (n+1))):=by simpa [strs,List.map_drop] using s2
    have s1':CF 1 true false false [rw',.int .i64 ((n:Int)+1)] ⟨h,c,lo⟩=some (sv,⟨h,c,lo⟩):=by simpa using s1
    obtain⟨K1,b,e1,e2,e3,e4⟩:=Oq (k:=k) (base:=sv) (l:=r.right.drop (n+1)) (st:=⟨h,c,lo⟩) hG hs hok hb (fun _ _=>Reads.OI s2') (by rw[List.length_drop]; omega) (fun s hs'=>hok.syms r hrm s (List.mem_of_mem_drop hs'))
    have hlr:∀S':St,BO .slice (Ia K1) S'=some (.int .i64 ((Di K1).length:Int),S'):=fun S'=>by have:=(Ky K1).len (st:=S'); simpa using this
    have hKl:(Di K1).length<=1000:=by
     have:=DV e2 fun s h=>((e3 s).1 h).kinds
     have:=hs.kinds
     rw[Wl e2]; omega
    have hsplit:r.right=r.right.take n++t::r.right.drop (n+1):=by rw[← he,← List.drop_eq_getElem_cons Au,List.take_append_drop]
    have folb:∀x,MK g x (r.right.drop (n+1))->au g sym x:=fun x hx=>⟨t,r,_,_,hcl,hrm,hR,hsplit,hx⟩
    simp[C.f32L2,Az,Av,z2,z6,z7,z8,z9,z10,z12,z43,z44,z45,z55,z56,z57,Au,hx,a1,b1',heb,r0,r121,s1',e1,hlr,wi n]
    refine M.Al (mU (F:=k+22) (L:=Di K1) (Ky K1) hKl ((16,.bool b)::(57,.int .i64 (n:Int))::IA hv e w' i rv g.rules.length j c12 rw' r.right.length) (by simp[IA]) H _ (by simp[IA,z2,z6,z8,z9,z10,z12,z43,z44,z45,z55,z56,z57]) (by simp[z7]) (by simp) (by simp) (by simp)) fun x hx=>?_
    obtain⟨ex,ts2,st2⟩:=x
    obtain⟨ee,g1,g7,K2,H2,F2,hm2⟩:=hx
    simp only at ee g1 g7 H2 F2
    subst ee
    simp only[IA,Bi,CR,and_true] at g1
    obtain⟨g16,g57,g2,g6,g8,g9,g10,g12,g43,g44,g45,g55,g56⟩:=g1
    obtain⟨hh2,c2,lo2⟩:=st2
    have F2':=Fr.trans F2
    have f122:AA hh2 c12=some (.cells 68 3 [.str r.left,rw',.int .i64 r.level] false):=(F2'.fr c12 hc12 h1 hw12).trans f12
    have r1202:AP hh2 (.AO c12 0)=some (.str r.left):=by rw[AB f122]; rfl
    have hS2:ax g sym T' K2:=⟨hS.t,fun x hx=>((hm2 x).1 hx).elim (hS.k x) fun h=>folb x ((e3 x).1 (Hu.1 h))⟩
    have hK2:∀s∈K',s∈K2:=fun s h=>(hm2 s).2 (.inl h)
    have hB2:∀x,MK g x (r.right.drop (n+1))->x∈K2:=fun x h=>(hm2 x).2 (.inr (Hu.2 ((e3 x).2 h)))
    have hTl1:T'.length<=1000:=by have:=DV hN hTl; omega
    cases hb':b with
    |false=>
     rw[hb'] at g16
     have hnn:¬∀y∈r.right.drop (n+1),Im g y:=fun h=>by have:=e4.2 h; rw[hb'] at this; cases this
     simp[Az,Av,IA,g2,g6,g7,g8,g9,g10,g12,g16,g43,g44,g45,g55,g56,g57,wi n]
     exact⟨n+1,by omega,by omega,by simp,T',K2,H2,F2',hS2,hN,hTl,⟨X,hX⟩,fun s h=>hK2 s (hKK s h),(hD.mono (fun _ h=>h) hK2).next Au fun _=>⟨hB2,fun h=>absurd h hnn⟩⟩
    |true=>
     rw[hb'] at g16
     have hnn:∀y∈r.right.drop (n+1),Im g y:=e4.1 hb'
     have hcon:=Ii (k:=k+20) (x:=r.left) (st:=⟨hh2,c2,lo2⟩) H2.sl.reads (by omega)
     by_cases hin:r.left∈T'
     ·rw[decide_eq_true hin] at hcon
      simp[Az,Av,IA,g2,g6,g7,g8,g9,g10,g12,g16,g43,g44,g45,g55,g56,g57,r1202,hcon,wi n]
      exact⟨n+1,by omega,by omega,by simp,T',K2,H2,F2',hS2,hN,hTl,⟨X,hX⟩,fun s h=>hK2 s (hKK s h),(hD.mono (fun _ h=>h) hK2).next Au fun _=>⟨hB2,fun _=>hin⟩⟩
     ·rw[decide_eq_false hin] at hcon
      obtain⟨h3,p1,p2,H3,F3⟩:=H2.push hTl1 r.left
      simp[Az,Av,IA,g2,g6,g7,g8,g9,g10,g12,g16,g43,g44,g45,g55,g56,g57,r1202,hcon,YY,p1,p2,wi n]
      refine⟨n+1,by omega,by omega,by simp,T'++[r.left],K2,H3,F2'.trans F3,⟨fun s h=>?_,hS2.k⟩,?_,fun s h=>?_,⟨X++[r.left],by rw[hX,List.append_assoc]⟩,fun s h=>hK2 s (hKK s h),(hD.mono (fun _ h=>List.mem_append.2 (.inl h)) hK2).next Au fun _=>⟨hB2,fun _=>by simp⟩⟩
      ·rcases List.mem_append.1 h with h|h
       ·exact hS.t s h
       ·simp only[List.mem_singleton] at h; subst h; exact .up hcl hrm hR hsplit hnn
      ·rw[List.nodup_append]
       exact⟨hN,by simp,fun a ha b hb e=>by simp only[List.mem_singleton] at hb; subst hb; subst e; exact hin ha⟩
      ·rcases List.mem_append.1 h with h|h
       ·exact hTl s h
       ·simp only[List.mem_singleton] at h; subst h; exact AX.Mq hrm
   ·have heb:(r.right[n]==t)=false:=beq_false_of_ne he
    simp[C.f32L2,IA,z2,z6,z7,z8,z9,z10,z12,z43,z44,z45,z55,z56,z57,Au,hx,a1,b1',heb,wi n]
    exact⟨n+1,by omega,by omega,by simp,T',K',H,Fr,hS,hN,hTl,⟨X,hX⟩,hKK,hD.next Au fun h=>absurd h he⟩
  ·have:n=r.right.length:=by omega
   subst this
   simp[C.f32L2,IA,z2,z6,z7,z8,z9,z10,z12,z43,z44,z45,z55,z56,z57]
   exact⟨T',K',H,Fr,hS,hN,hTl,⟨X,hX⟩,hKK,hD⟩
 ·show r.right.length-0<1000000; omega
 ·exact⟨by omega,z57,w,T,K,hts,z7,H,.refl,hS,hN,hTl,⟨[],by simp⟩,fun _ h=>h,fun a b _ h=>by omega⟩
def Fp (hv e:AV)(i:Nat):List (Nat × AV):=[(2,.AO 0 0),(6,hv),(7,.Bv 1),(8,e),(10,.int .i64 (i:Int))]
structure Yn (g:AX)(sym:Aj)(cs:List AV)(S0:St)(w:AV)(T K:List Aj)(st:St)(w':AV)(T' K':List Aj):Prop where
 ft:FT cs st w' T' K'
 ff:FF S0 w st w'
 snd:ax g sym T' K'
 nd:T'.Nodup
 sub:∀s∈T',s∈g.CB
 more:∃X,T'=T++X
 kk:∀s∈K,s∈K'
set_option maxHeartbeats 4000000 in
theorem fI {k:Nat}{g:AX}{kv rv hv e:AV}{lv:List AV}{Hl:List Aj}(hk:BI kv 1 (strs g.kinds))(hr:BI rv 3 lv)(hrs:Bt lv g.rules)(hs:g.Small)(hok:g.Ok)(hh:BI hv 1 (strs Hl))(hHl:Hl.length<=400)(hH:∀s,s∈Hl↔Reach g s){sym:Aj}{i:Nat}{t:Aj}{w:AV}{T K:List Aj}{S0:St}(hti:∀h:i<T.length,T[i]=t)(hiT:i<T.length)(hcl:KO g sym t)(H:FT [kv,.str g.start,rv] S0 w T K)(hS:ax g sym T K)(hN:T.Nodup)(hTl:∀s∈T,s∈g.CB)(ts0:TS)(hts:Has ts0 (Fp hv e i))(z9:ts0.get 9=w)(z43:ts0.get 43=rv)(z44:ts0.get 44=.int .i64 (g.rules.length:Int))(z45:ts0.get 45=.int .i64 ((0:Nat):Int)) :
 (CJ (Ar E (AU E (k+22)) C.f32L1) E.k ts0 S0).to fun x=>x.1=.exit 2/\Has x.2.1 (Fp hv e i)/\∃w' T' K',x.2.1.get 9=w'/\Yn g sym [kv,.str g.start,rv] S0 w T K x.2.2 w' T' K'/\∀r∈g.rules,Reach g r.left->dC g T' K' t r r.right.length:=by
 have hln:=hrs.length
 have hmany:=hs.many
 refine Be (fun (j:Nat) ts st=>j<=g.rules.length/\Has ts (Fp hv e i)/\ts.get 43=rv/\ts.get 44=.int .i64 (g.rules.length:Int)/\ts.get 45=.int .i64 (j:Int)/\∃w' T' K',ts.get 9=w'/\Yn g sym [kv,.str g.start,rv] S0 w T K st w' T' K'/\∀q (hq:q<g.rules.length),q<j->Reach g g.rules[q].left->dC g T' K' t g.rules[q] g.rules[q].right.length)
  (fun j=>g.rules.length-j) ?_ _ 0 _ _ ?_ ?_
 ·clear hts z9 z43 z44 z45
  rintro j ts st ⟨hj,hts,z43,z44,z45,w',T',K',z9,A,hall⟩
  simp only[Fp,Bi,CR,and_true] at hts
  obtain⟨z2,z6,z7,z8,z10⟩:=hts
  by_cases Au:j<g.rules.length
  ·have hjl:j<lv.length:=by omega
   obtain⟨w1,e1,e2⟩:=(hrs.get j Au).2
   have hmem:=List.getElem_mem Au
   obtain⟨h,c,lo⟩:=st
   have tp:top h<=c:=A.ft.tp
   have hlo:lo=0:=A.ft.lo
   have c3:2<=c:=A.ft.c3
   obtain⟨rc,hrc⟩:∃rc:List AV,rc=[.str g.rules[j].left,w1,.int .i64 g.rules[j].level]:=⟨_,rfl⟩
   obtain⟨H1,F1⟩:=A.ft.box (.cells 68 3 rc false)
   have hix:Aa 3 rv (.int .i64 (j:Int)) ⟨h,c+1,lo⟩=some (.BC lv[j].cells,⟨h,c+1,lo⟩):=hr.idx hjl
   have hcells:lv[j].cells=rc:=by rw[e1,hrc]; rfl
   rw[hcells] at hix
   have hn1:newObj c (.cells 68 3 [.str [],.AJ,.int .i64 0] false) ⟨h,c+1,lo⟩=some ⟨(c,.cells 68 3 [.str [],.AJ,.int .i64 0] false)::h,c+1,lo⟩:=Br tp
   have hst:=CO (h:=h) (c:=c) (c':=c+1) (lo:=lo) (ty:=68) (n:=3) (zs:=[.str [],.AJ,.int .i64 0]) (vs:=rc) (by omega) (by rw[hrc]; rfl) rfl
   obtain⟨h',hh'⟩:∃h':Af,h'=(c,Ai.cells 68 3 rc false)::h:=⟨_,rfl⟩
   rw[← hh'] at hst H1 F1
   have hrd3:AZ h (.BC rc) 3=some rc:=by rw[hrc]; rfl
   have fc:AA h' c=some (.cells 68 3 [.str g.rules[j].left,w1,.int .i64 g.rules[j].level] false):=by rw[hh',Ce rfl,hrc]
   have rc0:AP h' (.AO c 0)=some (.str g.rules[j].left):=by rw[AB fc]; rfl
   have rc1:AP h' (.AO c 1)=some w1:=by rw[AB fc]; rfl
   have hcon:=Ih (k:=k+20) (x:=g.rules[j].left) (st:=⟨h',c+1,lo⟩) hh (by omega)
   by_cases hin:g.rules[j].left∈Hl
   ·rw[decide_eq_true hin] at hcon
    have hR:=(hH _).1 hin
    have hlr:∀S':St,BO .slice w1 S'=some (.int .i64 (g.rules[j].right.length:Int),S'):=fun S'=>by have:=e2.len (st:=S'); simpa using this
    obtain⟨X,hX⟩:=A.more
    have hiT':i<T'.length:=by rw[hX,List.length_append]; omega
    have hti':∀h:i<T'.length,T'[i]=t:=fun _=>by
     simp only[hX]; rw[List.getElem_append_left hiT]; exact hti hiT
    have hwc:Ah w'≠some c:=fun e=>by have:=(A.ft.own c e).2; have:c<c:=this; omega
    simp[C.f32L1,z2,z6,z7,z8,z9,z10,z43,z44,z45,Au,hix,-Aw,hrd3,hn1,hst,rc0,rc1,hcon,hlr]
    refine M.Al (fJ (k:=k) (hv:=hv) (e:=e) (i:=i) (j:=j) (c12:=c) (r:=g.rules[j]) hk hr hrs hs hok hmem hR e2 (S0:=⟨h',c+1,lo⟩) (by show c<c+1; omega) (by omega) hwc fc hti' hiT' hcl H1 A.snd A.nd A.sub _ (by simp[IA,z2,z6,z8,z9,z10,z43,z44,z45]) (by simp[z7]) (by simp)) fun x hx=>?_
    obtain⟨ex,ts2,st2⟩:=x
    obtain⟨ee,w2,T2,K2,g1,g7,H2,F2,S2,N2,L2,⟨X2,hX2⟩,hKK,hD⟩:=hx
    simp only at ee g1 g7 H2 F2
    subst ee
    simp only[IA,Bi,CR,and_true] at g1
    obtain⟨g2,g6,g8,g9,g10,g12,g43,g44,g45,g55,g56⟩:=g1
    simp[Fp,g2,g6,g7,g8,g9,g10,g43,g44,g45,wi j]
    have hT2:∀s∈T',s∈T2:=fun s h=>by rw[hX2]; exact List.mem_append.2 (.inl h)
    refine⟨j+1,by omega,by omega,by simp,T2,K2,⟨H2,(A.ff.trans F1).trans F2,S2,N2,L2,⟨X++X2,by rw[hX2,hX,List.append_assoc]⟩,fun s h=>hKK s (A.kk s h)⟩,fun q hq hqj hRq=>?_⟩
    rcases Nat.lt_or_ge q j with h'|h'
    ·exact (hall q hq h' hRq).mono hT2 hKK
    ·have:q=j:=by omega
     subst this; exact hD
   ·rw[decide_eq_false hin] at hcon
    simp[C.f32L1,Fp,z2,z6,z7,z8,z9,z10,z43,z44,z45,Au,hix,-Aw,hrd3,hn1,hst,rc0,hcon,wi j]
    refine⟨j+1,by omega,by omega,by simp,T',K',⟨H1,A.ff.trans F1,A.snd,A.nd,A.sub,A.more,A.kk⟩,fun q hq hqj hRq=>?_⟩
    rcases Nat.lt_or_ge q j with h'|h'
    ·exact hall q hq h' hRq
    ·have:q=j:=by omega
     subst this; exact absurd ((hH _).2 hRq) hin
  ·have:j=g.rules.length:=by omega
   subst this
   simp[C.f32L1,Fp,z2,z6,z7,z8,z9,z10,z43,z44,z45]
   refine⟨T',K',A,fun r hr hR=>?_⟩
   obtain⟨q,hq,rfl⟩:=List.getElem_of_mem hr
   exact hall q hq hq hR
 ·show g.rules.length-0<1000000; omega
 ·exact⟨by omega,hts,z43,z44,z45,w,T,K,z9,⟨H,.refl,hS,hN,hTl,⟨[],by simp⟩,fun _ h=>h⟩,fun q _ h=>by omega⟩
set_option maxHeartbeats 4000000 in
theorem fK {k:Nat}{g:AX}{kv rv hv:AV}{lv:List AV}{Hl:List Aj}(hk:BI kv 1 (strs g.kinds))(hr:BI rv 3 lv)(hrs:Bt lv g.rules)(hs:g.Small)(hok:g.Ok)(hh:BI hv 1 (strs Hl))(hHl:Hl.length<=400)(hH:∀s,s∈Hl↔Reach g s){sym:Aj}(hsym:sym∈g.CB){w:AV}{S0:St}(H:FT [kv,.str g.start,rv] S0 w [sym] [])(ts0:TS)(hts:Has ts0 (Fp hv (.bool false) 0))(z9:ts0.get 9=w) :
 (CJ (Ar E (AU E (k+22)) C.f32L0) E.k ts0 S0).to fun x=>x.1=.exit 0/\x.2.1.get 7=.Bv 1/\∃e w' T' K',x.2.1.get 8=.bool e/\FT [kv,.str g.start,rv] x.2.2 w' T' K'/\(e=true↔Pp g sym)/\∀x,x∈K'↔Mc g x sym:=by
 have hln:=hrs.length
 have hmany:=hs.many
 have hlefts:=g.Fj
 refine Be (fun (i:Nat) ts st=>∃e w' T' K',Has ts (Fp hv (.bool e) i)/\ts.get 9=w'/\i<=T'.length/\Yn g sym [kv,.str g.start,rv] S0 w [sym] [] st w' T' K'/\(e=true↔g.start∈T'.take i)/\∀q (hq:q<T'.length),q<i->∀r∈g.rules,Reach g r.left->dC g T' K' T'[q] r r.right.length)
  (fun i=>100-i) ?_ _ 0 _ _ ?_ ?_
 ·clear hts z9
  rintro i ts st ⟨e,w',T',K',hts,z9,hi,A,he,hall⟩
  simp only[Fp,Bi,CR,and_true] at hts
  obtain⟨z2,z6,z7,z8,z10⟩:=hts
  have hTl:=DV A.nd A.sub
  have hlT:∀S:St,BO .slice w' S=some (.int .i64 (T'.length:Int),S):=fun S=>by simp[BO,A.ft.sl.len]
  by_cases Au:i<T'.length
  ·obtain⟨h,c,lo⟩:=st
   obtain⟨p,a1,b1⟩:=A.ft.sl.reads.at_ i Au ⟨h,c,lo⟩ rfl
   have b1':AP h p=some (.str T'[i]):=b1
   have g0:AA h 0=some (.cells 29 3 [kv,.str g.start,rv] false):=A.ft.g0
   have r01:AP h (.AO 0 1)=some (.str g.start):=by rw[AB g0]; rfl
   have r02:AP h (.AO 0 2)=some rv:=by rw[AB g0]; rfl
   have hlr:∀S':St,BO .slice rv S'=some (.int .i64 (g.rules.length:Int),S'):=fun S'=>by have:=hr.len (st:=S'); rw[this,hln]
   have hmemT:=List.getElem_mem Au
   have hrun:=fun (ts0:TS) (q1:Has ts0 (Fp hv (.bool (e||T'[i]==g.start)) i)) (q2:ts0.get 9=w') (q3:ts0.get 43=rv) (q4:ts0.get 44=.int .i64 (g.rules.length:Int)) (q5:ts0.get 45=.int .i64 ((0:Nat):Int))=>fI (k:=k) (e:=.bool (e||T'[i]==g.start)) hk hr hrs hs hok hh hHl hH (sym:=sym) (i:=i) (t:=T'[i]) (S0:=⟨h,c,lo⟩) (fun _=>rfl) Au (A.snd.t _ hmemT) A.ft A.snd A.nd A.sub ts0 q1 q2 q3 q4 q5
   have fin:∀(x:Hd × TS × St),(x.1=.exit 2/\Has x.2.1 (Fp hv (.bool (e||T'[i]==g.start)) i)/\∃w2 T2 K2,x.2.1.get 9=w2/\Yn g sym [kv,.str g.start,rv] ⟨h,c,lo⟩ w' T' K' x.2.2 w2 T2 K2/\∀r∈g.rules,Reach g r.left->dC g T2 K2 T'[i] r r.right.length) ->
    ∃w2 T2 K2,x.2.1.get 9=w2/\i+1<=T2.length/\Yn g sym [kv,.str g.start,rv] S0 w [sym] [] x.2.2 w2 T2 K2/\((e||T'[i]==g.start)=true↔g.start∈T2.take (i+1))/\∀q (hq:q<T2.length),q<i+1->∀r∈g.rules,Reach g r.left->dC g T2 K2 T2[q] r r.right.length:=by
    rintro x ⟨_,_,w2,T2,K2,g9,A2,hD⟩
    obtain⟨X,hX⟩:=A.more
    obtain⟨X2,hX2⟩:=A2.more
    have hle:T'.length<=T2.length:=by rw[hX2,List.length_append]; omega
    refine⟨w2,T2,K2,g9,by omega,⟨A2.ft,A.ff.trans A2.ff,A2.snd,A2.nd,A2.sub,⟨X++X2,by rw[hX2,hX,List.append_assoc]⟩,fun s h=>A2.kk s (A.kk s h)⟩,?_,fun q hq hqi r hr hR=>?_⟩
    ·have e1:T2.take (i+1)=T'.take i++[T'[i]]:=by rw[hX2,List.take_append_of_le_length (by omega),List.take_succ_eq_append_getElem Au]
     rw[e1,List.mem_append,List.mem_singleton,← he]
     rw[Bool.or_eq_true,beq_iff_eq]
     exact⟨fun h=>h.imp id Eq.symm,fun h=>h.imp id Eq.symm⟩
    ·have hqT:q<T'.length:=by omega
     have eq:T2[q]=T'[q]:=by simp only[hX2]; exact List.getElem_append_left hqT
     rw[eq]
     rcases Nat.lt_or_ge q i with h'|h'
     ·exact (hall q hqT h' r hr hR).mono (fun s h=>by rw[hX2]; exact List.mem_append.2 (.inl h)) A2.kk
     ·have:q=i:=by omega
      subst this; exact hD r hr hR
   cases e with
   |true=>
    simp[-Bool.exists_bool,C.f32L0,KL,Jp,z2,z6,z7,z8,z9,z10,hlT,Au,r02,hlr]
    refine M.Al (hrun _ (by simp[Fp,z2,z6,z7,z10]) (by simp[z9]) (by simp) (by simp) (by simp)) fun x hx=>?_
    have hfin:=fin x hx
    obtain⟨ex,ts2,st2⟩:=x
    obtain⟨ee,g1,_⟩:=hx
    simp only at ee g1 hfin
    subst ee
    simp only[Fp,Bi,CR,and_true] at g1
    obtain⟨g2,g6,g7,g8,g10⟩:=g1
    obtain⟨w2,T2,K2,g9,hh1,hh2,hh3,hh4⟩:=hfin
    simp[-Bool.exists_bool,Fp,g2,g6,g7,g8,g9,g10,wi i]
    exact⟨i+1,by omega,true,⟨rfl,by simp⟩,T2,hh1,K2,hh2,by simpa using hh3,hh4⟩
   |false=>
    simp[-Bool.exists_bool,C.f32L0,KL,Jp,z2,z6,z7,z8,z9,z10,hlT,Au,a1,b1',r01,r02,hlr]
    refine M.Al (hrun _ (by simp[Fp,z2,z6,z7,z10]) (by simp[z9]) (by simp) (by simp) (by simp)) fun x hx=>?_
    have hfin:=fin x hx
    obtain⟨ex,ts2,st2⟩:=x
    obtain⟨ee,g1,_⟩:=hx
    simp only at ee g1 hfin
    subst ee
    simp only[Fp,Bi,CR,and_true] at g1
    obtain⟨g2,g6,g7,g8,g10⟩:=g1
    obtain⟨w2,T2,K2,g9,hh1,hh2,hh3,hh4⟩:=hfin
    simp[-Bool.exists_bool,Fp,g2,g6,g7,g8,g9,g10,wi i]
    exact⟨i+1,by omega,T'[i]==g.start,⟨rfl,by simp⟩,T2,hh1,K2,hh2,by simpa using hh3,hh4⟩
  ·have:i=T'.length:=by omega
   subst this
   rw[List.take_length] at he
   simp[-Bool.exists_bool,C.f32L0,z2,z6,z7,z8,z9,z10,hlT]
   obtain⟨X,hX⟩:=A.more
   obtain⟨d1,d2⟩:=jf A.snd (by rw[hX]; simp) fun q hq=>hall q hq hq
   exact⟨w',T',K',A.ft,by rw[he,d1,Zl],d2⟩
 ·show 100-0<1000000; omega
 ·exact⟨false,w,[sym],[],hts,z9,by simp,⟨H,.refl,⟨fun t h=>by simp only[List.mem_singleton] at h; subst h; exact .base,fun x h=>by cases h⟩,by simp,fun s h=>by simp only[List.mem_singleton] at h; subst h; exact hsym,⟨[],by simp⟩,fun _ h=>h⟩,by simp,fun q _ h=>by omega⟩
theorem oD {c:Nat}{a b:AV}(ha:a.Bw c=true)(hb:b.Bw c=true):AV.CL c [a,b]=true:=by simp[AV.CL,ha,hb]
set_option maxHeartbeats 2000000 in
theorem Vj {k:Nat}{v:AV}{g:AX}{sym:Aj}{st:St}(hg:BP v g)(hs:g.Small)(hok:g.Ok)(hsym:sym∈g.CB) :
 ∃K b,AU E (k+23) 32 [v,.str sym] st=.ret (.tuple [Ia K,.bool b],st)/\K.Nodup/\(∀x,x∈K↔Mc g x sym)/\(b=true↔Pp g sym):=by
 have hold:=hg.Gi 0
 have hg':=hg
 obtain⟨kv,rv,lv,rfl,hk,hr,hrs⟩:=hg'
 rw[BZ (fn:=C.f32) rfl rfl rfl (oD hold rfl),Ad (by simp)]
 obtain⟨h1,hh1⟩:∃h1:Af,h1=[(0,Ai.cells 29 3 [kv,.str g.start,rv] false)]:=⟨_,rfl⟩
 have n1:newObj 0 (.cells 29 3 [kv,.str g.start,rv] false) ⟨[],1,0⟩=some ⟨h1,1,0⟩:=by rw[hh1]; rfl
 have f1:AA h1 0=some (.cells 29 3 [kv,.str g.start,rv] false):=by rw[hh1]; rfl
 have tp1:top h1<=1:=by rw[hh1,Bn]; exact⟨by omega,Nat.zero_le _⟩
 have r0:AZ h1 (.AO 0 0) 3=some [kv,.str g.start,rv]:=Ae f1 rfl
 have r01:AP h1 (.AO 0 1)=some (.str g.start):=by rw[AB f1]; rfl
 obtain⟨hv,Hl,e1,e2,e3,e4⟩:=Wq (k:=k+19) (st:=⟨h1,1,0⟩) hg hs (Fb tp1)
 have n2:newObj 1 (.map [] [] [] 0) ⟨h1,2,0⟩=some ⟨(1,.map [] [] [] 0)::h1,2,0⟩:=Br tp1
 obtain⟨h2,hh2⟩:∃h2:Af,h2=(1,Ai.map [] [] [] 0)::h1:=⟨_,rfl⟩
 have tp2:top h2<=2:=by rw[hh2,Bn]; omega
 have n3:newObj 2 (.cells 9 1 [.str sym] false) ⟨h2,3,0⟩=some ⟨(2,.cells 9 1 [.str sym] false)::h2,3,0⟩:=Br tp2
 obtain⟨h3,hh3⟩:∃h3:Af,h3=(2,Ai.cells 9 1 [.str sym] false)::h2:=⟨_,rfl⟩
 have tp3:top h3<=3:=by rw[hh3,Bn]; omega
 rw[← hh2] at n2
 rw[← hh3] at n3
 have F0:FT [kv,.str g.start,rv] ⟨h3,3,0⟩ (.AQ 2 0 1 (some 1)) [sym] []:=⟨tp3,rfl,by show 2<=3; omega,.lit 2 [sym] (by simp) (by show AA h3 2=_; rw[hh3,Ce rfl]; rfl),(fun p hp=>by cases hp; exact⟨by omega,by show 2<3; omega⟩),by show AA h3 1=_; rw[hh3,Bg (by omega),hh2,Ce rfl]; rfl,List.nodup_nil,by show AA h3 0=_; rw[hh3,Bg (by omega),hh2,Bg (by omega)]; exact f1⟩
 have goal:((Ar E (AU E (k+22)) C.f32.body (TS.CY [.agg [kv,.str g.start,rv],.str sym] 0 .nil) ⟨[],0,0⟩).bind (leave C.f32.results)).to fun x=>∃K b,x.1=.tuple [Ia K,.bool b]/\K.Nodup/\(∀x,x∈K↔Mc g x sym)/\(b=true↔Pp g sym):=by
  simp[-Bool.exists_bool,C.f32,n1,r0,r01,e1,n2,YY,n3]
  refine M.Al (fK (k:=k) (hv:=hv) hk hr hrs hs hok e2 e3 e4 hsym F0 _ (by simp[Fp]) (by simp)) fun x hx=>?_
  obtain⟨e,ts1,st1⟩:=x
  obtain⟨ee,g7,b,w',T',K',g8,A,hb,hK⟩:=hx
  simp only at ee g7 g8 A
  subst ee
  have hKl:K'.length<=12:=by
   have:=DV A.kn fun s h=>((hK s).1 h).kinds
   have:=hs.kinds
   omega
  have c3:=A.c3
  have rs:=SI (k:=k+16) (st:=st1) (by omega) A.map (Fb (lo:=st1.lo) A.tp) A.kn hKl
  simp[-Bool.exists_bool,g7,g8,rs,leave,results,AY]
  exact⟨K',b,⟨rfl,rfl⟩,A.kn,hK,hb⟩
 obtain⟨⟨w,S⟩,q1,K,b,q2,q3,q4,q5⟩:=goal
 simp only at q2
 subst q2
 refine⟨K,b,?_,q3,q4,q5⟩
 rw[q1,M.CE]
 exact Ca (by simp[AV.Bw,AV.CL,(Ky K).Gi])
structure cz (id:Nat)(a b:St):Prop where
 c:a.c<=b.c
 lo:b.lo=a.lo
 tp:top b.h<=b.c
 fr:∀p,p<a.c->p≠id->AA b.h p=AA a.h p
theorem cz.refl {id:Nat}{a:St}(h:top a.h<=a.c):cz id a a:=⟨Nat.le_refl _,rfl,h,fun _ _ _=>rfl⟩
theorem cz.box {id:Nat}{a:St}{h:Af}{c lo:Nat}(H:cz id a ⟨h,c,lo⟩)(x:Ai):cz id a ⟨(c,x)::h,c+1,lo⟩:=by
 have hc:a.c<=c:=H.c
 have tp:top h<=c:=H.tp
 exact⟨by show a.c<=c+1; omega,H.lo,by show top ((c,x)::h)<=c+1; rw[Bn]; omega,fun p hp hne=>(Bg (by omega)).trans (H.fr p hp hne)⟩
theorem cz.put {id:Nat}{a:St}{h:Af}{c lo:Nat}(H:cz id a ⟨h,c,lo⟩)(y:Ai):cz id a ⟨Ab h id y,c,lo⟩:=
 ⟨H.c,H.lo,by show top (Ab _ _ _)<=c; rw[Fx]; exact H.tp,fun p hp hne=>(GQ (Ne.symm hne)).trans (H.fr p hp hne)⟩
def ZR (x:Aj × AV × Int):AV:=.agg [.str x.1,x.2.1,.int .i64 x.2.2]
def Ck (U:List (Aj × AV × Int)):List AV:=U.flatMap fun x=>[.str x.1,x.2.1,.int .i64 x.2.2]
theorem GZ:∀U:List (Aj × AV × Int),(Ck U).length=3*U.length
 |[]=>rfl
 |x::U=>by
  show ([_,_,_]++Ck U).length=_
  rw[List.length_append,GZ U]; simp; omega
theorem Db (x:Aj × AV × Int)(U:List (Aj × AV × Int)):Ck (x::U)=.str x.1::x.2.1::.int .i64 x.2.2::Ck U:=rfl
theorem Lm:∀{U:List (Aj × AV × Int)} {i:Nat} (hi:i<U.length) (rest:List AV),((Ck U++rest).drop (3*i)).take 3=[.str U[i].1,U[i].2.1,.int .i64 U[i].2.2]
 |x::U,0,_,rest=>by simp[Db]
 |x::U,i+1,hi,rest=>by
  have ih:=Lm (U:=U) (i:=i) (by simpa using hi) rest
  rw[Db,show 3*(i+1)=3*i+1+1+1 by omega]
  simpa using ih
theorem SS:∀{U:List (Aj × AV × Int)} {i:Nat} (hi:i<U.length) (x:Aj × AV × Int) (rest:List AV),BM (Ck U++rest) (3*i) [.str x.1,x.2.1,.int .i64 x.2.2]=Ck (U.set i x)++rest
 |y::U,0,_,x,rest=>by simp[Db]
 |y::U,i+1,hi,x,rest=>by
  have ih:=SS (U:=U) (i:=i) (by simpa using hi) x rest
  rw[Db,show 3*(i+1)=3*i+1+1+1 by omega]
  simp only[BM,List.set_cons_succ,Db,List.cons_append,List.take_succ_cons,show 3*i+1+1+1+[AV.str x.1,x.2.1,AV.int .i64 x.2.2].length=3*i+[AV.str x.1,x.2.1,AV.int .i64 x.2.2].length+1+1+1 by omega,List.drop_succ_cons] at ih ⊢
  rw[ih]
theorem Uc {st:St}{BV n i ty:Nat}{cap:Option Nat}{cs:List AV}{ext:Bool}(hf:AA st.h BV=some (.cells ty 3 cs ext))(hi:i<n):Aa 3 (.AQ BV 0 n cap) (.int .i64 (i:Int)) st=some (.AO BV (3*i),st):=by
 simp[Aa,Bb,hf,blt_eq,beq_eq,hi,Nat.mul_comm]
theorem WY {st:St}{id n k ty:Nat}{cs:List AV}{ext:Bool}(hf:AA st.h id=some (.cells ty 3 cs ext))(hk:k<=n)(hn:n*3<=cs.length) :
 CF 3 true false false [.AQ id 0 n none,.int .i64 (k:Int)] st=some (.AQ id (3*k) (n-k) none,st):=by
 simp[CF,Dc,Bb,Cz,hf,beq_eq,blt_eq,Du,ble_eq,hk,hn,Nat.mul_comm]
theorem UL {st:St}{id n k ty:Nat}{cs:List AV}{ext:Bool}(hf:AA st.h id=some (.cells ty 3 cs ext))(hk:k*3<=cs.length) :
 CF 3 false true false [.AQ id 0 n none,.int .i64 (k:Int)] st=some (.AQ id 0 k none,st):=by
 simp[CF,Dc,Bb,Cz,hf,beq_eq,blt_eq,Du,ble_eq,hk]
theorem aM {st:St}{id k m ty:Nat}{zero cs:List AV}{ext:Bool}(hz:zero.length=3)(hf:AA st.h id=some (.cells ty 3 cs ext))(hlo:st.lo<=id)(hk:3*k+3*m<=cs.length) :
 ∃rest,(Dk zero (.AQ id (3*k) m none) st=some (.tuple [],{ st with h:=Ab st.h id (.cells ty 3 (cs.take (3*k)++rest) ext) }))∨(Dk zero (.AQ id (3*k) m none) st=some (.tuple [],st)/\cs=cs.take (3*k)++rest):=by
 by_cases h0:m=0
 ·exact⟨cs.drop (3*k),.inr ⟨by simp[Dk,h0,beq_eq],by simp⟩⟩
 ·have hl:=Ll zero m
  rw[hz] at hl
  have hb:Nat.blt id st.lo=false:=by rw[blt_eq]; simp; omega
  refine⟨CQ zero m++cs.drop (3*k+(CQ zero m).length),.inl ?_⟩
  simp[Dk,beq_eq,h0,hf,hz,Bl,hb,ble_eq,hl,BM,show 3*k+m*3<=cs.length by omega]
section
variable {id:Nat}{ext:Bool}{U:List (Aj × AV × Int)}{rest:List AV}{st0:St}{p:Aj × AV × Int->Bool}
structure rZ (id:Nat)(ext:Bool)(U:List (Aj × AV × Int))(rest:List AV)(p:Aj × AV × Int->Bool)(st0:St)(i j:Nat)(D:List (Aj × AV × Int))(st:St):Prop where
 at_:AA st.h id=some (.cells 68 3 (Ck D++rest) ext)
 len:D.length=U.length
 ov:cz id st0 st
 ij:i<j
 jn:j<=U.length
 front:D.take i=(U.take j).filter fun s=>!p s
 same:∀q (h1:q<D.length) (h2:q<U.length),j<=q->D[q]=U[q]
set_option maxHeartbeats 2000000 in
theorem jq {k f:Nat}{a b:List AV}(htp:top st0.h<=st0.c)(hid:id<st0.c)(HP:∀st x,x∈U->cz id st0 st->AU E k f (a++([ZR x]++b)) st=.ret (.bool (p x),st))(hf:AA st0.h id=some (.cells 68 3 (Ck U++rest) ext))(hlo:st0.lo<=id)(hlc:st0.lo<=st0.c)(hn:U.length<=1000) :
 (AU E (k+2) 96 [.AQ id 0 U.length none,.fn (.func f) a b] st0).to fun x=>x.1=.AQ id 0 (U.filter fun s=>!p s).length none/\cz id st0 x.2/\∃rest',AA x.2.h id=some (.cells 68 3 (Ck (U.filter fun s=>!p s)++rest') ext):=by
 rw[Ap (fn:=C.f96) rfl rfl rfl,Ad (by simp)]
 have rd:∀{h:Af} {D:List (Aj × AV × Int)} {q:Nat} (hq:q<D.length),AA h id=some (.cells 68 3 (Ck D++rest) ext)->AZ h (.AO id (3*q)) 3=some [.str D[q].1,D[q].2.1,.int .i64 D[q].2.2]:=fun {h D q} hq hf=>by
  rw[Mh,hf,Km,Lm hq,if_pos (by rw[List.length_append,GZ]; omega)]
 have hidx:=MO (k:=k) (n:=U.length) (fc:=f) (w:=.AQ id 0 U.length none) (a:=a) (b:=b) (el:=fun i=>if h:i<U.length then [.str U[i].1,U[i].2.1,.int .i64 U[i].2.2] else []) (p:=fun i=>if h:i<U.length then p U[i] else false) (st:=st0) rfl (by omega) (fun i hi=>⟨_,Uc hf hi,by rw[rd hi hf,dif_pos hi]⟩) (fun i hi=>by
  have:=HP st0 U[i] (List.getElem_mem hi) (.refl htp)
  simp only[dif_pos hi]; exact this)
 rcases hidx with⟨h1,hall⟩|⟨i0,hi0,hp0,hj0,h1⟩
 ·simp[C.f96,h1,leave,results,AY]
  have e:U.filter (fun s=>!p s)=U:=List.filter_eq_self.2 fun s hs=>by
   obtain⟨i,hi,rfl⟩:=List.getElem_of_mem hs
   have:=hall i hi
   rw[dif_pos hi] at this
   simpa using this
  rw[e]
  exact⟨rfl,.refl htp,rest,hf⟩
 ·have hne:((i0:Int)==-1)=false:=by simp only[beq_eq_false_iff_ne,ne_eq]; omega
  rw[dif_pos hi0] at hp0
  have D0:rZ id ext U rest p st0 i0 (i0+1) U st0:=by
   refine⟨hf,rfl,.refl htp,by omega,by omega,?_,fun _ _ _ _=>rfl⟩
   rw[List.take_succ_eq_append_getElem hi0,List.filter_append]
   have:(U.take i0).filter (fun s=>!p s)=U.take i0:=List.filter_eq_self.2 fun s hs=>by
    obtain⟨i,hi,rfl⟩:=List.getElem_of_mem hs
    rw[List.length_take] at hi
    have:=hj0 i (by omega)
    rw[dif_pos (by omega)] at this
    simpa using this
   rw[this]; simp[hp0]
  simp[C.f96,h1,hne,wi i0]
  refine M.Al (DU (fun (j:Nat) ts st=>ts.get 0=.AQ id 0 U.length none/\ts.get 1=.fn (.func f) a b/\ts.get 6=.int .i64 (j:Int)/\∃(i:Nat) (D:List (Aj × AV × Int)),ts.get 5=.int .i64 (i:Int)/\rZ id ext U rest p st0 i j D st)
   (fun j=>U.length-j) (fun e ts st=>e=.exit 0/\ts.get 0=.AQ id 0 U.length none/\∃(i:Nat) (D:List (Aj × AV × Int)),ts.get 5=.int .i64 (i:Int)/\rZ id ext U rest p st0 i U.length D st) ?step _ (i0+1) _ _ ?_ ?_) ?_
  case step=>
   rintro j ts st ⟨h0,h1,h6,i,D,h5,H⟩
   have hlen:=H.len
   have hij:=H.ij
   have hjn:=H.jn
   have hlenS:∀S:St,BO .slice (.AQ id 0 U.length none) S=some (.int .i64 (U.length:Int),S):=fun S=>rfl
   by_cases Au:j<U.length
   ·obtain⟨h,c,lo⟩:=st
    have tp:top h<=c:=H.ov.tp
    have hcc:st0.c<=c:=H.ov.c
    have hlo1:lo=st0.lo:=H.ov.lo
    have hDj:D[j]=U[j]:=H.same j (by omega) Au (Nat.le_refl _)
    have hat:AA h id=some (.cells 68 3 (Ck D++rest) ext):=H.at_
    have rdj:=rd (show j<D.length by omega) hat
    rw[hDj] at rdj
    obtain⟨x,hx⟩:∃x,x=U[j]:=⟨_,rfl⟩
    have hxU:x∈U:=hx ▸ List.getElem_mem Au
    rw[← hx] at rdj
    have hn1:newObj c (.cells 68 3 [.str [],.AJ,.int .i64 0] false) ⟨h,c+1,lo⟩=some ⟨(c,.cells 68 3 [.str [],.AJ,.int .i64 0] false)::h,c+1,lo⟩:=Br tp
    have hst:=CO (h:=h) (c:=c) (c':=c+1) (lo:=lo) (ty:=68) (n:=3) (zs:=[.str [],.AJ,.int .i64 0]) (vs:=[.str x.1,x.2.1,.int .i64 x.2.2]) (by omega) rfl rfl
    have O1:=H.ov.box (.cells 68 3 [.str x.1,x.2.1,.int .i64 x.2.2] false)
    obtain⟨h',hh'⟩:∃h':Af,h'=(c,Ai.cells 68 3 [.str x.1,x.2.1,.int .i64 x.2.2] false)::h:=⟨_,rfl⟩
    rw[← hh'] at hst O1
    have ix:Aa 3 (.AQ id 0 U.length none) (.int .i64 (j:Int)) ⟨h,c+1,lo⟩=some (.AO id (3*j),⟨h,c+1,lo⟩):=Uc hat Au
    have fc:AA h' c=some (.cells 68 3 [.str x.1,x.2.1,.int .i64 x.2.2] false):=by rw[hh',Ce rfl]
    have rc3:AZ h' (.AO c 0) 3=some [.str x.1,x.2.1,.int .i64 x.2.2]:=Ae fc rfl
    have hat':AA h' id=some (.cells 68 3 (Ck D++rest) ext):=by rw[hh',Bg (by omega)]; exact hat
    have hc:=OY (HP ⟨h',c+1,lo⟩ x hxU O1) 1
    simp only[List.singleton_append,ZR] at hc
    have htk:(U.take (j+1)).filter (fun s=>!p s)=(U.take j).filter (fun s=>!p s)++(if p x then [] else [x]):=by
     rw[List.take_succ_eq_append_getElem Au,List.filter_append,← hx]
     cases hp:p x <;> simp[hp]
    cases hp:p x with
    |true=>
     rw[hp] at hc htk
     simp[C.f96L0,h0,h1,h5,h6,hlenS,Au,ix,rdj,hn1,hst,rc3,hc,wi j]
     exact⟨j+1,by omega,by simp,i,rfl,D,hat',H.len,O1,by omega,by omega,by rw[htk,H.front]; simp,fun q h1 h2 hq=>H.same q h1 h2 (by omega)⟩
    |false=>
     rw[hp] at hc htk
     have ix2:Aa 3 (.AQ id 0 U.length none) (.int .i64 (i:Int)) ⟨h',c+1,lo⟩=some (.AO id (3*i),⟨h',c+1,lo⟩):=Uc hat' (by omega)
     have s1:Bc 3 (.AO id (3*i)) (.agg [.str x.1,x.2.1,.int .i64 x.2.2]) ⟨h',c+1,lo⟩=some (.undef,⟨Ab h' id (.cells 68 3 (Ck (D.set i x)++rest) ext),c+1,lo⟩):=by
      rw[IK,hat']
      simp only[AV.isTuple,AV.cells,Qk,SS (show i<D.length by omega) x rest,List.length_append,GZ,List.length_cons,List.length_nil,true_and,if_true]
      rw[if_pos (by omega)]
     simp[C.f96L0,h0,h1,h5,h6,hlenS,Au,ix,rdj,hn1,hst,rc3,hc,ix2,s1,wi j,wi i]
     refine⟨j+1,by omega,by simp,i+1,by simp,D.set i x,by show AA (Ab _ _ _) id=_; rw[Ja rfl,hat']; rfl,by simpa using H.len,O1.put _,by omega,by omega,?_,fun q h1 h2 hq=>?_⟩
     ·rw[htk,List.take_succ_eq_append_getElem (by simp; omega),List.take_set_of_le (Nat.le_refl i),H.front]; simp
     ·rw[List.getElem_set_ne (by omega)]; exact H.same q (by simpa using h1) h2 (by omega)
   ·have:j=U.length:=by omega
    subst this
    simp[C.f96L0,h0,h1,h5,h6,hlenS]
    exact⟨i,rfl,D,H⟩
  ·show U.length-(i0+1)<1000000; omega
  ·exact⟨by simp,by simp,by simp,i0,U,by simp,D0⟩
  ·rintro⟨e,ts,st1⟩ ⟨e1,g0,i,D,g5,H⟩
   simp only at e1 g0 g5 H
   subst e1
   have hlen:=H.len
   have hij:=H.ij
   have hRl:=GZ D
   have sf:=WY (st:=st1) (k:=i) (n:=U.length) H.at_ (by omega) (by simp; omega)
   have hfr:D.take i=U.filter fun s=>!p s:=by have:=H.front; rwa [List.take_length] at this
   have hli:(U.filter fun s=>!p s).length=i:=by rw[← hfr,List.length_take]; omega
   have htk:(Ck D++rest).take (3*i)=Ck (U.filter fun s=>!p s):=by
    rw[List.take_append_of_le_length (by omega),← hfr]
    have:∀(D:List (Aj × AV × Int)) (i:Nat),i<=D.length->(Ck D).take (3*i)=Ck (D.take i):=by
     intro D
     induction D with
     |nil=>
      intro i hi; have:i=0:=by simpa using hi
      subst this; rfl
     |cons x D ih=>
      intro i hi
      cases i with
      |zero=>rfl
      |succ i=>
       have:=ih i (by simpa using hi)
       rw[show 3*(i+1)=3*i+1+1+1 by omega,List.take_succ_cons,Db,Db]
       simp[this]
    exact this D i (by omega)
   have hlo1:=H.ov.lo
   obtain⟨rest',hcl|⟨hcl,hcs⟩⟩:=aM (st:=st1) (k:=i) (m:=U.length-i) (zero:=[.str [],.AJ,.int .i64 0]) rfl H.at_ (by omega) (by simp; omega)
   ·rw[htk] at hcl
    have f1:AA (Ab st1.h id (.cells 68 3 (Ck (U.filter fun s=>!p s)++rest') ext)) id=some (.cells 68 3 (Ck (U.filter fun s=>!p s)++rest') ext):=by rw[Ja rfl,H.at_]; rfl
    have st2:=UL (st:={ st1 with h:=Ab st1.h id (.cells 68 3 (Ck (U.filter fun s=>!p s)++rest') ext) }) (k:=i) (n:=U.length) f1 (by rw[List.length_append,GZ]; omega)
    simp[g0,g5,sf,hcl,st2,leave,results,AY]
    exact⟨by rw[hli],H.ov.put _,rest',f1⟩
   ·rw[htk] at hcs
    have st2:=UL (st:=st1) (k:=i) (n:=U.length) H.at_ (by simp; omega)
    simp[g0,g5,sf,hcl,st2,leave,results,AY]
    exact⟨by rw[hli],H.ov,rest',by rw[← hcs]; exact H.at_⟩
end
theorem Sv {v:AV}{sz:Nat}{xs:List AV}(H:BI v sz xs):v.isTuple=false/\v.cells=[v]:=by rcases H.out with⟨rfl,_⟩|⟨t,rfl⟩ <;> exact⟨rfl,rfl⟩
theorem jT {v:AV}{sz:Nat}{xs:List AV}(H:BI v sz xs):Ah v=none:=by rcases H.out with⟨rfl,_⟩|⟨t,rfl⟩ <;> rfl
set_option maxHeartbeats 4000000 in
theorem ZB {k oo:Nat}{g:AX}{rv0 kw a1 a2:AV}{l fb:List AV}{p:Aj->Bool}(hP:∀st0,FB (k+4) 133 [] fb st0 p)(hs:g.Small)(hr:BI rv0 3 l)(hrs:Bt l g.rules)(S0:St)(hlo:S0.lo<=S0.c)(H:Nk false S0 oo kw g.start S0 .AJ [] [])(ts0:TS)(z1:ts0.get 1=a1)(z2:ts0.get 2=a2)(z3:ts0.get 3=.fn (.func 133) [] fb)(z4:ts0.get 4=.AO oo 0)(z19:ts0.get 19=rv0)(z20:ts0.get 20=.int .i64 (g.rules.length:Int))(z21:ts0.get 21=.int .i64 ((0:Nat):Int)) :
 (CJ (Ar E (AU E (k+8)) C.f33L0) E.k ts0 S0).to fun x=>x.1=.exit 0/\Has x.2.1 [(1,a1),(2,a2),(4,.AO oo 0)]/\∃rv ls,Nk false S0 oo kw g.start x.2.2 rv ls (g.rules.filter fun r=>r.right.all p):=by
 have hln:=hrs.length
 have hmany:=hs.many
 refine Be (fun (i:Nat) ts st=>i<=g.rules.length/\Has ts [(1,a1),(2,a2),(3,.fn (.func 133) [] fb),(4,.AO oo 0),(19,rv0),(20,.int .i64 (g.rules.length:Int)),(21,.int .i64 (i:Int))]/\∃rv ls,Nk false S0 oo kw g.start st rv ls ((g.rules.take i).filter fun r=>r.right.all p))
  (fun i=>g.rules.length-i) ?_ _ 0 _ _ ?_ ?_
 ·clear z1 z2 z3 z4 z19 z20 z21 H
  rintro i ts st ⟨hi,hts,rv,ls,G⟩
  simp only[Bi,CR,and_true] at hts
  obtain⟨z1,z2,z3,z4,z19,z20,z21⟩:=hts
  by_cases Au:i<g.rules.length
  ·have hil:i<l.length:=by omega
   obtain⟨w1,e1,e2⟩:=(hrs.get i Au).2
   have hmem:=List.getElem_mem Au
   have hsr:=(hs.rules _ hmem).right
   obtain⟨h,c,lo⟩:=st
   have hlo1:lo=S0.lo:=G.lo
   have hcc:S0.c<=c:=G.c
   have hooc:=G.vT
   have hool:=G.vS
   have tp:top h<=c:=HB.top G.hb
   have hown:∀p,Ah rv=some p->S0.c<=p/\p<c:=G.own
   obtain⟨rc,hrc⟩:∃rc:List AV,rc=[.str g.rules[i].left,w1,.int .i64 g.rules[i].level]:=⟨_,rfl⟩
   have G1:=G.more (.cells 68 3 rc false)
   obtain⟨h',hh'⟩:∃h':Af,h'=(c,Ai.cells 68 3 rc false)::h:=⟨_,rfl⟩
   have hix:Aa 3 rv0 (.int .i64 (i:Int)) ⟨h,c+1,lo⟩=some (.BC l[i].cells,⟨h,c+1,lo⟩):=hr.idx hil
   have hcells:l[i].cells=rc:=by rw[e1,hrc]; rfl
   rw[hcells] at hix
   have hn:newObj c (.cells 68 3 [.str [],.AJ,.int .i64 0] false) ⟨h,c+1,lo⟩=some ⟨(c,.cells 68 3 [.str [],.AJ,.int .i64 0] false)::h,c+1,lo⟩:=Br tp
   have hst:=CO (h:=h) (c:=c) (c':=c+1) (lo:=lo) (ty:=68) (n:=3) (zs:=[.str [],.AJ,.int .i64 0]) (vs:=rc) (by omega) (by rw[hrc]; rfl) rfl
   rw[← hh'] at hst G1
   have hrd3:AZ h (.BC rc) 3=some rc:=by rw[hrc]; rfl
   have fc:AA h' c=some (.cells 68 3 rc false):=by rw[hh',Ce rfl]
   have rc1:AP h' (.AO c 1)=some w1:=by rw[AB fc,hrc]; rfl
   have hev:=QR (k:=k+4) (st:=⟨h',c+1,lo⟩) e2 (by omega) G1.hb (hP _)
   have htk:(g.rules.take (i+1)).filter (fun r=>r.right.all p)=(g.rules.take i).filter (fun r=>r.right.all p)++(if g.rules[i].right.all p=true then [g.rules[i]] else []):=by
    rw[List.take_succ_eq_append_getElem Au,List.filter_append]
    congr 1
    cases hp:g.rules[i].right.all p <;> simp[-List.all_eq_true,-List.all_eq_false,hp]
   cases hp:g.rules[i].right.all p with
   |false=>
    rw[hp] at hev htk
    simp[C.f33L0,z1,z2,z3,z4,z19,z20,z21,Au,hix,-Aw,hrd3,hn,hst,rc1,hev,wi i]
    exact⟨i+1,by omega,by omega,by simp,rv,ls,by rw[htk]; simpa using G1⟩
   |true=>
    rw[hp] at hev htk
    have rc3:AZ h' (.AO c 0) 3=some rc:=Ae fc (by rw[hrc]; rfl)
    have fo:AA h' oo=some (.cells 29 3 [kw,.str g.start,rv] false):=G1.o
    have ro2:AP h' (.AO oo 2)=some rv:=by rw[AB fo]; rfl
    have hone:=Sv e2
    have hll:ls.length<=1000:=by
     have:=G.len
     have:=List.length_filter_le (fun r:Ba=>r.right.all p) (g.rules.take i)
     rw[List.length_take] at this; omega
    obtain⟨h4',h5',p1,p2,p3,G2⟩:=G1.iW (r:=g.rules[i]) (w:=w1) hlo hll (h3:=h') (c3:=c+1+2) (Fb (by have:top h'<=c+1:=HB.top G1.hb; omega)) (by omega) (fun q hq=>rfl) (fun q x hq=>by
     have:=G1.hb q x hq
     have:q<c+1:=this
     omega) (.inr ⟨rfl,e2⟩) (fun q hq=>by rw[jT e2] at hq; cases hq)
    have hbs:=oM (c+1) (a:=.str g.rules[i].left) (b:=w1) (d:=.int .i64 g.rules[i].level) hone
    rw[← hrc] at hbs p1 G2
    simp[C.f33L0,z1,z2,z3,z4,z19,z20,z21,Au,hix,-Aw,hrd3,hn,hst,rc1,hev,rc3,ro2,hbs,p1,p2,p3,wi i]
    exact⟨i+1,by omega,by omega,by simp,_,_,by rw[htk]; simpa using G2⟩
  ·have:i=g.rules.length:=by omega
   subst this
   rw[List.take_length] at G
   simp[C.f33L0,z1,z2,z3,z4,z19,z20,z21]
   exact⟨rv,ls,G⟩
 ·show g.rules.length-0<1000000; omega
 ·exact⟨by omega,by simp[z1,z2,z3,z4,z19,z20,z21],.AJ,[],by simpa using H⟩
theorem qp {k q:Nat}{w:AV}{Hl:List Aj}{st:St}{x:Aj × AV × Int}(hw:BI w 1 (strs Hl))(hl:Hl.length<1000000)(hb:top st.h<=st.c)(hq:q<st.c)(hf:AA st.h q=some (.cells 26 1 [w] false)) :
 AU E (k+3) 97 [ZR x,.AO q 0] st=.ret (.bool (!decide (x.1∈Hl)),st):=by
 rw[BS (fn:=C.f97) rfl rfl rfl,Ad (by simp)]
 obtain⟨h,c,lo⟩:=st
 have hb':top h<=c:=hb
 have hq':q<c:=hq
 have n1:newObj c (.cells 68 3 [.str x.1,x.2.1,.int .i64 x.2.2] false) ⟨h,c+1,c⟩=some ⟨(c,.cells 68 3 [.str x.1,x.2.1,.int .i64 x.2.2] false)::h,c+1,c⟩:=Br hb'
 obtain⟨h1,hh1⟩:∃h1:Af,h1=(c,Ai.cells 68 3 [.str x.1,x.2.1,.int .i64 x.2.2] false)::h:=⟨_,rfl⟩
 rw[← hh1] at n1
 have f1:AA h1 c=some (.cells 68 3 [.str x.1,x.2.1,.int .i64 x.2.2] false):=by rw[hh1,Ce rfl]
 have r0:AP h1 (.AO c 0)=some (.str x.1):=by rw[AB f1]; rfl
 have rq:AP h1 (.AO q 0)=some w:=by rw[hh1,AB ((Bg (by omega)).trans hf)]; rfl
 have hc:=Ih (k:=k) (x:=x.1) (st:=⟨h1,c+1,c⟩) hw hl
 simp[C.f97,ZR,n1,r0,rq,hc,leave,results,AY]
theorem Qj:∀{U:List (Aj × AV × Int)} {i:Nat} (hi:i<U.length) (w:AV) (rest:List AV),BM (Ck U++rest) (3*i+1) [w]=Ck (U.set i (U[i].1,w,U[i].2.2))++rest
 |y::U,0,_,w,rest=>by simp[Db]
 |y::U,i+1,hi,w,rest=>by
  have ih:=Qj (U:=U) (i:=i) (by simpa using hi) w rest
  rw[Db,show 3*(i+1)+1=3*i+1+1+1+1 by omega]
  simp only[BM,List.set_cons_succ,Db,List.cons_append,List.take_succ_cons,List.getElem_cons_succ,show 3*i+1+1+1+1+[w].length=3*i+1+[w].length+1+1+1 by omega,List.drop_succ_cons] at ih ⊢
  rw[ih]
set_option maxHeartbeats 4000000 in
theorem ZA {k oo id:Nat}{start:Aj}{kw a1 a2:AV}{V:List (Aj × AV × Int)}{rs:List Ba}{rest:List AV}{ext:Bool}(hlen:V.length=rs.length)(hV:∀j (h1:j<V.length) (h2:j<rs.length),V[j].1=rs[j].left/\V[j].2.2=rs[j].level/\BI V[j].2.1 1 (strs rs[j].right))(hsm:∀r∈rs,r.right.length<=1000)(hn:rs.length<=1000){S0:St}(tp0:top S0.h<=S0.c)(hic:id<S0.c)(hoc:oo<S0.c)(hio:oo≠id)(hlo:S0.lo<=id)(hlc:S0.lo<=S0.c)(hfo:AA S0.h oo=some (.cells 29 3 [kw,.str start,.AQ id 0 V.length none] false))(hfi:AA S0.h id=some (.cells 68 3 (Ck V++rest) ext))(ts0:TS)(z1:ts0.get 1=a1)(z2:ts0.get 2=a2)(z4:ts0.get 4=.AO oo 0)(z46:ts0.get 46=.AQ id 0 V.length none)(z47:ts0.get 47=.int .i64 (V.length:Int))(z48:ts0.get 48=.int .i64 ((0:Nat):Int)) :
 (CJ (Ar E (AU E (k+1)) C.f33L1) E.k ts0 S0).to fun x=>x.1=.exit 2/\Has x.2.1 [(1,a1),(2,a2),(4,.AO oo 0)]/\cz id S0 x.2.2/\∃D,AA x.2.2.h id=some (.cells 68 3 (Ck D++rest) ext)/\D.length=rs.length/\∀j (h1:j<D.length) (h2:j<rs.length),D[j].1=rs[j].left/\D[j].2.2=rs[j].level/\Fa x.2.2.h 9 1 D[j].2.1 (strs rs[j].right)/\∀o,Ah D[j].2.1=some o->S0.c<=o:=by
 refine Be (fun (i:Nat) ts st=>i<=V.length/\Has ts [(1,a1),(2,a2),(4,.AO oo 0),(46,.AQ id 0 V.length none),(47,.int .i64 (V.length:Int)),(48,.int .i64 (i:Int))]/\cz id S0 st/\∃D,AA st.h id=some (.cells 68 3 (Ck D++rest) ext)/\D.length=rs.length/\∀j (h1:j<D.length) (h2:j<rs.length),D[j].1=rs[j].left/\D[j].2.2=rs[j].level/\(i<=j->BI D[j].2.1 1 (strs rs[j].right))/\(j<i->Fa st.h 9 1 D[j].2.1 (strs rs[j].right)/\∀o,Ah D[j].2.1=some o->S0.c<=o/\o<st.c))
  (fun i=>V.length-i) ?_ _ 0 _ _ ?_ ?_
 ·clear z1 z2 z4 z46 z47 z48
  rintro i ts st ⟨hi,hts,O,D,hD,hDl,hall⟩
  simp only[Bi,CR,and_true] at hts
  obtain⟨z1,z2,z4,z46,z47,z48⟩:=hts
  by_cases Au:i<V.length
  ·have hiD:i<D.length:=by omega
   have hir:i<rs.length:=by omega
   obtain⟨d1,d2,d3,_⟩:=hall i hiD hir
   have d3:=d3 (Nat.le_refl i)
   obtain⟨h,c,lo⟩:=st
   have tp:top h<=c:=O.tp
   have hcc:S0.c<=c:=O.c
   have hlo1:lo=S0.lo:=O.lo
   have hat:AA h id=some (.cells 68 3 (Ck D++rest) ext):=hD
   have rdj:AZ h (.AO id (3*i)) 3=some [.str D[i].1,D[i].2.1,.int .i64 D[i].2.2]:=by
    rw[Mh,hat,Km,Lm hiD,if_pos (by rw[List.length_append,GZ]; omega)]
   have ix:Aa 3 (.AQ id 0 V.length none) (.int .i64 (i:Int)) ⟨h,c+1,lo⟩=some (.AO id (3*i),⟨h,c+1,lo⟩):=Uc hat Au
   have hn1:newObj c (.cells 68 3 [.str [],.AJ,.int .i64 0] false) ⟨h,c+1,lo⟩=some ⟨(c,.cells 68 3 [.str [],.AJ,.int .i64 0] false)::h,c+1,lo⟩:=Br tp
   have hst:=CO (h:=h) (c:=c) (c':=c+1) (lo:=lo) (ty:=68) (n:=3) (zs:=[.str [],.AJ,.int .i64 0]) (vs:=[.str D[i].1,D[i].2.1,.int .i64 D[i].2.2]) (by omega) rfl rfl
   have O1:=O.box (.cells 68 3 [.str D[i].1,D[i].2.1,.int .i64 D[i].2.2] false)
   obtain⟨h',hh'⟩:∃h':Af,h'=(c,Ai.cells 68 3 [.str D[i].1,D[i].2.1,.int .i64 D[i].2.2] false)::h:=⟨_,rfl⟩
   rw[← hh'] at hst O1
   have fr':∀p,p<c->AA h' p=AA h p:=fun p hp=>by rw[hh',Bg (by omega)]
   have fc:AA h' c=some (.cells 68 3 [.str D[i].1,D[i].2.1,.int .i64 D[i].2.2] false):=by rw[hh',Ce rfl]
   have rc1:AP h' (.AO c 1)=some D[i].2.1:=by rw[AB fc]; rfl
   have fo:AA h' oo=some (.cells 29 3 [kw,.str start,.AQ id 0 V.length none] false):=(O1.fr oo hoc hio).trans hfo
   have ro2:AP h' (.AO oo 2)=some (.AQ id 0 V.length none):=by rw[AB fo]; rfl
   obtain⟨w,⟨h2,c2,lo2⟩,k1,k2,k3,Gw⟩:=IB (k:=k) (st:=⟨h',c+1,lo⟩) (hsm _ (List.getElem_mem hir)) d3 (Fb O1.tp)
   have hc2:c+1<=c2:=Gw.c
   have hl2:lo2=lo:=Gw.lo
   subst hl2
   have old2:∀p,p<c+1->AA h2 p=AA h' p:=Gw.Bw
   have tp2:top h2<=c2:=HB.top Gw.hb
   have k3':∀o,Ah w=some o->c+1<=o/\o<c2:=k3
   have fo2:AA h2 oo=some (.cells 29 3 [kw,.str start,.AQ id 0 V.length none] false):=(old2 oo (by omega)).trans fo
   have ro22:AP h2 (.AO oo 2)=some (.AQ id 0 V.length none):=by rw[AB fo2]; rfl
   have hat2:AA h2 id=some (.cells 68 3 (Ck D++rest) ext):=by rw[old2 id (by omega),fr' id (by omega)]; exact hat
   have ix2:Aa 3 (.AQ id 0 V.length none) (.int .i64 (i:Int)) ⟨h2,c2,lo2⟩=some (.AO id (3*i),⟨h2,c2,lo2⟩):=Uc hat2 Au
   have hone:=k2.one
   obtain⟨D2,hD2⟩:∃D2,D2=D.set i (D[i].1,w,D[i].2.2):=⟨_,rfl⟩
   have s1:Bc 1 (.AO id (3*i+1)) w ⟨h2,c2,lo2⟩=some (.undef,⟨Ab h2 id (.cells 68 3 (Ck D2++rest) ext),c2,lo2⟩):=by
    rw[IK,hat2,hone.1,hone.2,hD2]
    simp only[Qk,Qj hiD w rest,List.length_append,GZ,List.length_cons,List.length_nil,true_and,if_true]
    rw[if_pos (by omega)]
   have O2:cz id S0 ⟨Ab h2 id (.cells 68 3 (Ck D2++rest) ext),c2,lo2⟩:=⟨by show S0.c<=c2; omega,hlo1,by show top (Ab _ _ _)<=c2; rw[Fx]; exact tp2,fun p hp hne=>by
    show AA (Ab _ _ _) p=_
    rw[GQ (Ne.symm hne),old2 p (by omega),fr' p (by omega)]; exact O.fr p hp hne⟩
   simp[C.f33L1,z1,z2,z4,z46,z47,z48,Au,ix,rdj,hn1,hst,De,Dx,Cf,CV,Cv,beq_eq,AV.Cx,ro2,rc1,k1,ro22,ix2,s1,wi i]
   refine⟨i+1,by omega,by omega,by simp,O2,D2,by rw[Ja rfl,hat2]; rfl,by rw[hD2]; simpa using hDl,fun j h1 h2'=>?_⟩
   by_cases hji:j=i
   ·subst hji
    have e:D2[j]=(D[j].1,w,D[j].2.2):=by simp only[hD2]; rw[List.getElem_set_self]
    rw[e]
    refine⟨d1,d2,fun h=>by omega,fun _=>⟨k2.heap fun o ho=>?_,fun o ho=>?_⟩⟩
    ·have:=k3' o ho
     exact GQ (by omega)
    ·have:=k3' o ho
     exact⟨by omega,this.2⟩
   ·have hjD:j<D.length:=by rw[hD2] at h1; simpa using h1
    have e:D2[j]=D[j]:=by simp only[hD2]; rw[List.getElem_set_ne (Ne.symm hji)]
    rw[e]
    obtain⟨e1,e2,e3,e4⟩:=hall j hjD h2'
    refine⟨e1,e2,fun h=>e3 (by omega),fun h=>?_⟩
    obtain⟨m1,m2⟩:=e4 (by omega)
    have m2':∀o,Ah D[j].2.1=some o->S0.c<=o/\o<c:=m2
    refine⟨m1.heap fun o ho=>?_,fun o ho=>?_⟩
    ·have:=m2' o ho
     rw[GQ (by omega),old2 o (by omega),fr' o (by omega)]
    ·have:=m2' o ho
     exact⟨this.1,by omega⟩
  ·have:i=V.length:=by omega
   subst this
   simp[C.f33L1,z1,z2,z4,z46,z47,z48]
   exact⟨O,D,hD,hDl,fun j h1 h2=>by
    obtain⟨e1,e2,_,e4⟩:=hall j h1 h2
    obtain⟨m1,m2⟩:=e4 (by omega)
    exact⟨e1,e2,m1,fun o ho=>(m2 o ho).1⟩⟩
 ·show V.length-0<1000000; omega
 ·exact⟨by omega,by simp[z1,z2,z4,z46,z47,z48],.refl tp0,V,hfi,hlen,fun j h1 h2=>by
   obtain⟨e1,e2,e3⟩:=hV j h1 h2
   exact⟨e1,e2,fun _=>e3,fun h=>by omega⟩⟩
inductive RU:List (Aj × AV × Int)->List Ba->Prop
 |nil:RU [] []
 |cons {x:Aj × AV × Int} {r:Ba} {U:List (Aj × AV × Int)} {rs:List Ba} (h1:x.1=r.left) (h2:x.2.2=r.level) (h3:BI x.2.1 1 (strs r.right)) (t:RU U rs):RU (x::U) (r::rs)
theorem RU.length {U:List (Aj × AV × Int)}{rs:List Ba}(H:RU U rs):U.length=rs.length:=by
 induction H with
 |nil=>rfl
 |cons _ _ _ _ ih=>simp[ih]
theorem RU.get {U:List (Aj × AV × Int)}{rs:List Ba}(H:RU U rs):∀j (h1:j<U.length) (h2:j<rs.length),U[j].1=rs[j].left/\U[j].2.2=rs[j].level/\BI U[j].2.1 1 (strs rs[j].right):=by
 induction H with
 |nil=>intro j h1; simp at h1
 |cons a b c _ ih=>
  intro j h1 h2
  cases j with
  |zero=>exact⟨a,b,c⟩
  |succ j=>exact ih j (by simpa using h1) (by simpa using h2)
theorem RU.filter {U:List (Aj × AV × Int)}{rs:List Ba}(H:RU U rs){p:Aj->Bool}{q:Ba->Bool}(h:∀r∈rs,q r=p r.left):RU (U.filter fun x=>p x.1) (rs.filter q):=by
 induction H with
 |nil=>exact .nil
 |cons a b c _ ih=>
  rename_i x r U rs _
  have ih:=ih fun r hr=>h r (List.mem_cons_of_mem _ hr)
  have e:=h r (by simp)
  rw[List.filter_cons,List.filter_cons,a,e]
  split
  ·exact .cons a b c ih
  ·exact ih
def iC:AV->Aj × AV × Int
 |.agg [.str a,w,.int .i64 n]=>(a,w,n)
 |_=>([],.undef,0)
theorem RU.of:∀{ls:List AV} {rs:List Ba},ls.length=rs.length->(∀j (hj:j<ls.length) (hr:j<rs.length),∃w,ls[j]=.agg [.str rs[j].left,w,.int .i64 rs[j].level]/\BI w 1 (strs rs[j].right))->RU (ls.map iC) rs/\ls.flatMap AV.cells=Ck (ls.map iC)
 |[],[],_,_=>⟨.nil,rfl⟩
 |x::ls,r::rs,hn,H=>by
  obtain⟨w,e1,e2⟩:=H 0 (by simp) (by simp)
  simp only[List.getElem_cons_zero] at e1 e2
  obtain⟨i1,i2⟩:=RU.of (ls:=ls) (rs:=rs) (by simpa using hn) fun j hj hr=>H (j+1) (by simpa using hj) (by simpa using hr)
  subst e1
  refine⟨.cons rfl rfl e2 i1,?_⟩
  rw[List.flatMap_cons,List.map_cons,Db,i2]; rfl
 |[],r::rs,hn,_=>by simp at hn
 |x::ls,[],hn,_=>by simp at hn
theorem RU.xN {h:Af}{id n:Nat}{cap:Option Nat}{U:List (Aj × AV × Int)}{rs:List Ba}{rest:List AV}{ext:Bool}(H:RU U rs)(hn:n=U.length)(hf:AA h id=some (.cells 68 3 (Ck U++rest) ext)):rY h (.AQ id 0 n cap) rs where
 len:=by rw[hn,← H.length]; rfl
 at_:=fun j hj st hs=>by
  have hl:=H.length
  have hjU:j<U.length:=by omega
  obtain⟨g1,g2,g3⟩:=H.get j hjU hj
  refine⟨.AO id (3*j),U[j].2.1,Uc (by rw[hs]; exact hf) (by omega),?_,g3⟩
  rw[Mh,hf,Km,Lm hjU,if_pos (by rw[List.length_append,GZ]; omega),g1,g2]
theorem Wt {D:List (Aj × AV × Int)}:(D.map ZR).flatMap AV.cells=Ck D:=by
 induction D with
 |nil=>rfl
 |cons x D ih=>rw[List.map_cons,List.flatMap_cons,ih]; rfl
set_option maxHeartbeats 8000000 in
theorem Tf {k:Nat}{v:AV}{g:AX}{st:St}(hg:BP v g)(hs:g.Small)(hok:g.Ok)(hF:Md g g.start) :
 ∃w,AU E (k+13) 33 [v] st=.ret (w,st)/\BP w g.trim:=by
 have hold:=hg.Gi 0
 have hg':=hg
 obtain⟨kv,rv0,l,rfl,hk,hr,hrs⟩:=hg'
 have hln:=hrs.length
 have hkn:=hs.kinds
 have hmany:=hs.many
 rw[BZ (fn:=C.f33) rfl rfl rfl (by rw[AV.CL,hold]; rfl),Ad (by simp)]
 have n1:newObj 0 (.cells 29 3 [kv,.str g.start,rv0] false) ⟨[],2,0⟩=some ⟨[(0,.cells 29 3 [kv,.str g.start,rv0] false)],2,0⟩:=rfl
 obtain⟨h2,hh2⟩:∃h2:Af,h2=[(1,Ai.cells 29 3 [.AJ,.str [],.AJ] false),(0,.cells 29 3 [kv,.str g.start,rv0] false)]:=⟨_,rfl⟩
 have n2:newObj 1 (.cells 29 3 [.AJ,.str [],.AJ] false) ⟨[(0,.cells 29 3 [kv,.str g.start,rv0] false)],2,0⟩=some ⟨h2,2,0⟩:=by rw[hh2]; rfl
 have tp2:top h2<=2:=by rw[hh2,Bn,Bn]; exact⟨by omega,by omega,Nat.zero_le _⟩
 have fg:AA h2 0=some (.cells 29 3 [kv,.str g.start,rv0] false):=by rw[hh2]; rfl
 have f1:AA h2 1=some (.cells 29 3 [.AJ,.str [],.AJ] false):=by rw[hh2]; rfl
 have rg:AZ h2 (.AO 0 0) 3=some [kv,.str g.start,rv0]:=Ae fg rfl
 have rk:AP h2 (.AO 0 0)=some kv:=by rw[AB fg]; rfl
 have rs:AP h2 (.AO 0 1)=some (.str g.start):=by rw[AB fg]; rfl
 obtain⟨fb,e1,p,hp,hP⟩:=PL (k:=k) (st:=⟨h2,2,0⟩) hg hs
 obtain⟨h3,hh3⟩:∃h3:Af,h3=(2,Ai.cells 29 3 [.AJ,.str [],.AJ] false)::h2:=⟨_,rfl⟩
 have n3:newObj 2 (.cells 29 3 [.AJ,.str [],.AJ] false) ⟨h2,3,0⟩=some ⟨h3,3,0⟩:=by rw[hh3]; exact Br tp2
 have tp3:top h3<=3:=by rw[hh3,Bn]; omega
 obtain⟨kw,⟨h4,c4,lo4⟩,k1,k2,k3,Gw⟩:=IB (k:=k+11) (st:=⟨h3,3,0⟩) (by omega) hk (Fb tp3)
 have hc4:3<=c4:=Gw.c
 have hl4:lo4=0:=Gw.lo
 subst hl4
 have old4:∀q,q<3->AA h4 q=AA h3 q:=Gw.Bw
 have k3':∀q,Ah kw=some q->3<=q/\q<c4:=k3
 have f42:AA h4 2=some (.cells 29 3 [.AJ,.str [],.AJ] false):=by rw[old4 _ (by omega),hh3,Ce rfl]
 have f41:AA h4 1=some (.cells 29 3 [.AJ,.str [],.AJ] false):=by rw[old4 _ (by omega),hh3,Bg (by omega)]; exact f1
 have f40:AA h4 0=some (.cells 29 3 [kv,.str g.start,rv0] false):=by rw[old4 _ (by omega),hh3,Bg (by omega)]; exact fg
 have r3s:AP h3 (.AO 0 1)=some (.str g.start):=by
  have:AA h3 0=some (.cells 29 3 [kv,.str g.start,rv0] false):=by rw[hh3,Bg (by omega)]; exact fg
  rw[AB this]; rfl
 have r4s:AP h4 (.AO 0 1)=some (.str g.start):=by rw[AB f40]; rfl
 have hone:=k2.one
 obtain⟨h5,hh5⟩:∃h5:Af,h5=Ab h4 2 (.cells 29 3 [kw,.str g.start,.AJ] false):=⟨_,rfl⟩
 have s4:Bc 3 (.AO 2 0) (.agg [kw,.str g.start,.AJ]) ⟨h4,c4,0⟩=some (.undef,⟨h5,c4,0⟩):=by rw[IK,f42,hh5]; simp[AV.isTuple,AV.cells]
 have tp5:top h5<=c4:=by rw[hh5,Fx]; exact HB.top Gw.hb
 have f5:∀q,q≠2->AA h5 q=AA h4 q:=fun q hq=>by rw[hh5,GQ (Ne.symm hq)]
 have f52:AA h5 2=some (.cells 29 3 [kw,.str g.start,.AJ] false):=by rw[hh5,Ja rfl,f42]; rfl
 have f50:AA h5 0=some (.cells 29 3 [kv,.str g.start,rv0] false):=by rw[f5 0 (by omega)]; exact f40
 have f51:AA h5 1=some (.cells 29 3 [.AJ,.str [],.AJ] false):=by rw[f5 1 (by omega)]; exact f41
 have r5:AP h5 (.AO 0 2)=some rv0:=by rw[AB f50]; rfl
 have hS0:Nk false ⟨h5,c4,0⟩ 2 kw g.start ⟨h5,c4,0⟩ .AJ [] []:=⟨Nat.le_refl _,rfl,Fb tp5,fun _ _ _=>rfl,by show 2<c4; omega,Nat.zero_le _,f52,.nl,(fun q hq=>by cases hq),rfl,fun j hj=>by simp at hj⟩
 have hlr:∀S':St,BO .slice rv0 S'=some (.int .i64 (g.rules.length:Int),S'):=fun S'=>by have:=hr.len (st:=S'); rw[this,hln]
 have hfit:(g.rules.filter fun r=>r.right.all p)=g.fit.rules:=List.filter_congr fun r hr=>by
  rw[Bool.eq_iff_iff,PO,List.all_eq_true]
  exact⟨fun h s hs'=>(hp s).1 (h s hs'),fun h s hs'=>(hp s).2 (h s hs')⟩
 have hfok:=AX.jg hok hF
 have hfs:g.fit.Small:=AX.Lu hs _
 have hpos:=AX.Ml hfok
 have hflen:g.fit.rules.length<=12:=hfs.many
 obtain⟨P,hPd⟩:∃P:AV × St->Prop,P=fun x=>∃w,Bp 0 x.2.h 64 x.1=some w/\BP w g.trim:=⟨_,rfl⟩
 have goal:((Ar E (AU E (k+12)) C.f33.body (TS.CY [.agg [kv,.str g.start,rv0]] 0 .nil) ⟨[],0,0⟩).bind (leave C.f33.results)).to P:=by
  simp[C.f33,n1,n2,rg,e1,De,Dx,Cf,CV,Cv,beq_eq,AV.Cx,rk,rs,n3,k1,r3s,r4s,jh hone,s4,r5,hlr]
  refine M.Al (ZB (k:=k+4) (oo:=2) (fun st0=>(hP st0).more 4) hs hr hrs ⟨h5,c4,0⟩ (Nat.zero_le _) hS0 _ (by simp; rfl) (by simp; rfl) (by simp) (by simp) (by simp) (by simp) (by simp)) fun x hx=>?_
  obtain⟨e,ts1,⟨h6,c6,lo6⟩⟩:=x
  obtain⟨ee,g1,rv,ls,G⟩:=hx
  simp only at ee g1 G
  subst ee
  simp only[Bi,CR,and_true] at g1
  obtain⟨z1,z2,z4⟩:=g1
  rw[hfit] at G
  have hl6:lo6=0:=G.lo
  subst hl6
  have hc6:c4<=c6:=G.c
  have tp6:top h6<=c6:=HB.top G.hb
  have hlsl:=G.len
  have hown:∀q,Ah rv=some q->c4<=q/\q<c6:=G.own
  have f62:AA h6 2=some (.cells 29 3 [kw,.str g.start,rv] false):=G.o
  have fr6:∀q,q<c4->q≠2->AA h6 q=AA h5 q:=G.fr
  have f60:AA h6 0=some (.cells 29 3 [kv,.str g.start,rv0] false):=by rw[fr6 0 (by omega) (by omega)]; exact f50
  have f61:AA h6 1=some (.cells 29 3 [.AJ,.str [],.AJ] false):=by rw[fr6 1 (by omega) (by omega)]; exact f51
  obtain⟨hRU,hfl⟩:=RU.of hlsl fun j hj hr'=>by
   obtain⟨w,e1,e2,_⟩:=G.each j hj hr'
   exact⟨w,e1,e2.elim (fun h=>by cases h.1) fun h=>h.2⟩
  have hsl:Fa h6 68 3 rv ls:=G.sl
  obtain⟨id,hid⟩:∃id,rv=.AQ id 0 ls.length none/\AA h6 id=some (.cells 68 3 (ls.flatMap AV.cells) true):=by
   cases hsl with
   |nl=>simp only[List.length_nil] at hlsl; omega
   |mt id ext hf=>simp only[List.length_nil] at hlsl; omega
   |ob id _ h0 h1 hf=>exact⟨id,rfl,hf⟩
  obtain⟨rfl,hfi⟩:=hid
  have hidc:=hown id rfl
  obtain⟨U,hU⟩:∃U,U=ls.map iC:=⟨_,rfl⟩
  rw[← hU] at hRU hfl
  rw[hfl] at hfi
  have hUl:ls.length=U.length:=by rw[hU,List.length_map]
  rw[hUl] at f62
  have hfi0:AA h6 id=some (.cells 68 3 (Ck U++[]) true):=by rw[List.append_nil]; exact hfi
  have r62:AZ h6 (.AO 2 0) 3=some [kw,.str g.start,.AQ id 0 U.length none]:=Ae f62 rfl
  have r61:AP h6 (.AO 0 1)=some (.str g.start):=by rw[AB f60]; rfl
  obtain⟨hv,Hl,m1,m2,m3,m4⟩:=Qi (k:=k+9) (kv:=kw) (rv:=.AQ id 0 U.length none) (g:=g.fit) (st:=⟨h6,c6+1,0⟩) (fun h' hh'=>RU.xN hRU rfl ((hh' id (by show id<c6+1; omega)).trans hfi0)) hfs (Fb (by omega))
  have hst1:g.fit.start=g.start:=rfl
  rw[hst1] at m1
  have n7:newObj c6 (.cells 26 1 [.AJ] false) ⟨h6,c6+1,0⟩=some ⟨(c6,.cells 26 1 [.AJ] false)::h6,c6+1,0⟩:=Br tp6
  obtain⟨h7,hh7⟩:∃h7:Af,h7=(c6,Ai.cells 26 1 [hv] false)::h6:=⟨_,rfl⟩
  have honeh:=Sv m2
  have s7:Bc 1 (.AO c6 0) hv ⟨(c6,.cells 26 1 [.AJ] false)::h6,c6+1,0⟩=some (.undef,⟨h7,c6+1,0⟩):=by
   rw[IK,Ce rfl,hh7]; simp[honeh.1,honeh.2,bL]
  have tp7:top h7<=c6+1:=by rw[hh7,Bn]; omega
  have f7:∀q,q<c6->AA h7 q=AA h6 q:=fun q hq=>by rw[hh7,Bg (by omega)]
  have f7c:AA h7 c6=some (.cells 26 1 [hv] false):=by rw[hh7,Ce rfl]
  have f72:AA h7 2=some (.cells 29 3 [kw,.str g.start,.AQ id 0 U.length none] false):=by rw[f7 2 (by omega)]; exact f62
  have r72:AP h7 (.AO 2 2)=some (.AQ id 0 U.length none):=by rw[AB f72]; rfl
  have hUl2:U.length<=12:=by rw[hRU.length]; exact hflen
  obtain⟨⟨w8,⟨h8,c8,lo8⟩⟩,d1,d2,O8,rest',d4⟩:=jq (k:=k+10) (f:=97) (a:=[]) (b:=[.AO c6 0]) (id:=id) (ext:=true) (U:=U) (rest:=[]) (p:=fun x=>!decide (x.1∈Hl)) (st0:=⟨h7,c6+1,0⟩) tp7 (by show id<c6+1; omega) (fun st x _ O=>qp (k:=k+7) m2 (by omega) O.tp (by have:c6+1<=st.c:=O.c; omega) ((O.fr c6 (by show c6<c6+1; omega) (by omega)).trans f7c)) (by show AA h7 id=_; rw[f7 id (by omega)]; exact hfi0) (Nat.zero_le _) (Nat.zero_le _) (by omega)
  simp only at d2 d4
  subst d2
  have e8:(fun s:Aj × AV × Int=>!!decide (s.1∈Hl))=fun s=>decide (s.1∈Hl):=by funext s; simp
  rw[e8] at d1 d4
  obtain⟨V,hVd⟩:∃V,V=U.filter fun s=>decide (s.1∈Hl):=⟨_,rfl⟩
  rw[← hVd] at d1 d4
  have hRV:RU V g.trim.rules:=by
   rw[hVd]
   exact hRU.filter (p:=fun s=>decide (s∈Hl)) (q:=VK g.fit) fun r hr=>by rw[Bool.eq_iff_iff,SQ,decide_eq_true_eq,m4]
  have hVl:V.length<=12:=by rw[hVd]; exact Nat.le_trans (List.length_filter_le _ _) hUl2
  have hl8:lo8=0:=O8.lo
  subst hl8
  have hc8:c6+1<=c8:=O8.c
  have tp8:top h8<=c8:=O8.tp
  have fr8:∀q,q<c6+1->q≠id->AA h8 q=AA h7 q:=O8.fr
  have f82:AA h8 2=some (.cells 29 3 [kw,.str g.start,.AQ id 0 U.length none] false):=by rw[fr8 2 (by omega) (by omega)]; exact f72
  have s8:Bc 1 (.AO 2 2) (.AQ id 0 V.length none) ⟨h8,c8,0⟩=some (.undef,⟨Ab h8 2 (.cells 29 3 [kw,.str g.start,.AQ id 0 V.length none] false),c8,0⟩):=by
   rw[IK,f82]; simp[AV.isTuple,AV.cells]
  obtain⟨h9,hh9⟩:∃h9:Af,h9=Ab h8 2 (.cells 29 3 [kw,.str g.start,.AQ id 0 V.length none] false):=⟨_,rfl⟩
  rw[← hh9] at s8
  have tp9:top h9<=c8:=by rw[hh9,Fx]; exact tp8
  have f92:AA h9 2=some (.cells 29 3 [kw,.str g.start,.AQ id 0 V.length none] false):=by rw[hh9,Ja rfl,f82]; rfl
  have f9:∀q,q≠2->AA h9 q=AA h8 q:=fun q hq=>by rw[hh9,GQ (Ne.symm hq)]
  have r92:AP h9 (.AO 2 2)=some (.AQ id 0 V.length none):=by rw[AB f92]; rfl
  have hlV:∀S:St,BO .slice (.AQ id 0 V.length none) S=some (.int .i64 (V.length:Int),S):=fun S=>rfl
  simp[z1,z2,z4,r62,r61,m1,n7,s7,r72,d1,s8,r92,hlV]
  refine M.Al (ZA (k:=k+11) (oo:=2) (id:=id) (start:=g.start) (V:=V) (rs:=g.trim.rules) (rest:=rest') (ext:=true) (S0:=⟨h9,c8,0⟩) hRV.length hRV.get (fun r hr=>by
   have:=(hs.rules r (List.mem_filter.1 (List.mem_filter.1 hr).1).1).right; omega) (by rw[← hRV.length]; omega) tp9 (by show id<c8; omega) (by show 2<c8; omega) (by omega) (Nat.zero_le _) (Nat.zero_le _) f92 (by show AA h9 id=_; rw[f9 id (by omega)]; exact d4) _ (by simp[z1]; rfl) (by simp[z2]; rfl) (by simp[z4]) (by simp) (by simp) (by simp)) fun x hx=>?_
  obtain⟨e,ts2,⟨h10,c10,lo10⟩⟩:=x
  obtain⟨ee,g1,O10,D,q1,q2,q3⟩:=hx
  simp only at ee g1 O10 q1
  subst ee
  simp only[Bi,CR,and_true] at g1
  obtain⟨y1,y2,y4⟩:=g1
  have hl10:lo10=0:=O10.lo
  subst hl10
  have fr10:∀q,q<c8->q≠id->AA h10 q=AA h9 q:=O10.fr
  have f102:AA h10 2=some (.cells 29 3 [kw,.str g.start,.AQ id 0 V.length none] false):=by rw[fr10 2 (by omega) (by omega)]; exact f92
  have f101:AA h10 1=some (.cells 29 3 [.AJ,.str [],.AJ] false):=by rw[fr10 1 (by omega) (by omega),f9 1 (by omega),fr8 1 (by omega) (by omega),f7 1 (by omega)]; exact f61
  have r102:AZ h10 (.AO 2 0) 3=some [kw,.str g.start,.AQ id 0 V.length none]:=Ae f102 rfl
  obtain⟨h11,hh11⟩:∃h11:Af,h11=Ab h10 1 (.cells 29 3 [kw,.str g.start,.AQ id 0 V.length none] false):=⟨_,rfl⟩
  have s11:Bc 3 (.AO 1 0) (.agg [kw,.str g.start,.AQ id 0 V.length none]) ⟨h10,c10,0⟩=some (.undef,⟨h11,c10,0⟩):=by rw[IK,f101,hh11]; simp[AV.isTuple,AV.cells]
  have f11:∀q,q≠1->AA h11 q=AA h10 q:=fun q hq=>by rw[hh11,GQ (Ne.symm hq)]
  have r11:AZ h11 (.AO 1 0) 3=some [kw,.str g.start,.AQ id 0 V.length none]:=Ae (by rw[hh11,Ja rfl,f101]; rfl) rfl
  simp[y1,y2,y4,r102,s11,leave,results,AY,ML,r11]
  rw[hPd]
  have hVD:V.length=D.length:=by rw[hRV.length,q2]
  have hkT:OZ 0 h11 kw g.kinds:=OZ.of (k2.heap fun o ho=>by
   have:=k3' o ho
   show AA h11 o=AA h4 o
   rw[f11 o (by omega),fr10 o (by omega) (by omega),f9 o (by omega),fr8 o (by omega) (by omega),f7 o (by omega),fr6 o (by omega) (by omega),f5 o (by omega)]) fun o ho=>by have:=k3' o ho; omega
  have hrT:CU 0 h11 (D.map ZR) g.trim.rules:=CU.Lr (by rw[List.length_map,q2]) fun j hj hr'=>by
   have hjD:j<D.length:=by simpa using hj
   obtain⟨a1,a2,a3,a4⟩:=q3 j hjD hr'
   have a4':∀o,Ah D[j].2.1=some o->c8<=o:=a4
   refine⟨D[j].2.1,by rw[List.getElem_map,ZR,a1,a2],OZ.of (a3.heap fun o ho=>f11 o (by have:=a4' o ho; omega)) fun o ho=>by have:=a4' o ho; omega⟩
  have:=QO (c:=0) (g:=g.trim) (rv:=.AQ id 0 V.length none) hkT hrT (.inr ⟨id,none,68,true,rest',by rw[List.length_map,hVD],by omega,by rw[Wt,f11 id (by omega)]; exact q1⟩) 64 (by omega)
  exact this
 obtain⟨⟨w,st'⟩,r1,r2⟩:=goal
 rw[hPd] at r2
 obtain⟨w',q1,q2⟩:=r2
 exact⟨w',by rw[r1]; simp only[M.CE,BA,Bu,q1],q2⟩
end Go.Am
