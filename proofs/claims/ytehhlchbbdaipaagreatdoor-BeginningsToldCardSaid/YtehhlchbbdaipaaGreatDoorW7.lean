/- A part of the proof of beginningsTold (merged by a program). -/
import Derived.Test.YtehhlchbbdaipaaGreatDoorW3
namespace Go.Am
open Go
def ints (l:List Nat):List AV:=l.map fun (n:Nat)=>AV.int .i64 (n:Int)
@[simp] theorem IU (l:List Nat):(ints l).length=l.length:=by simp[ints]
def GY (x:Aj):List Aj->Nat
 |[]=>0
 |y::l=>if x=y then 0 else GY x l+1
theorem DF {x:Aj}:∀{l:List Aj},x∈l->∃h:GY x l<l.length,l[GY x l]=x
 |[],h=>by cases h
 |y::l,h=>by
  by_cases e:x=y
  ·simp[GY,e]
  ·have hx:x∈l:=by
    rcases List.mem_cons.1 h with h|h
    ·exact absurd h e
    ·exact h
   obtain⟨h1,h2⟩:=DF hx
   simp only[GY,if_neg e,List.length_cons]
   exact⟨by omega,by simpa using h2⟩
theorem Mr {l:List Aj}(hn:l.Nodup){i:Nat}(hi:i<l.length):GY l[i] l=i:=by
 induction l generalizing i with
 |nil=>simp at hi
 |cons y l ih=>
  obtain⟨h1,h2⟩:=List.nodup_cons.1 hn
  cases i with
  |zero=>simp[GY]
  |succ i=>
   have hi':i<l.length:=by simpa using hi
   have:l[i]≠y:=fun e=>h1 (e ▸ List.getElem_mem hi')
   simp only[List.getElem_cons_succ,GY,if_neg this,ih h2 hi']
theorem Sm {x:Aj}:∀{K:List Aj},x∈K->FU (.one .str) (strs K) (.str x)=some (some (GY x K))
 |[],h=>by cases h
 |y::K,h=>by
  have hk:jQ (.one .str) (.str x) (.str y)=some (x==y):=rfl
  show FU (.one .str) (.str y::strs K) (.str x)=_
  by_cases e:x=y
  ·subst e; simp[FU,hk,GY]
  ·have hx:x∈K:=by
    rcases List.mem_cons.1 h with h|h
    ·exact absurd h e
    ·exact h
   simp[FU,hk,beq_false_of_ne e,Sm hx,GY,e]
def AX.names (g:AX):List Aj:=g.kinds++g.CB
def AX.ix (g:AX)(s:Aj):Nat:=GY s g.names
theorem AX.KX {g:AX}(h:g.Ok):g.names.Nodup:=by
 unfold AX.names
 rw[List.nodup_append]
 exact⟨h.up.nodup,g.WS.nodup,fun a ha b hb e=>h.apart a ha (e ▸ hb)⟩
theorem AX.Fj (g:AX):g.CB.length<=g.rules.length:=by
 unfold AX.CB
 rw[← List.length_map (f:=fun r:Ba=>r.left)]
 generalize g.rules.map (fun r=>r.left)=L
 induction L with
 |nil=>simp[Di]
 |cons x L ih=>
  show (Mf x (Di L)).length<=L.length+1
  have:∀M:List Aj,(Mf x M).length<=M.length+1:=by
   intro M
   induction M with
   |nil=>simp[Mf]
   |cons y M ih=>unfold Mf; split <;> simp_all <;> split <;> simp_all
  have:=this (Di L); omega
theorem AX.DD {g:AX}(hs:g.Small):g.names.length<=22:=by
 unfold AX.names
 rw[List.length_append]
 have:=hs.kinds; have:=hs.many; have:=g.Fj
 omega
theorem AX.FK {g:AX}(h:g.Ok){r:Ba}(hr:r∈g.rules){s:Aj}(hs:s∈r.right):s∈g.names:=List.mem_append.2 (h.syms r hr s hs)
theorem AX.Mq {g:AX}{r:Ba}(hr:r∈g.rules):r.left∈g.CB:=by
 rw[AX.IM]; unfold AX.isLeft; simp only[List.any_eq_true,beq_iff_eq]; exact⟨r,hr,rfl⟩
theorem AX.Ch {g:AX}{r:Ba}(hr:r∈g.rules):r.left∈g.names:=List.mem_append.2 (.inr (AX.Mq hr))
def Il (h:Af)(o:Nat)(K:List Aj):Prop:=∃bs clock,AA h o=some (.map (strs K) (ints (List.range K.length)) bs clock)
theorem Il.frame {h h':Af}{o:Nat}{K:List Aj}(H:Il h o K)(e:AA h' o=AA h o):Il h' o K:=by
 obtain⟨bs,clock,hf⟩:=H
 exact⟨bs,clock,e.trans hf⟩
theorem Il.look {st:St}{o:Nat}{K:List Aj}(H:Il st.h o K){x:Aj}(hx:x∈K):DR (.one .str) (.int .i64 0) false (.Bv o) (.str x) st=some (.int .i64 (GY x K:Nat),st):=by
 obtain⟨bs,clock,hf⟩:=H
 obtain⟨h1,_⟩:=DF hx
 simp[DR,hf,Ga,HV,Sm hx,Gm,ints,h1]
theorem Il.put {st:St}{o:Nat}{K:List Aj}(H:Il st.h o K)(hlo:st.lo<=o){x:Aj}(hx:x∉K) :
 ∃ob,Cg (.one .str) (.Bv o) (.str x) (.int .i64 (K.length:Nat)) st=some (.undef,{ st with h:=Ab st.h o ob })/\Il (Ab st.h o ob) o (K++[x])/\∀p,p≠o->AA (Ab st.h o ob) p=AA st.h p:=by
 obtain⟨bs,clock,hf⟩:=H
 have hb:Nat.blt o st.lo=false:=by rw[blt_eq]; simp; omega
 rcases Hy x K with⟨h1,_⟩|⟨_,h2⟩
 ·exact absurd h1 hx
 ·refine⟨_,by simp only[Cg,hb,HV,hf,h2,Bool.not_true,Bool.or_self,cond_false]; rfl,⟨bs++[clock],clock+1,?_⟩,fun p hp=>by rw[AR hf,if_neg (Ne.symm hp)]⟩
  rw[AR hf,if_pos rfl]
  simp[strs,ints,List.range_succ]
theorem Xf {o:Nat}{y:Ai}:∀{h:Af},(∀p x,(p,x)∈h->p≠o)->∃h',Lx h o y=some h'/\(∀p,AA h' p=if o=p then some y else AA h p)/\∀p x,(p,x)∈h'->(p=o/\x=y)∨(p,x)∈h
 |[],_=>⟨[(o,y)],rfl,fun p=>by rw[AL],fun p x h=>by simp at h; exact .inl h⟩
 |(i,z)::h,hn=>by
  have hi:i≠o:=hn i z (by simp)
  unfold Lx
  by_cases Au:i<o
  ·refine⟨(o,y)::(i,z)::h,by simp[blt_eq,Au],fun p=>by rw[AL],fun p x hm=>?_⟩
   rcases List.mem_cons.1 hm with e|hm
   ·cases e; exact .inl ⟨rfl,rfl⟩
   ·exact .inr hm
  ·obtain⟨h',h1,h2,h3⟩:=Xf (y:=y) (h:=h) fun p x hm=>hn p x (List.mem_cons_of_mem _ hm)
   refine⟨(i,z)::h',by simp[blt_eq,Au,beq_eq,hi,h1],fun p=>?_,fun p x hm=>?_⟩
   ·rw[AL,h2,AL]
    by_cases e:i=p
    ·subst e; simp[Ne.symm hi]
    ·simp[e]
   ·rcases List.mem_cons.1 hm with e|hm
    ·cases e; exact .inr (by simp)
    ·rcases h3 p x hm with h|h
     ·exact .inl h
     ·exact .inr (List.mem_cons_of_mem _ h)
theorem Fh {h:Af}{c lo o:Nat}{y:Ai}(hn:∀p x,(p,x)∈h->p≠o)(hb:HB ⟨h,c,lo⟩)(ho:o<c):∃h',newObj o y ⟨h,c,lo⟩=some ⟨h',c,lo⟩/\(∀p,AA h' p=if o=p then some y else AA h p)/\HB ⟨h',c,lo⟩/\∀p x,(p,x)∈h'->p=o∨(p,x)∈h:=by
 obtain⟨h',h1,h2,h3⟩:=Xf (y:=y) hn
 refine⟨h',by simp[newObj,h1],h2,fun p x hm=>?_,fun p x hm=>(h3 p x hm).imp (·.1) id⟩
 rcases h3 p x hm with⟨e,_⟩|h
 ·rw[e]; exact ho
 ·exact hb p x h
theorem uD {h:Af}{c lo o:Nat}{w:AV}{L L2:List Aj}{t:Bool}(hb:HB ⟨h,c,lo⟩)(hn:∀p x,(p,x)∈h->p≠o)(ho:o<c)(H:Fa h 9 1 w (strs L))(hw:∀p,Ah w=some p->lo<=p/\p≠o)(hne:L2≠[])(hl:L.length+L2.length<=1000) :
 ∃h2,BU o 9 1 16 w (.list t 1 (strs L2)) ⟨h,c,lo⟩=some (.AQ o 0 (L.length+L2.length) none,⟨h2,c,lo⟩)/\HB ⟨h2,c,lo⟩/\AA h2 o=some (.cells 9 1 (strs (L++L2)) true)/\(∀p,p≠o->Ah w≠some p->AA h2 p=AA h p)/\∀p x,(p,x)∈h2->p=o∨(p,x)∈h:=by
 have hn0:L2.length≠0:=fun e=>hne (List.eq_nil_of_length_eq_zero e)
 have hcs:∀h:Af,BH h 1 L2.length (.list t 1 (strs L2))=some (strs L2):=fun h=>by
  have:List.take L2.length (strs L2)=strs L2:=List.take_of_length_le (by simp)
  simp[BH,beq_eq,ble_eq,this,GI]
 have hroom:(L.length+L2.length)*16<=room/\L.length+L2.length<=room:=by unfold room; constructor <;> omega
 have hlen:lenOf (.list t 1 (strs L2))=some L2.length:=by simp[lenOf]
 have happ:strs L++strs L2=strs (L++L2):=by simp[strs]
 generalize hxs:strs L=xs at H
 cases H with
 |nl=>
  have hL:L=[]:=by cases L with|nil=>rfl|cons a l=>simp[strs] at hxs
  subst hL
  obtain⟨h2,p1,p2,p3,p4⟩:=Fh (y:=.cells 9 1 (strs L2) true) hn hb ho
  refine⟨h2,?_,p3,by rw[p2,if_pos rfl]; rfl,fun p hp _=>by rw[p2,if_neg (Ne.symm hp)],p4⟩
  simp only[List.length_nil,Nat.zero_add] at hroom ⊢
  simp[BU,hlen,hcs,BK,beq_eq,hn0,grow,ble_eq,hroom.1,hroom.2,p1]
 |mt i2 ext hf=>
  have hL:L=[]:=by cases L with|nil=>rfl|cons a l=>simp[strs] at hxs
  subst hL
  obtain⟨h2,p1,p2,p3,p4⟩:=Fh (y:=.cells 9 1 (strs L2) true) hn hb ho
  refine⟨h2,?_,p3,by rw[p2,if_pos rfl]; rfl,fun p hp _=>by rw[p2,if_neg (Ne.symm hp)],p4⟩
  simp only[List.length_nil,Nat.zero_add] at hroom ⊢
  simp[BU,hlen,hcs,BK,beq_eq,hn0,Cn,hf,grow,ble_eq,hroom.1,hroom.2,p1]
 |ob i2 _ h0 h1 hf=>
  subst hxs
  rw[GI] at hf
  have hi2:=hw i2 rfl
  have hnd:∀p x,(p,x)∈HY h i2->p≠o:=fun p x hm=>hn p x (Gy hm)
  have hbd:HB ⟨HY h i2,c,lo⟩:=fun p x hm=>hb p x (Gy hm)
  obtain⟨h2,p1,p2,p3,p4⟩:=Fh (y:=.cells 9 1 (strs (L++L2)) true) hnd hbd ho
  refine⟨h2,?_,p3,by rw[p2,if_pos rfl],fun p hp hne=>?_,fun p x hm=>(p4 p x hm).imp id Gy⟩
  ·have htk:(strs L).take L.length=strs L:=List.take_of_length_le (by simp)
   have hd:decide (L.length+L2.length<=L.length)=false:=decide_eq_false (by omega)
   have hlo:Nat.ble lo i2=true:=Nat.ble_eq_true_of_le hi2.1
   simp[BU,hlen,hcs,BK,beq_eq,hn0,Cn,hf,ble_eq,hd,hi2.1,grow,hroom.1,hroom.2,htk,happ,p1]
  ·have:i2≠p:=fun e=>hne (by rw[e]; rfl)
   rw[p2,if_neg (Ne.symm hp),Dw,if_neg this]
structure NA (gs:List AV)(g:AX)(K:List Aj)(st:St):Prop where
 hb:HB st
 lo:st.lo=0
 c:3<st.c
 g0:AA st.h 0=some (.cells 29 3 gs false)
 n1:AA st.h 1=some (.cells 9 1 (strs g.names) true)
 m2:Il st.h 2 K
 o3:AA st.h 3=some (.cells 158 6 [.AQ 1 0 g.names.length none,.int .i64 (g.kinds.length:Nat),.int .i64 0,.AJ,.AJ,.Bv 2] false)
theorem eG {n:Nat}{g:AX}{gs:List AV}(hs:g.Small)(hN:g.names.Nodup)(st:St)(H:NA gs g [] st)(ts0:TS)(h1:ts0.get 1=.AO 0 0)(h3:ts0.get 3=.AO 3 0)(h26:ts0.get 26=.AQ 1 0 g.names.length none)(h27:ts0.get 27=.int .i64 (g.names.length:Int))(h28:ts0.get 28=.int .i64 ((0:Nat):Int)) :
 (CJ (Ar E (AU E n) C.f57L0) E.k ts0 st).to fun x=>x.1=.exit 0/\x.2.1.get 1=.AO 0 0/\x.2.1.get 3=.AO 3 0/\NA gs g g.names x.2.2:=by
 have hnl:=AX.DD hs
 refine Be (fun (i:Nat) ts st=>i<=g.names.length/\ts.get 1=.AO 0 0/\ts.get 3=.AO 3 0/\ts.get 26=.AQ 1 0 g.names.length none/\ts.get 27=.int .i64 (g.names.length:Int)/\ts.get 28=.int .i64 (i:Int)/\NA gs g (g.names.take i) st)
  (fun i=>g.names.length-i) ?_ _ 0 _ _ ?_ ?_
 ·rintro i ts st ⟨hi,h1,h3,h26,h27,h28,H⟩
  by_cases Au:i<g.names.length
  ·have rn:AP st.h (.AO 1 i)=some (.str g.names[i]):=by rw[AB H.n1,strs_get? _ _ Au,mR _ _ Au]
   have rm:AP st.h (.AO 3 5)=some (.Bv 2):=by rw[AB H.o3]; rfl
   have hni:g.names[i]∉g.names.take i:=fun h=>by
    obtain⟨j,hj,e⟩:=List.getElem_of_mem h
    rw[List.length_take] at hj
    rw[List.getElem_take] at e
    have h1:=Mr hN (i:=j) (by omega)
    have h2:=Mr hN Au
    rw[e,h2] at h1
    omega
   obtain⟨ob,p1,p2,p3⟩:=H.m2.put (by rw[H.lo]; omega) hni
   have hl:(g.names.take i).length=i:=by rw[List.length_take]; omega
   rw[hl] at p1
   rw[← List.take_succ_eq_append_getElem Au] at p2
   simp[C.f57L0,h1,h3,h26,h27,h28,Au,Gc H.n1 Au,rn,rm,p1,wi i]
   exact⟨i+1,by omega,by omega,by simp,H.hb.Ab,H.lo,H.c,(p3 0 (by omega)).trans H.g0,(p3 1 (by omega)).trans H.n1,p2,(p3 3 (by omega)).trans H.o3⟩
  ·have:i=g.names.length:=by omega
   subst this
   rw[List.take_length] at H
   simp[C.f57L0,h1,h3,h26,h27,h28,H]
 ·show g.names.length-0<1000000; omega
 ·exact⟨by omega,h1,h3,h26,h27,h28,by simpa using H⟩
theorem eH {k:Nat}{kv rv:AV}{g:AX}{l:List AV}(hk:BI kv 1 (strs g.kinds))(hG:BP (.agg [kv,.str g.start,rv]) g)(hs:g.Small)(h0:0<g.rules.length)(ts:TS)(h1:ts.get 1=.AO 0 0)(h2:ts.get 2=.Cs)(st:St)(hst:st=⟨[(0,.cells 29 3 [kv,.str g.start,rv] false)],1,0⟩)(hok:g.Ok) :
 (Ar E (AU E (k+6)) (C.D 3 [(0,C.f 11 0 1,[]),(1,C.l 12 11,[]),(3,C.o 14 (.load (some 3)) [C.t 1],[2]),(6,C.f 17 0 1,[]),(7,C.l 18 17,[2,4,5]),(8,C.o 19 (.len .slice) [C.t 18],[]),(9,C.o 20 (.mkMap 1) [],[]),(2,C.o 13 (.call 95) [C.t 12],[]),(4,C.o 15 (.call 54) [C.t 14],[]),(5,C.o 16 (.append 0 9 1 16) [C.t 13,C.t 15],[]),(10,C.o 21 (.build [.AJ,.int .i64 0,.int .i64 0,.AJ,.AJ,.Dl] [(0,1),(1,1),(5,1)]) [C.t 16,C.t 19,C.t 20],[]),(11,C.o 22 (.box 2 158 6) [C.t 21],[]),(12,C.m 3 22,[])]) ts st).to
  fun x=>x.1=.normal/\x.2.1.get 1=.AO 0 0/\x.2.1.get 3=.AO 3 0/\NA [kv,.str g.start,rv] g [] x.2.2:=by
 have hkn:=hs.kinds
 have hrn:=hs.many
 have hll:=g.Fj
 obtain⟨h1',hh1⟩:∃h:Af,h=[(0,Ai.cells 29 3 [kv,.str g.start,rv] false)]:=⟨_,rfl⟩
 rw[← hh1] at hst
 subst hst
 have fg:AA h1' 0=some (.cells 29 3 [kv,.str g.start,rv] false):=by rw[hh1,AL,if_pos rfl]
 have hmem1:∀p x,(p,x)∈h1'->p=0:=fun p x hp=>by
  rw[hh1] at hp; simp at hp; exact hp.1
 have hb1:HB ⟨h1',1,0⟩:=fun p x hp=>by rw[hmem1 p x hp]; exact Nat.zero_lt_one
 have rk:AP h1' (.AO 0 0)=some kv:=by rw[AB fg]; rfl
 have rg:AZ h1' (.AO 0 0) 3=some [kv,.str g.start,rv]:=Ae fg rfl
 have hlk:∀S':St,BO .slice kv S'=some (.int .i64 (g.kinds.length:Int),S'):=fun S'=>by have:=hk.len (st:=S'); simpa using this
 obtain⟨h2',hh2⟩:∃h:Af,h=(2,Ai.map [] [] [] 0)::h1':=⟨_,rfl⟩
 have n2:newObj 2 (.map [] [] [] 0) ⟨h1',4,0⟩=some ⟨h2',4,0⟩:=by rw[hh2]; exact Ac fun p x hp=>by rw[hmem1 p x hp]; omega
 have hmem2:∀p x,(p,x)∈h2'->p=2∨p=0:=fun p x hp=>by
  rw[hh2] at hp
  rcases List.mem_cons.1 hp with e|e
  ·cases e; exact .inl rfl
  ·exact .inr (hmem1 p x e)
 have hb2:HB ⟨h2',4,0⟩:=fun p x hp=>by
  show p<4
  rcases hmem2 p x hp with e|e <;> omega
 have fg2:AA h2' 0=some (.cells 29 3 [kv,.str g.start,rv] false):=by rw[hh2,AL,if_neg (by omega)]; exact fg
 have fm2:AA h2' 2=some (.map [] [] [] 0):=by rw[hh2,AL,if_pos rfl]
 obtain⟨w,⟨h3,c3,lo3⟩,c1,c2,c3',Gw⟩:=IB (k:=k+5) (st:=⟨h2',4,0⟩) (by omega) hk hb2
 have hc4:4<=c3:=Gw.c
 have hlo3:lo3=0:=Gw.lo
 subst hlo3
 have Bw:∀p,p<4->AA h3 p=AA h2' p:=Gw.Bw
 have fg3:=(Bw 0 (by omega)).trans fg2
 have fm3:=(Bw 2 (by omega)).trans fm2
 have rk3:AP h3 (.AO 0 0)=some kv:=by rw[AB fg3]; rfl
 have rg3:AZ h3 (.AO 0 0) 3=some [kv,.str g.start,rv]:=Ae fg3 rfl
 obtain⟨wl,d1,d2⟩:=TE (k:=k) (st:=⟨h3,c3,0⟩) hG hs h0
 have hne:g.CB≠[]:=fun e=>by have:=hok.start; rw[e] at this; cases this
 rcases d2.out with⟨_,e⟩|⟨t,rfl⟩
 ·exfalso; apply hne; simpa [strs] using e
 have hids:∀p,Ah w=some p->4<=p:=fun p hp=>(c3' p hp).1
 have hn1:∀p x,(p,x)∈h3->p≠1:=fun p x hp e=>by
  subst e
  rcases hmem2 1 x (Gw.mem 1 x hp (by show 1<4; omega)) with e|e <;> omega
 obtain⟨h4,e1,e2,e3,e4,e5⟩:=uD (t:=t) (c:=c3) (lo:=0) (o:=1) Gw.hb hn1 (by omega) c2 (fun p hp=>⟨Nat.zero_le _,by have:=hids p hp; omega⟩) hne (by omega)
 have fr4:∀p,p<4->p≠1->AA h4 p=AA h2' p:=fun p hp hne=>(e4 p hne fun e=>by have:=hids p e; omega).trans (Bw p hp)
 have fg4:=(fr4 0 (by omega) (by omega)).trans fg2
 have rk4:AP h4 (.AO 0 0)=some kv:=by rw[AB fg4]; rfl
 have hn3:∀p x,(p,x)∈h4->p≠3:=fun p x hp e=>by
  subst e
  rcases e5 3 x hp with h|h
  ·omega
  ·rcases hmem2 3 x (Gw.mem 3 x h (by show 3<4; omega)) with e|e <;> omega
 have hnm:g.kinds.length+g.CB.length=g.names.length:=by unfold AX.names; simp
 rw[hnm] at e1
 have hbox:Dr 3 158 6 (.agg [.AQ 1 0 g.names.length none,.int .i64 (g.kinds.length:Int),.int .i64 0,.AJ,.AJ,.Bv 2])=some (.AO 3 0,.cells 158 6 [.AQ 1 0 g.names.length none,.int .i64 (g.kinds.length:Int),.int .i64 0,.AJ,.AJ,.Bv 2] false):=rfl
 obtain⟨h5,p1,p2,p3,p4⟩:=Fh (y:=.cells 158 6 [.AQ 1 0 g.names.length none,.int .i64 (g.kinds.length:Int),.int .i64 0,.AJ,.AJ,.Bv 2] false) hn3 e2 (by omega)
 simp[h1,h2,De,Cf,CV,Cv,beq_eq,AV.Cx,rk,rg,hlk,n2,c1,rk3,rg3,d1,e1,rk4,BB,BM,AV.isTuple,AV.cells,ble_eq,hbox,p1]
 refine⟨p3,rfl,by show 3<c3; omega,?_,?_,⟨[],0,?_⟩,?_⟩
 ·show AA h5 0=_; rw[p2,if_neg (by omega)]; exact fg4
 ·show AA h5 1=_; rw[p2,if_neg (by omega)]; exact e3
 ·show AA h5 2=_; rw[p2,if_neg (by omega),fr4 2 (by omega) (by omega)]; exact fm2
 ·show AA h5 3=_; rw[p2,if_pos rfl]
theorem aQ (l:List Nat):∀x∈ints l,x.cells.length=1:=fun x hx=>by
 simp only[ints,List.mem_map] at hx
 obtain⟨n,_,rfl⟩:=hx; rfl
theorem Jj (l:List Nat):(ints l).flatMap AV.cells=ints l:=by
 induction l with
 |nil=>rfl
 |cons n l ih=>show AV.cells (.int .i64 (n:Int))++(ints l).flatMap AV.cells=_; rw[ih]; rfl
theorem Ua (l:List Nat)(n:Nat):ints l++[.int .i64 (n:Int)]=ints (l++[n]):=by simp[ints]
theorem Lv {l:List Nat}:ints l=[]↔l=[]:=by cases l <;> simp[ints]
theorem Fa.il {h:Af}{id:Nat}{l:List Nat}(h0:l≠[])(hf:AA h id=some (.cells 3 1 (ints l) true)):Fa h 3 1 (.AQ id 0 l.length none) (ints l):=by
 have:=Fa.ob (h:=h) (ty:=3) (sz:=1) id (ints l) (fun e=>h0 (Lv.1 e)) (aQ l) (by rw[Jj]; exact hf)
 rwa [IU] at this
theorem kG (c:Nat)(n:Int):Ay c 3 1 1 [.int .i64 0] [0] [.int .i64 n]=some (.AQ c 0 1 (some 1),.cells 3 1 [.int .i64 n] false):=by simp[Ay,blt_eq,beq_eq,ble_eq,BB,BM,AV.isTuple,AV.cells]
theorem iX {h:Af}{c:Nat}{w:AV}{l:List Nat}(n:Nat)(hb:HB ⟨h,c,0⟩)(H:Fa h 3 1 w (ints l))(hw:∀p,Ah w=some p->p<c)(hl:l.length<=1000) :
 newObj c (.cells 3 1 [.int .i64 (n:Int)] false) ⟨h,c+2,0⟩=some ⟨(c,.cells 3 1 [.int .i64 (n:Int)] false)::h,c+2,0⟩ /\
 ∃h2,BU (c+1) 3 1 8 w (.AQ c 0 1 (some 1)) ⟨(c,.cells 3 1 [.int .i64 (n:Int)] false)::h,c+2,0⟩=some (.AQ (c+1) 0 (l.length+1) none,⟨h2,c+2,0⟩)/\HB ⟨h2,c+2,0⟩/\Fa h2 3 1 (.AQ (c+1) 0 (l.length+1) none) (ints (l++[n]))/\∀p,p<c->Ah w≠some p->AA h2 p=AA h p:=by
 refine⟨Ac hb,?_⟩
 obtain⟨h2,p1,p2,p3,p4⟩:=Wv (bytes:=8) (x:=.int .i64 (n:Int)) hb H (fun p hp=>⟨Nat.zero_le _,hw p hp⟩) (by omega) (by omega) (by simpa using hl) rfl
 rw[IU] at p1
 rw[Ua,Jj] at p3
 refine⟨h2,p1,p2,?_,p4⟩
 have:=Fa.il (by simp) p3
 rwa [List.length_append] at this
structure NB (g:AX)(h:Af):Prop where
 m2:Il h 2 g.names
 o3:∃a b c d e,AA h 3=some (.cells 158 6 [a,b,c,d,e,.Bv 2] false)
theorem NB.frame {g:AX}{h h':Af}(H:NB g h)(e2:AA h' 2=AA h 2)(e3:AA h' 3=AA h 3):NB g h':=
 ⟨H.m2.frame e2,by obtain⟨a,b,c,d,e,hf⟩:=H.o3; exact⟨a,b,c,d,e,e3.trans hf⟩⟩
structure NX (xb:Nat)(a lv:AV)(st0:St)(l:List Nat)(w:AV)(st:St):Prop where
 hb:HB st
 lo:st.lo=0
 fr:∀p,p<xb->AA st.h p=AA st0.h p
 x:AA st.h xb=some (.cells 160 3 [a,w,lv] false)
 xc:xb<st.c
 sl:Fa st.h 3 1 w (ints l)
 own:∀p,Ah w=some p->xb<p/\p<st.c
set_option maxHeartbeats 1000000 in
theorem eB {n:Nat}{g:AX}{r:Ba}{w1:AV}{xb:Nat}{a lv:AV}(hrm:∀s∈r.right,s∈g.names)(hrl:r.right.length<=30)(e2:BI w1 1 (strs r.right))(hxb:3<xb)(st0:St)(B:NB g st0.h)(H:NX xb a lv st0 [] .AJ st0)(a1 a2 a6 a50 a51 a52:AV)(ts0:TS)(z1:ts0.get 1=a1)(z2:ts0.get 2=a2)(z3:ts0.get 3=.AO 3 0)(z6:ts0.get 6=a6)(z8:ts0.get 8=.AO xb 0)(z50:ts0.get 50=a50)(z51:ts0.get 51=a51)(z52:ts0.get 52=a52)(h68:ts0.get 68=w1)(h69:ts0.get 69=.int .i64 (r.right.length:Int))(h70:ts0.get 70=.int .i64 ((0:Nat):Int)) :
 (CJ (Ar E (AU E n) C.f57L2) E.k ts0 st0).to fun x=>x.1=.exit 4/\x.2.1.get 1=a1/\x.2.1.get 2=a2/\x.2.1.get 3=.AO 3 0/\x.2.1.get 6=a6/\x.2.1.get 8=.AO xb 0/\x.2.1.get 50=a50/\x.2.1.get 51=a51/\x.2.1.get 52=a52/\∃w,NX xb a lv st0 (r.right.map g.ix) w x.2.2:=by
 refine Be (fun (i:Nat) ts st=>i<=r.right.length/\ts.get 1=a1/\ts.get 2=a2/\ts.get 3=.AO 3 0/\ts.get 6=a6/\ts.get 8=.AO xb 0/\ts.get 50=a50/\ts.get 51=a51/\ts.get 52=a52/\ts.get 68=w1/\ts.get 69=.int .i64 (r.right.length:Int)/\ts.get 70=.int .i64 (i:Int)/\∃w,NX xb a lv st0 ((r.right.map g.ix).take i) w st)
  (fun i=>r.right.length-i) ?_ _ 0 _ _ ?_ ?_
 ·rintro i ts st ⟨hi,z1,z2,z3,z6,z8,z50,z51,z52,h68,h69,h70,w,X⟩
  by_cases Au:i<r.right.length
  ·obtain⟨h,c,lo⟩:=st
   have hlo:lo=0:=X.lo
   subst hlo
   have hxc:xb<c:=X.xc
   have hown:∀p,Ah w=some p->xb<p/\p<c:=X.own
   have hx:=e2.JY (st:=⟨h,c+2,0⟩) Au
   have hx0:=e2.JY (st:=⟨h,c,0⟩) Au
   have B':NB g h:=B.frame (X.fr 2 (by omega)) (X.fr 3 (by omega))
   obtain⟨o1,o2,o3,o4,o5,hO⟩:=B'.o3
   have rm:AP h (.AO 3 5)=some (.Bv 2):=by rw[AB hO]; rfl
   have rx:AP h (.AO xb 1)=some w:=by rw[AB X.x]; rfl
   have hlook:=Il.look (st:=⟨h,c+2,0⟩) B'.m2 (hrm _ (List.getElem_mem Au))
   obtain⟨n1,h2,p1,p2,p3,p4⟩:=iX (GY r.right[i] g.names) X.hb X.sl (fun p hp=>(hown p hp).2) (by simp; omega)
   have hl:((r.right.map g.ix).take i).length=i:=by simp; omega
   rw[hl] at p1 p3
   have hfx:AA h2 xb=some (.cells 160 3 [a,w,lv] false):=(p4 xb (by omega) fun e=>by have:=hown xb e; omega).trans X.x
   have s1:=BX (st:=⟨h2,c+2,0⟩) (off:=1) (v:=.AQ (c+1) 0 (i+1) none) hfx (by show 0<=xb; omega) (by simp) rfl rfl
   simp only[List.set_cons_succ,List.set_cons_zero] at s1
   simp[C.f57L2,z1,z2,z3,z6,z8,z50,z51,z52,h68,h69,h70,Au,hx,hx0,rm,rx,hlook,kG,n1,p1,s1,wi i]
   have hsm:(r.right.map g.ix).take i++[GY r.right[i] g.names]=(r.right.map g.ix).take (i+1):=by rw[List.take_succ_eq_append_getElem (by simpa using Au),List.getElem_map]; rfl
   rw[hsm] at p3
   refine⟨i+1,by omega,by omega,by simp,.AQ (c+1) 0 (i+1) none,HB.Ab (st:=⟨h2,c+2,0⟩) p2,rfl,fun p hp=>?_,?_,by show xb<c+2; omega,p3.heap fun o ho=>?_,fun p hp=>?_⟩
   ·show AA (Ab h2 xb _) p=_
    rw[AR hfx,if_neg (by omega),p4 p (by omega) fun e=>by have:=hown p e; omega]
    exact X.fr p hp
   ·show AA (Ab h2 xb _) xb=_
    rw[AR hfx,if_pos rfl]
   ·simp only[Ah,Option.some.injEq] at ho
    rw[AR hfx,if_neg (by omega)]
   ·simp only[Ah,Option.some.injEq] at hp
    show xb<p/\p<c+2
    omega
  ·have:i=r.right.length:=by omega
   subst this
   rw[List.take_of_length_le (by simp)] at X
   simp[C.f57L2,z1,z2,z3,z6,z8,z50,z51,z52,h68,h69,h70]
   exact⟨w,X⟩
 ·show r.right.length-0<1000000; omega
 ·exact⟨by omega,z1,z2,z3,z6,z8,z50,z51,z52,h68,h69,h70,.AJ,by simpa using H⟩
def Mk (g:AX)(i s:Nat):List Nat:=(List.range i).filter fun j=>g.ix (g.rules.getD j default).left==s
theorem dn (g:AX)(i s:Nat):Mk g (i+1) s=Mk g i s++(if g.ix (g.rules.getD i default).left=s then [i] else []):=by
 unfold Mk
 rw[List.range_succ,List.filter_append]
 by_cases h:g.ix (g.rules.getD i default).left=s
 ·rw[if_pos h]
  congr 1
  rw[List.filter_cons_of_pos (by simpa using h),List.filter_nil]
 ·rw[if_neg h]
  congr 1
  rw[List.filter_cons_of_neg (by simpa using h),List.filter_nil]
theorem Qn (g:AX)(i s:Nat):(Mk g i s).length<=i:=by
 unfold Mk
 have:=List.length_filter_le (fun j=>g.ix (g.rules.getD j default).left==s) (List.range i)
 simpa using this
structure NS (gs:List AV)(g:AX)(f:Nat)(R:Nat->Nat)(i:Nat)(rv:AV)(rl ol:List AV)(st:St):Prop where
 hb:HB st
 lo:st.lo=0
 f3:3<f
 fc:f<st.c
 R3:∀p,p<=3->R p=p
 Rf:R f=4
 g0:AA st.h 0=some (.cells 29 3 gs false)
 n1:AA st.h 1=some (.cells 9 1 (strs g.names) true)
 m2:Il st.h 2 g.names
 o3:AA st.h 3=some (.cells 158 6 [.AQ 1 0 g.names.length none,.int .i64 (g.kinds.length:Nat),.int .i64 0,rv,.AQ f 0 g.names.length (some g.names.length),.Bv 2] false)
 f4:AA st.h f=some (.cells 22 1 ol false)
 ru:Fa st.h 160 3 rv rl
 BV:∀p,Ah rv=some p->p<st.c/\R p=5
 iP:rl.length=i
 rr:∀j (hj:j<i) (hj2:j<g.rules.length),∃w,rl[j]?=some (.agg [.int .i64 (g.ix g.rules[j].left:Nat),w,.int .i64 g.rules[j].level])/\Fa st.h 3 1 w (ints (g.rules[j].right.map g.ix))/\∀p,Ah w=some p->p<st.c/\R p=10+2*j
 sQ:ol.length=g.names.length
 vU:∀s,s<g.names.length->∃w,ol[s]?=some w/\Fa st.h 3 1 w (ints (Mk g i s))/\∀p,Ah w=some p->p<st.c/\R p=11+2*s
set_option maxHeartbeats 4000000 in
theorem iw {n:Nat}{kv rv0:AV}{g:AX}{l:List AV}{f i:Nat}{R:Nat->Nat}{rv:AV}{rl ol:List AV}(hr:BI rv0 3 l)(hrs:Bt l g.rules)(hs:g.Small)(hok:g.Ok)(st:St)(H:NS [kv,.str g.start,rv0] g f R i rv rl ol st)(Au:i<g.rules.length)(ts:TS)(a2:AV)(z1:ts.get 1=.AO 0 0)(z2:ts.get 2=a2)(z3:ts.get 3=.AO 3 0)(z50:ts.get 50=rv0)(z51:ts.get 51=.int .i64 (g.rules.length:Int))(z52:ts.get 52=.int .i64 (i:Int)) :
 (Ar E (AU E n) C.f57L1 ts st).to fun x=>x.1=.normal/\x.2.1.get 1=.AO 0 0/\x.2.1.get 2=a2/\x.2.1.get 3=.AO 3 0/\x.2.1.get 50=rv0/\x.2.1.get 51=.int .i64 (g.rules.length:Int)/\x.2.1.get 52=.int .i64 ((i+1:Nat):Int)/\∃R' rv' rl' ol',NS [kv,.str g.start,rv0] g f R' (i+1) rv' rl' ol' x.2.2:=by
 have hln:=hrs.length
 have hmany:=hs.many
 have hnl:=AX.DD hs
 have hil:i<l.length:=by omega
 obtain⟨w1,e1,e2⟩:=(hrs.get i Au).2
 have hmem:=List.getElem_mem Au
 have hsm:=hs.rules _ hmem
 have hsr:=hsm.right
 obtain⟨h,c,lo⟩:=st
 have hlo:lo=0:=H.lo
 subst hlo
 have hb':∀p x,(p,x)∈h->p<c:=H.hb
 have hf3:=H.f3
 have hfc:f<c:=H.fc
 obtain⟨rc,hrc⟩:∃rc:List AV,rc=[.str g.rules[i].left,w1,.int .i64 g.rules[i].level]:=⟨_,rfl⟩
 obtain⟨h1,hh1⟩:∃h1:Af,h1=(c,Ai.cells 68 3 rc false)::h:=⟨_,rfl⟩
 have hb1:HB ⟨h1,c+1,0⟩:=hh1 ▸ HB.cons (h:=h) (c:=c) (lo:=0) H.hb (by omega) (by omega)
 have fr1:∀p,p<c->AA h1 p=AA h p:=fun p hp=>by rw[hh1,Ao hp]
 have hix:Aa 3 rv0 (.int .i64 (i:Int)) ⟨h,c+1,0⟩=some (.BC l[i].cells,⟨h,c+1,0⟩):=hr.idx hil
 have hcells:l[i].cells=rc:=by rw[e1,hrc]; rfl
 rw[hcells] at hix
 have hn:newObj c (.cells 68 3 [.str [],.AJ,.int .i64 0] false) ⟨h,c+1,0⟩=some ⟨(c,.cells 68 3 [.str [],.AJ,.int .i64 0] false)::h,c+1,0⟩:=Ac hb'
 have hst:=CO (h:=h) (c:=c) (c':=c+1) (lo:=0) (ty:=68) (n:=3) (zs:=[.str [],.AJ,.int .i64 0]) (vs:=rc) (by omega) (by rw[hrc]; rfl) rfl
 rw[← hh1] at hst
 have hrd3:AZ h (.BC rc) 3=some rc:=by rw[hrc]; rfl
 have fc:AA h1 c=some (.cells 68 3 rc false):=by rw[hh1,AL,if_pos rfl]
 have rc0:AP h1 (.AO c 0)=some (.str g.rules[i].left):=by rw[AB fc,hrc]; rfl
 have rc2:AP h1 (.AO c 2)=some (.int .i64 g.rules[i].level):=by rw[AB fc,hrc]; rfl
 have rm1:AP h1 (.AO 3 5)=some (.Bv 2):=by rw[AB ((fr1 3 (by omega)).trans H.o3)]; rfl
 have hlook:=Il.look (st:=⟨h1,c+1+1,0⟩) (H.m2.frame (fr1 2 (by omega))) (AX.Ch hmem)
 obtain⟨sI,hsI⟩:∃s,s=GY g.rules[i].left g.names:=⟨_,rfl⟩
 have hsn:sI<g.names.length:=by rw[hsI]; exact (DF (AX.Ch hmem)).1
 rw[← hsI] at hlook
 have hn2:newObj (c+1) (.cells 160 3 [.int .i64 0,.AJ,.int .i64 0] false) ⟨h1,c+1+1,0⟩=some ⟨(c+1,.cells 160 3 [.int .i64 0,.AJ,.int .i64 0] false)::h1,c+1+1,0⟩:=Ac hb1
 have hst2:=CO (h:=h1) (c:=c+1) (c':=c+1+1) (lo:=0) (ty:=160) (n:=3) (zs:=[.int .i64 0,.AJ,.int .i64 0]) (vs:=[.int .i64 (sI:Int),.AJ,.int .i64 g.rules[i].level]) (by omega) rfl rfl
 obtain⟨h2,hh2⟩:∃h2:Af,h2=(c+1,Ai.cells 160 3 [.int .i64 (sI:Int),.AJ,.int .i64 g.rules[i].level] false)::h1:=⟨_,rfl⟩
 rw[← hh2] at hst2
 have hb2:HB ⟨h2,c+1+1,0⟩:=hh2 ▸ HB.cons (h:=h1) (c:=c+1) (lo:=0) hb1 (by omega) (by omega)
 have fr2:∀p,p<c->AA h2 p=AA h p:=fun p hp=>by rw[hh2,Ao (by omega),fr1 p hp]
 have fc2:AA h2 c=some (.cells 68 3 rc false):=by rw[hh2,Ao (by omega)]; exact fc
 have rc1:AP h2 (.AO c 1)=some w1:=by rw[AB fc2,hrc]; rfl
 have hlr:BO .slice w1 ⟨h2,c+1+1,0⟩=some (.int .i64 (g.rules[i].right.length:Int),⟨h2,c+1+1,0⟩):=by have:=e2.len (st:=⟨h2,c+1+1,0⟩); simpa using this
 have B0:NB g h2:=⟨H.m2.frame (fr2 2 (by omega)),⟨_,_,_,_,_,(fr2 3 (by omega)).trans H.o3⟩⟩
 have X0:NX (c+1) (.int .i64 (sI:Int)) (.int .i64 g.rules[i].level) ⟨h2,c+1+1,0⟩ [] .AJ ⟨h2,c+1+1,0⟩:=⟨hb2,rfl,fun _ _=>rfl,by show AA h2 (c+1)=_; rw[hh2,AL,if_pos rfl],by show c+1<c+1+1; omega,.nl,fun p hp=>by cases hp⟩
 have loop:=eB (n:=n) (r:=g.rules[i]) (xb:=c+1) (a:=.int .i64 (sI:Int)) (lv:=.int .i64 g.rules[i].level) (fun s hs=>AX.FK hok hmem hs) hsr e2 (by omega) ⟨h2,c+1+1,0⟩ B0 X0 (.AO 0 0) a2
 simp[C.f57L1,z1,z2,z3,z50,z51,z52,Au,hix,-Aw,hrd3,hn,hst,rm1,rc0,hlook,rc2,BB,BM,AV.isTuple,AV.cells,beq_eq,ble_eq,hn2,hst2,rc1,hlr]
 refine M.Al (loop _ _ _ _ _ (by simp[z1]) (by simp[z2]) (by simp[z3]) (by simp; rfl) (by simp) (by simp[z50]; rfl) (by simp[z51]; rfl) (by simp[z52]; rfl) (by simp) (by simp) (by simp)) fun x hx=>?_
 obtain⟨e,ts1,st3⟩:=x
 obtain⟨ee,g1,g2,g3,g6,g8,g50,g51,g52,w,X⟩:=hx
 simp only at ee g1 g2 g3 g6 g8 g50 g51 g52 X
 subst ee
 obtain⟨h3,c3,lo3⟩:=st3
 have hlo3:lo3=0:=X.lo
 subst hlo3
 have hxc:c+1<c3:=X.xc
 have F3:∀p,p<c->AA h3 p=AA h p:=fun p hp=>(X.fr p (by omega)).trans (fr2 p hp)
 have hown:∀p,Ah w=some p->c+1<p/\p<c3:=X.own
 have hxr:AZ h3 (.AO (c+1) 0) 3=some [.int .i64 (sI:Int),w,.int .i64 g.rules[i].level]:=Ae X.x rfl
 have r33:AP h3 (.AO 3 3)=some rv:=by rw[AB ((F3 3 (by omega)).trans H.o3)]; rfl
 have hrid:∀p,Ah rv=some p->p<c/\R p=5:=H.BV
 obtain⟨xv,hxv⟩:∃xv:List AV,xv=[.int .i64 (sI:Int),w,.int .i64 g.rules[i].level]:=⟨_,rfl⟩
 rw[← hxv] at hxr
 have hwone:w.isTuple=false/\w.cells=[w]:=X.sl.one
 have hbs:Ay c3 160 3 1 [.int .i64 0,.AJ,.int .i64 0] [0] [.agg xv]=some (.AQ c3 0 1 (some 1),.cells 160 3 xv false):=by
  rw[hxv]; simp[Ay,blt_eq,beq_eq,ble_eq,BB,BM,AV.isTuple,AV.cells]
 have hn3:newObj c3 (.cells 160 3 xv false) ⟨h3,c3+2,0⟩=some ⟨(c3,.cells 160 3 xv false)::h3,c3+2,0⟩:=Ac X.hb
 have M3:Fa h3 160 3 rv rl:=H.ru.heap fun o ho=>F3 o (hrid o ho).1
 obtain⟨h4,p1,p2,p3,p4⟩:=Wv (bytes:=40) (x:=.agg xv) X.hb M3 (fun p hp=>⟨Nat.zero_le _,by have:=(hrid p hp).1; omega⟩) (by omega) (by omega) (by rw[H.iP]; omega) (by rw[hxv]; rfl)
 have p1':BU (c3+1) 160 3 40 rv (.AQ c3 0 1 (some 1)) ⟨(c3,.cells 160 3 xv false)::h3,c3+2,0⟩=some (.AQ (c3+1) 0 (i+1) none,⟨h4,c3+2,0⟩):=by have:=p1; rw[H.iP] at this; exact this
 have hr3:∀p,p<=3->Ah rv≠some p:=fun p hp e=>by have h1:=(hrid p e).2; have h2:=H.R3 p hp; omega
 have hrf:Ah rv≠some f:=fun e=>by have h1:=(hrid f e).2; have h2:=H.Rf; omega
 have o34:AA h4 3=_:=(p4 3 (by omega) (hr3 3 (by omega))).trans ((F3 3 (by omega)).trans H.o3)
 have s4:=BX (st:=⟨h4,c3+2,0⟩) (off:=3) (v:=.AQ (c3+1) 0 (i+1) none) o34 (by show 0<=3; omega) (by simp) rfl rfl
 simp only[List.set_cons_succ,List.set_cons_zero] at s4
 obtain⟨ob5,hob5⟩:∃ob,ob=Ai.cells 158 6 [.AQ 1 0 g.names.length none,.int .i64 (g.kinds.length:Nat),.int .i64 0,.AQ (c3+1) 0 (i+1) none,.AQ f 0 g.names.length (some g.names.length),.Bv 2] false:=⟨_,rfl⟩
 rw[← hob5] at s4
 obtain⟨h5,hh5⟩:∃h5:Af,h5=Ab h4 3 ob5:=⟨_,rfl⟩
 rw[← hh5] at s4
 have F5:∀p,p<c3->p≠3->Ah rv≠some p->AA h5 p=AA h3 p:=fun p hp h3 hne=>by rw[hh5,AR o34,if_neg (Ne.symm h3)]; exact p4 p hp hne
 have hb5:HB ⟨h5,c3+2,0⟩:=hh5 ▸ HB.Ab (st:=⟨h4,c3+2,0⟩) p2
 have o35:AA h5 3=some ob5:=by rw[hh5,AR o34,if_pos rfl]
 obtain⟨wof,q1,q2,q3⟩:=H.vU sI hsn
 have q3':∀p,Ah wof=some p->p<c/\R p=11+2*sI:=q3
 have hdis:∀p,Ah wof=some p->Ah rv≠some p:=fun p h1 h2=>by have:=(q3' p h1).2; have:=(hrid p h2).2; omega
 have hof3:∀p,p<=3->Ah wof≠some p:=fun p hp e=>by have h1:=(q3' p e).2; have h2:=H.R3 p hp; omega
 have hoff:Ah wof≠some f:=fun e=>by have h1:=(q3' f e).2; have h2:=H.Rf; omega
 have f45:AA h5 f=some (.cells 22 1 ol false):=(F5 f (by omega) (by omega) hrf).trans ((F3 f hfc).trans H.f4)
 have x5:AA h5 (c+1)=some (.cells 160 3 xv false):=by rw[hxv]; exact (F5 (c+1) hxc (by omega) fun e=>by have:=(hrid _ e).1; omega).trans X.x
 have r34:AP h5 (.AO 3 4)=some (.AQ f 0 g.names.length (some g.names.length)):=by rw[AB (o35.trans (by rw[hob5]))]; rfl
 have rx0:AP h5 (.AO (c+1) 0)=some (.int .i64 (sI:Int)):=by rw[AB x5,hxv]; rfl
 have rf:AP h5 (.AO f sI)=some wof:=by rw[AB f45]; exact q1
 have ixf:=Gc (st:=⟨h5,c3+2+2,0⟩) (n:=g.names.length) (cap:=some g.names.length) f45 hsn
 have M5:Fa h5 3 1 wof (ints (Mk g i sI)):=q2.heap fun o ho=>(F5 o (by have:=(q3' o ho).1; omega) (fun e=>hof3 3 (by omega) (e ▸ ho)) (hdis o ho)).trans (F3 o (q3' o ho).1)
 have hol:=Qn g i sI
 obtain⟨n5,h6,t1,t2,t3,t4⟩:=iX i hb5 M5 (fun p hp=>by have:=(q3' p hp).1; omega) (by omega)
 have r34':AP h6 (.AO 3 4)=some (.AQ f 0 g.names.length (some g.names.length)):=by rw[AB ((t4 3 (by omega) (hof3 3 (by omega))).trans (o35.trans (by rw[hob5])))]; rfl
 have rx0':AP h6 (.AO (c+1) 0)=some (.int .i64 (sI:Int)):=by rw[AB ((t4 (c+1) (by omega) fun e=>by have:=(q3' _ e).1; omega).trans x5),hxv]; rfl
 have f46:AA h6 f=some (.cells 22 1 ol false):=(t4 f (by omega) hoff).trans f45
 have ixf6:=Gc (st:=⟨h6,c3+2+2,0⟩) (n:=g.names.length) (cap:=some g.names.length) f46 hsn
 have s6:=BX (st:=⟨h6,c3+2+2,0⟩) (off:=sI) (v:=.AQ (c3+2+1) 0 ((Mk g i sI).length+1) none) f46 (by show 0<=f; omega) (by rw[H.sQ]; exact hsn) rfl rfl
 simp[g1,g2,g3,g6,g8,g50,g51,g52,De,Dx,Cf,CV,Cv,beq_eq,AV.Cx,r33,hxr,hbs,hn3,p1',s4,r34,rx0,rf,ixf,kG,n5,t1,r34',rx0',ixf6,s6,wi i]
 obtain⟨ol',hol'⟩:∃o,o=ol.set sI (.AQ (c3+2+1) 0 ((Mk g i sI).length+1) none):=⟨_,rfl⟩
 rw[← hol']
 obtain⟨h7,hh7⟩:∃h7:Af,h7=Ab h6 f (.cells 22 1 ol' false):=⟨_,rfl⟩
 rw[← hh7]
 have F7:∀p,p<c3->p≠3->p≠f->Ah rv≠some p->Ah wof≠some p->AA h7 p=AA h3 p:=fun p hp e3 ef er eo=>by
  rw[hh7,AR f46,if_neg (Ne.symm ef),t4 p (by omega) eo]; exact F5 p hp e3 er
 have F7c:∀p,p<c->p≠3->p≠f->Ah rv≠some p->Ah wof≠some p->AA h7 p=AA h p:=fun p hp e3 ef er eo=>(F7 p (by omega) e3 ef er eo).trans (F3 p hp)
 have hRn:∀p ρ,p<c->R p=ρ->5<ρ->ρ≠11+2*sI->p≠3/\p≠f/\Ah rv≠some p/\Ah wof≠some p:=fun p ρ hp hR h5 hne=>by
  refine⟨fun e=>?_,fun e=>?_,fun e=>?_,fun e=>?_⟩
  ·subst e; have:=H.R3 3 (by omega); omega
  ·subst e; have:=H.Rf; omega
  ·have:=(hrid p e).2; omega
  ·have:=(q3' p e).2; omega
 have hgi:g.rules.getD i default=g.rules[i]:=by simp[List.getD,Au]
 have hixI:g.ix g.rules[i].left=sI:=by rw[hsI]; rfl
 refine⟨fun p=>if p<c then R p else if p=c3+1 then 5 else if p=c3+2+1 then 11+2*sI else 10+2*i,.AQ (c3+1) 0 (i+1) none,rl++[.agg xv],ol',
  ⟨by rw[hh7]; exact HB.Ab (st:=⟨h6,c3+2+2,0⟩) t2,rfl,hf3,by show f<c3+2+2; omega,fun p hp=>by rw[if_pos (by omega)]; exact H.R3 p hp,by rw[if_pos hfc]; exact H.Rf,?_,?_,?_,?_,?_,?_,?_,?_,?_,?_,?_⟩⟩
 ·exact (F7c 0 (by omega) (by omega) (by omega) (hr3 0 (by omega)) (hof3 0 (by omega))).trans H.g0
 ·exact (F7c 1 (by omega) (by omega) (by omega) (hr3 1 (by omega)) (hof3 1 (by omega))).trans H.n1
 ·exact H.m2.frame (F7c 2 (by omega) (by omega) (by omega) (hr3 2 (by omega)) (hof3 2 (by omega)))
 ·show AA h7 3=_
  rw[hh7,AR f46,if_neg (by omega),t4 3 (by omega) (hof3 3 (by omega)),o35,hob5]
 ·show AA h7 f=_
  rw[hh7,AR f46,if_pos rfl]
 ·have hM4:Fa h4 160 3 (.AQ (c3+1) 0 (i+1) none) (rl++[.agg xv]):=by
   have hall:∀x∈rl++[AV.agg xv],x.cells.length=3:=fun x hx=>by
    rcases List.mem_append.1 hx with h|h
    ·obtain⟨j,hj,rfl⟩:=List.getElem_of_mem h
     have hj':j<i:=by rw[← H.iP]; exact hj
     obtain⟨w',e',_⟩:=H.rr j hj' (by omega)
     rw[List.getElem?_eq_getElem hj,Option.some.injEq] at e'
     rw[e']; rfl
    ·simp only[List.mem_singleton] at h; subst h; rw[hxv]; rfl
   have:=Fa.ob (h:=h4) (ty:=160) (sz:=3) (c3+1) (rl++[.agg xv]) (by simp) hall p3
   rw[List.length_append,H.iP] at this
   exact this
  refine hM4.heap fun o ho=>?_
  simp only[Ah,Option.some.injEq] at ho
  subst ho
  show AA h7 (c3+1)=AA h4 (c3+1)
  rw[hh7,AR f46,if_neg (by omega),t4 (c3+1) (by omega) (fun e=>by have:=(q3' _ e).1; omega),hh5,AR o34,if_neg (by omega)]
 ·intro p hp
  simp only[Ah,Option.some.injEq] at hp
  subst hp
  exact⟨by show c3+1<c3+2+2; omega,by rw[if_neg (by omega),if_pos rfl]⟩
 ·rw[List.length_append,H.iP]; rfl
 ·intro j hj hj2
  by_cases e:j=i
  ·subst e
   refine⟨w,?_,?_,fun p hp=>?_⟩
   ·rw[List.getElem?_append_right (by rw[H.iP]; omega),H.iP,Nat.sub_self,hxv,hixI]; rfl
   ·refine X.sl.heap fun o ho=>?_
    have:=hown o ho
    exact F7 o this.2 (by omega) (by omega) (fun e=>by have:=(hrid o e).1; omega) (fun e=>by have:=(q3' o e).1; omega)
   ·have:=hown p hp
    exact⟨by show p<c3+2+2; omega,by rw[if_neg (by omega),if_neg (by omega),if_neg (by omega)]⟩
  ·obtain⟨w',a1,a2',a3⟩:=H.rr j (by omega) hj2
   refine⟨w',?_,a2'.heap fun o ho=>?_,fun p hp=>?_⟩
   ·rw[List.getElem?_append_left (by rw[H.iP]; omega)]; exact a1
   ·obtain⟨b1,b2⟩:=a3 o ho
    obtain⟨c1,c2,c3',c4⟩:=hRn o _ b1 b2 (by omega) (by omega)
    exact F7c o b1 c1 c2 c3' c4
   ·obtain⟨b1,b2⟩:=a3 p hp
    have b1':p<c:=b1
    exact⟨by show p<c3+2+2; omega,by rw[if_pos b1']; exact b2⟩
 ·rw[hol',List.length_set]; exact H.sQ
 ·intro s hs
  have hos:=dn g i s
  rw[hgi,hixI] at hos
  by_cases e:s=sI
  ·subst e
   rw[if_pos rfl] at hos
   refine⟨.AQ (c3+2+1) 0 ((Mk g i s).length+1) none,?_,?_,fun p hp=>?_⟩
   ·rw[hol',List.getElem?_set_self (by rw[H.sQ]; exact hs)]
   ·rw[hos]
    refine t3.heap fun o ho=>?_
    simp only[Ah,Option.some.injEq] at ho
    subst ho
    show AA h7 (c3+2+1)=_
    rw[hh7,AR f46,if_neg (by omega)]
   ·simp only[Ah,Option.some.injEq] at hp
    subst hp
    exact⟨by show c3+2+1<c3+2+2; omega,by rw[if_neg (by omega),if_neg (by omega),if_pos rfl]⟩
  ·rw[if_neg (fun h=>e h.symm),List.append_nil] at hos
   obtain⟨w',a1,a2',a3⟩:=H.vU s hs
   refine⟨w',?_,?_,fun p hp=>?_⟩
   ·rw[hol',List.getElem?_set_ne (fun h=>e h.symm)]; exact a1
   ·rw[hos]
    refine a2'.heap fun o ho=>?_
    obtain⟨b1,b2⟩:=a3 o ho
    obtain⟨c1,c2,c3',c4⟩:=hRn o _ b1 b2 (by omega) (by omega)
    exact F7c o b1 c1 c2 c3' c4
   ·obtain⟨b1,b2⟩:=a3 p hp
    have b1':p<c:=b1
    exact⟨by show p<c3+2+2; omega,by rw[if_pos b1']; exact b2⟩
theorem JE {c:Nat}:∀{l:List AV},(∀x∈l,x.Bw c=true)->AV.CL c l=true
 |[],_=>rfl
 |x::l,h=>by simp[AV.CL,h x (by simp),JE fun y hy=>h y (List.mem_cons_of_mem _ hy)]
theorem Nb (c:Nat)(l:List Nat):AV.CL c (ints l)=true:=JE fun x hx=>by
 simp only[ints,List.mem_map] at hx
 obtain⟨n,_,rfl⟩:=hx; rfl
theorem BI.uG {v:AV}{l:List Nat}(h:BI v 1 (ints l))(c:Nat):v.Bw c=true:=by
 rcases h.out with⟨rfl,_⟩|⟨t,rfl⟩
 ·rfl
 ·exact Nb c _
structure FC (v:AV)(g:AX):Prop where
 out:∃nv rv ov lr lo,v=.BC [nv,.int .i64 (g.kinds.length:Nat),.int .i64 (g.ix g.start:Nat),rv,ov,.GM (strs g.names) (ints (List.range g.names.length))]/\BI nv 1 (strs g.names) /\
  BI rv 3 lr/\lr.length=g.rules.length/\(∀j (hj:j<g.rules.length),∃w,lr[j]?=some (.agg [.int .i64 (g.ix g.rules[j].left:Nat),w,.int .i64 g.rules[j].level])/\BI w 1 (ints (g.rules[j].right.map g.ix))) /\
  BI ov 1 lo/\lo.length=g.names.length/\∀s,s<g.names.length->∃w,lo[s]?=some w/\BI w 1 (ints (Mk g g.rules.length s))
theorem FC.Gi {v:AV}{g:AX}(H:FC v g)(c:Nat):v.Bw c=true:=by
 obtain⟨nv,rv,ov,lr,lo,rfl,h1,h2,h3,h4,h5,h6,h7⟩:=H.out
 have o1:=h1.Gi c
 have o2:rv.Bw c=true:=by
  rcases h2.out with⟨rfl,_⟩|⟨t,rfl⟩
  ·rfl
  ·refine JE fun x hx=>?_
   obtain⟨j,hj,rfl⟩:=List.getElem_of_mem hx
   obtain⟨w,e,hw⟩:=h4 j (by omega)
   rw[List.getElem?_eq_getElem hj,Option.some.injEq] at e
   rw[e]
   simp[AV.Bw,AV.CL,hw.uG c]
 have o3:ov.Bw c=true:=by
  rcases h5.out with⟨rfl,_⟩|⟨t,rfl⟩
  ·rfl
  ·refine JE fun x hx=>?_
   obtain⟨j,hj,rfl⟩:=List.getElem_of_mem hx
   obtain⟨w,e,hw⟩:=h7 j (by omega)
   rw[List.getElem?_eq_getElem hj,Option.some.injEq] at e
   rw[e]; exact hw.uG c
 simp[AV.Bw,AV.CL,o1,o2,o3,Dq,Nb]
theorem Pw {f:AV->Option AV}{T:AV->AV}:∀{l:List AV},(∀x∈l,f x=some (T x))->CP f l=some (l.map T)
 |[],_=>rfl
 |x::l,h=>by simp[CP,h x (by simp),Pw fun y hy=>h y (List.mem_cons_of_mem _ hy)]
theorem nu {T:AV->AV}:∀{rl:List AV},(∀x∈rl,∃a b d,x=.agg [a,b,d])->rows 3 rl.length ((rl.flatMap AV.cells).map T)=rl.map fun x=>.agg (x.cells.map T)
 |[],_=>rfl
 |x::rl,h=>by
  obtain⟨a,b,d,rfl⟩:=h x (by simp)
  have ih:=nu (T:=T) (rl:=rl) fun y hy=>h y (List.mem_cons_of_mem _ hy)
  simp[rows,AV.cells,beq_eq,List.flatMap_cons] at ih ⊢
  exact ih
theorem Fa.tZ {h:Af}{w:AV}{l:List Nat}(H:Fa h 3 1 w (ints l))(n:Nat):∃w',Bp 0 h (n+2) w=some w'/\BI w' 1 (ints l):=by
 generalize hxs:ints l=xs at H
 cases H with
 |nl=>exact⟨.AJ,Fe rfl,⟨.inl ⟨rfl,rfl⟩⟩⟩
 |mt id ext hf=>
  have ht:CP (Bp 0 h (n+1)) ((([]:List AV).drop 0).take (0*1))=some []:=rfl
  exact⟨_,FN (Nat.zero_le _) hf (by omega) (by simp) ht,⟨.inr ⟨_,rfl⟩⟩⟩
 |ob id _ h0 hc hf=>
  subst hxs
  rw[Jj] at hf
  have ht:CP (Bp 0 h (n+1)) (((ints l).drop 0).take ((ints l).length*1))=some (ints l):=by
   rw[List.drop_zero,Nat.mul_one,List.take_length]; exact DY (Nb 0 l)
  refine⟨_,FN (Nat.zero_le _) hf (by omega) (by omega) ht,⟨.inr ⟨false,?_⟩⟩⟩
  rw[IZ]
theorem Lj (v:AV):∀n,CQ [v] n=List.replicate n v
 |0=>rfl
 |n+1=>by rw[CQ,Lj v n]; rfl
theorem FP {call:Nat->List AV->St->M (AV × St)}{a b:Ag}{ts:TS}{st:St}{Q R:Hd × TS × St->Prop}(ha:(Ar E call a ts st).to Q)(hb:∀x,Q x->x.1=.normal/\(Ar E call b x.2.1 x.2.2).to R):(Ar E call (.seq a b) ts st).to R:=by
 rw[Nh]
 refine M.Al ha fun x hx=>?_
 obtain⟨e,ts1,st1⟩:=x
 obtain⟨h1,h2⟩:=hb _ hx
 simp only at h1 h2
 subst h1
 exact h2
section
variable {k:Nat}{g:AX}{kv rv0:AV}{l:List AV}
theorem eD {n:Nat}(hr:BI rv0 3 l)(hrs:Bt l g.rules)(hs:g.Small)(hok:g.Ok)(f:Nat)(R0:Nat->Nat)(rv1:AV)(rl0 ol0:List AV)(st0:St)(H:NS [kv,.str g.start,rv0] g f R0 0 rv1 rl0 ol0 st0)(a2:AV)(ts0:TS)(z1:ts0.get 1=.AO 0 0)(z2:ts0.get 2=a2)(z3:ts0.get 3=.AO 3 0)(z50:ts0.get 50=rv0)(z51:ts0.get 51=.int .i64 (g.rules.length:Int))(z52:ts0.get 52=.int .i64 ((0:Nat):Int)) :
 (CJ (Ar E (AU E n) C.f57L1) E.k ts0 st0).to fun x=>x.1=.exit 2/\x.2.1.get 1=.AO 0 0/\x.2.1.get 3=.AO 3 0/\∃R rv rl ol,NS [kv,.str g.start,rv0] g f R g.rules.length rv rl ol x.2.2:=by
 have hmany:=hs.many
 refine Be (fun (i:Nat) ts st=>i<=g.rules.length/\ts.get 1=.AO 0 0/\ts.get 2=a2/\ts.get 3=.AO 3 0/\ts.get 50=rv0/\ts.get 51=.int .i64 (g.rules.length:Int)/\ts.get 52=.int .i64 (i:Int)/\∃R rv rl ol,NS [kv,.str g.start,rv0] g f R i rv rl ol st)
  (fun i=>g.rules.length-i) ?_ _ 0 _ _ ?_ ?_
 ·rintro i ts st ⟨hi,z1,z2,z3,z50,z51,z52,R,rv,rl,ol,X⟩
  by_cases Au:i<g.rules.length
  ·refine M.VG (iw (n:=n) hr hrs hs hok st X Au ts a2 z1 z2 z3 z50 z51 z52) fun x hx=>?_
   obtain⟨e,ts1,st1⟩:=x
   obtain⟨e1,g1,g2,g3,g50,g51,g52,X'⟩:=hx
   simp only at e1 g1 g2 g3 g50 g51 g52 X'
   subst e1
   exact⟨i+1,by omega,by omega,g1,g2,g3,g50,g51,g52,X'⟩
  ·have:i=g.rules.length:=by omega
   subst this
   simp[C.f57L1,z1,z3,z51,z52]
   exact⟨R,rv,rl,ol,X⟩
 ·show g.rules.length-0<1000000; omega
 ·exact⟨by omega,z1,z2,z3,z50,z51,z52,R0,rv1,rl0,ol0,H⟩
set_option maxHeartbeats 2000000 in
theorem iy (hg:BP (.agg [kv,.str g.start,rv0]) g)(hs:g.Small)(hok:g.Ok) :
 (Ar E (AU E (k+6)) C.f57.body (TS.CY [.agg [kv,.str g.start,rv0]] 0 .nil) ⟨[],0,0⟩).to fun x=>x.1=.ret/\x.2.1.get 2=.AO 3 0/\∃f R rv rl ol o3,NS [kv,.str g.start,rv0] g f R g.rules.length rv rl ol ⟨o3,x.2.2.c,0⟩ /\
  x.2.2.h=Ab o3 3 (.cells 158 6 [.AQ 1 0 g.names.length none,.int .i64 (g.kinds.length:Nat),.int .i64 (g.ix g.start:Nat),rv,.AQ f 0 g.names.length (some g.names.length),.Bv 2] false):=by
 have h0:=AX.Ml hok
 have hg':=hg
 obtain⟨kv',rv',l,e,hk,hr,hrs⟩:=hg'
 cases e
 have hln:=hrs.length
 have hmany:=hs.many
 have hnl:=AX.DD hs
 have hbx:Dr 0 29 3 (.agg [kv,.str g.start,rv0])=some (.AO 0 0,.cells 29 3 [kv,.str g.start,rv0] false):=rfl
 have n1:=MG (c':=1) (lo:=0) (ty:=29) (n:=3) (cs:=[kv,.str g.start,rv0]) HB.nil
 refine FP (Q:=fun x=>x.1=.normal/\x.2.1.get 1=.AO 0 0/\x.2.1.get 2=.Cs/\x.2.2=⟨[(0,.cells 29 3 [kv,.str g.start,rv0] false)],1,0⟩) (by simp[hbx,n1]) fun x hx=>?_
 obtain⟨e,ts1,st1⟩:=x
 obtain⟨e1,z1,z2,e2⟩:=hx
 simp only at e1 z1 z2 e2
 refine⟨e1,?_⟩
 refine FP (eH (l:=l) (k:=k) hk hg hs h0 ts1 z1 z2 st1 e2 hok) fun x hx=>?_
 obtain⟨e,ts2,st2⟩:=x
 obtain⟨e1,z1,z3,A⟩:=hx
 simp only at e1 z1 z3 A
 refine⟨e1,?_⟩
 have r30:∀{K:List Aj} {S:St},NA [kv,.str g.start,rv0] g K S->AP S.h (.AO 3 0)=some (.AQ 1 0 g.names.length none):=fun A=>by rw[AB A.o3]; rfl
 refine FP (Q:=fun x=>x.1=.normal/\x.2.1.get 1=.AO 0 0/\x.2.1.get 3=.AO 3 0/\NA [kv,.str g.start,rv0] g g.names x.2.2) ?_ fun x hx=>?_
 ·simp[z1,z3,r30 A,BO,Bq]
  refine M.Al (eG hs (AX.KX hok) st2 A _ (by simp[z1]) (by simp[z3]) (by simp) (by simp) (by simp)) fun x hx=>?_
  obtain⟨e,ts3,st3⟩:=x
  obtain⟨ee,g1,g3,A'⟩:=hx
  simp only at ee g1 g3 A'
  subst ee
  simp[g1,g3,A']
 obtain⟨e,ts3,st3⟩:=x
 obtain⟨e1,z1,z3,A⟩:=hx
 simp only at e1 z1 z3 A
 refine⟨e1,?_⟩
 refine FP (Q:=fun x=>x.1=.normal/\x.2.1.get 1=.AO 0 0/\x.2.1.get 3=.AO 3 0/\∃f R,NS [kv,.str g.start,rv0] g f R 0 .AJ [] (List.replicate g.names.length .AJ) x.2.2) ?_ fun x hx=>?_
 ·obtain⟨h,c,lo⟩:=st3
  have hlo:lo=0:=A.lo
  subst hlo
  have hc3:3<c:=A.c
  have hroom:g.names.length*24<=room/\g.names.length<=room:=by unfold room; constructor <;> omega
  have hmk:GH c 22 1 24 [.AJ] (.int .i64 (g.names.length:Int)) (.int .i64 (g.names.length:Int))=some (.AQ c 0 g.names.length (some g.names.length),.cells 22 1 (List.replicate g.names.length .AJ) false):=by
   simp[GH,Bb,ble_eq,blt_eq,beq_eq,hroom.1,hroom.2,Lj]
  have hn:newObj c (.cells 22 1 (List.replicate g.names.length .AJ) false) ⟨h,c+1,0⟩=some ⟨(c,.cells 22 1 (List.replicate g.names.length .AJ) false)::h,c+1,0⟩:=Ac A.hb
  have fr:∀p,p<c->AA ((c,Ai.cells 22 1 (List.replicate g.names.length .AJ) false)::h) p=AA h p:=fun p hp=>Ao hp
  have o3':=(fr 3 hc3).trans A.o3
  have s1:=BX (st:=⟨(c,.cells 22 1 (List.replicate g.names.length .AJ) false)::h,c+1,0⟩) (off:=4) (v:=.AQ c 0 g.names.length (some g.names.length)) o3' (by show 0<=3; omega) (by simp) rfl rfl
  simp only[List.set_cons_succ,List.set_cons_zero] at s1
  obtain⟨h2,hh2⟩:∃h2:Af,h2=(c,Ai.cells 22 1 (List.replicate g.names.length .AJ) false)::h:=⟨_,rfl⟩
  rw[← hh2] at hn fr o3' s1
  have hb2:HB ⟨h2,c+1,0⟩:=hh2 ▸ HB.cons (h:=h) (c:=c) (lo:=0) A.hb (by omega) (by omega)
  simp[z1,z3,r30 A,BO,Bq,hmk,hn,s1]
  have F:∀{y:Ai} p,p≠3->AA (Ab h2 3 y) p=AA h2 p:=fun {y} p hp=>by rw[AR o3',if_neg (Ne.symm hp)]
  refine⟨c,fun p=>if p=c then 4 else p,HB.Ab (st:=⟨h2,c+1,0⟩) hb2,rfl,hc3,by show c<c+1; omega,fun p hp=>by rw[if_neg (by omega)],by rw[if_pos rfl],?_,?_,?_,?_,?_,.nl,(fun p hp=>by cases hp),rfl,fun j hj=>absurd hj (by omega),by simp,fun s hs=>⟨.AJ,by simp[hs],.nl,fun p hp=>by cases hp⟩⟩
  ·exact (F 0 (by omega)).trans ((fr 0 (by omega)).trans A.g0)
  ·exact (F 1 (by omega)).trans ((fr 1 (by omega)).trans A.n1)
  ·exact A.m2.frame ((F 2 (by omega)).trans (fr 2 (by omega)))
  ·show AA (Ab h2 3 _) 3=_
   rw[AR o3',if_pos rfl]
  ·refine (F c (by omega)).trans ?_
   rw[hh2,AL,if_pos rfl]
 obtain⟨e,ts4,st4⟩:=x
 obtain⟨e1,z1,z3,f,R0,N⟩:=hx
 simp only at e1 z1 z3 N
 refine⟨e1,?_⟩
 refine FP (Q:=fun x=>x.1=.normal/\x.2.1.get 1=.AO 0 0/\x.2.1.get 3=.AO 3 0/\∃R rv rl ol,NS [kv,.str g.start,rv0] g f R g.rules.length rv rl ol x.2.2) ?_ fun x hx=>?_
 ·have r02:AP st4.h (.AO 0 2)=some rv0:=by rw[AB N.g0]; rfl
  have hlr:∀S':St,BO .slice rv0 S'=some (.int .i64 (g.rules.length:Int),S'):=fun S'=>by have:=hr.len (st:=S'); rw[this,hln]
  simp[z1,z3,r02,hlr]
  refine M.Al (eD (n:=k+6) hr hrs hs hok f R0 _ _ _ st4 N (ts4.get 2) _ (by simp[z1]) (by simp) (by simp[z3]) (by simp) (by simp) (by simp)) fun x hx=>?_
  obtain⟨e,ts5,st5⟩:=x
  obtain⟨ee,g1,g3,N'⟩:=hx
  simp only at ee g1 g3 N'
  subst ee
  simp[g1,g3,N']
 obtain⟨e,ts5,st5⟩:=x
 obtain⟨e1,z1,z3,R,rv,rl,ol,N⟩:=hx
 simp only at e1 z1 z3 N
 refine⟨e1,?_⟩
 obtain⟨h,c,lo⟩:=st5
 have hlo:lo=0:=N.lo
 subst hlo
 have r35:AP h (.AO 3 5)=some (.Bv 2):=by rw[AB N.o3]; rfl
 have r01:AP h (.AO 0 1)=some (.str g.start):=by rw[AB N.g0]; rfl
 have hlook:=Il.look (st:=⟨h,c,0⟩) N.m2 (show g.start∈g.names from List.mem_append.2 (.inr hok.start))
 have s1:=BX (st:=⟨h,c,0⟩) (off:=2) (v:=.int .i64 (GY g.start g.names:Nat)) N.o3 (by show 0<=3; omega) (by simp) rfl rfl
 simp only[List.set_cons_succ,List.set_cons_zero] at s1
 simp[z1,z3,r35,r01,hlook,s1]
 exact⟨f,R,rv,rl,ol,h,N,rfl⟩
end
set_option maxHeartbeats 1000000 in
theorem Ov {k:Nat}{v:AV}{g:AX}{st:St}(hg:BP v g)(hs:g.Small)(hok:g.Ok):∃w,AU E (k+7) 57 [v] st=.ret (w,st)/\FC w g:=by
 have hold:=hg.Gi 0
 have h0:=AX.Ml hok
 have hg':=hg
 obtain⟨kv,rv0,l,rfl,hk,hr,hrs⟩:=hg'
 have hnl:=AX.DD hs
 rw[BZ (fn:=C.f57) rfl rfl rfl (by simp[AV.CL,hold]),Ad (by simp)]
 obtain⟨⟨e,ts,st'⟩,b1,b2,b3,f,R,rv,rl,ol,o3,N,b4⟩:=iy (k:=k) hg hs hok
 simp only at b2 b3 b4 N
 subst b2
 rw[b1]
 have hres:C.f57.results=[.tmp 2]:=rfl
 obtain⟨h,c,lo⟩:=st'
 simp only at b4 N
 have o3f:=N.o3
 have h3:AA h 3=some (.cells 158 6 [.AQ 1 0 g.names.length none,.int .i64 (g.kinds.length:Nat),.int .i64 (g.ix g.start:Nat),rv,.AQ f 0 g.names.length (some g.names.length),.Bv 2] false):=by rw[b4,AR o3f,if_pos rfl]
 have F:∀p,p≠3->AA h p=AA o3 p:=fun p hp=>by rw[b4,AR o3f,if_neg (Ne.symm hp)]
 have hf3:=N.f3
 obtain⟨T,hT⟩:∃T:AV->AV,T=fun x=>(Bp 0 h 62 x).getD .undef:=⟨_,rfl⟩
 have hTold:∀x,x.Bw 0=true->Bp 0 h 62 x=some (T x)/\T x=x:=fun x hx=>by
  have:=Fe (n:=61) (h:=h) hx
  rw[hT]; simp only[this]; exact⟨rfl,rfl⟩
 have hTi:∀w (L:List Nat),Fa o3 3 1 w (ints L)->(∀p,Ah w=some p->p≠3)->Bp 0 h 62 w=some (T w)/\BI (T w) 1 (ints L):=fun w L hM hp=>by
  obtain⟨w',e1,e2⟩:=(hM.heap (h':=h) fun o ho=>F o (hp o ho)).tZ 60
  rw[hT]; simp only[e1]; exact⟨rfl,e2⟩
 have tn:Bp 0 h 63 (.AQ 1 0 g.names.length none)=some (.list false 1 (strs g.names)):=by
  have ht:CP (Bp 0 h 62) (((strs g.names).drop 0).take (g.names.length*1))=some (strs g.names):=by
   rw[List.drop_zero,Nat.mul_one,List.take_of_length_le (by simp)]; exact DY (Dq 0 _)
  rw[FN (Nat.zero_le _) ((F 1 (by omega)).trans N.n1) (by omega) (by simp) ht]
  have:rows 1 g.names.length (strs g.names)=strs g.names:=by
   have:=IZ (strs g.names); rwa [DZ] at this
  rw[this]
 obtain⟨bs,clock,hm⟩:=N.m2
 have tm:Bp 0 h 63 (.Bv 2)=some (.GM (strs g.names) (ints (List.range g.names.length))):=by
  have ho:AV.Bw 0 (.Bv 2)=false:=by simp[AV.Bw,blt_eq]
  have hm':=(F 2 (by omega)).trans hm
  have hk:CP (Bp 0 h 62) (strs g.names)=some (strs g.names):=DY (n:=61) (Dq _ _)
  have hv:CP (Bp 0 h 62) (ints (List.range g.names.length))=some (ints (List.range g.names.length)):=DY (n:=61) (Nb _ _)
  unfold Bp
  rw[ho]
  simp only[cond_false,hm',hk,hv]
 have hrn3:∀p,Ah rv=some p->p≠3:=fun p hp e=>by
  subst e; have:=(N.BV 3 hp).2; have:=N.R3 3 (by omega); omega
 have hx3:∀x∈rl,∃a b d,x=.agg [a,b,d]/\∀y∈[a,b,d],Bp 0 h 62 y=some (T y):=fun x hx=>by
  obtain⟨j,hj,rfl⟩:=List.getElem_of_mem hx
  have hj':j<g.rules.length:=by rw[← N.iP]; exact hj
  obtain⟨w,e,hM,hp⟩:=N.rr j hj' hj'
  rw[List.getElem?_eq_getElem hj,Option.some.injEq] at e
  refine⟨_,_,_,e,fun y hy=>?_⟩
  simp only[List.mem_cons,List.not_mem_nil,or_false] at hy
  rcases hy with rfl|rfl|rfl
  ·exact (hTold _ rfl).1
  ·exact (hTi _ _ hM fun p hp' e'=>by subst e'; have:=(hp 3 hp').2; have:=N.R3 3 (by omega); omega).1
  ·exact (hTold _ rfl).1
 have tr:∃rv',Bp 0 h 63 rv=some rv'/\BI rv' 3 (rl.map fun x=>.agg (x.cells.map T)):=by
  have hrl:=N.iP
  have M:=N.ru.heap (h':=h) fun o ho=>F o (hrn3 o ho)
  cases M with
  |nl=>simp at hrl; omega
  |mt=>simp at hrl; omega
  |ob id _ hne hc hf=>
   have hlen3:=BD hc
   have ht:CP (Bp 0 h 62) (((rl.flatMap AV.cells).drop 0).take (rl.length*3))=some ((rl.flatMap AV.cells).map T):=by
    rw[List.drop_zero,List.take_of_length_le (by omega)]
    refine Pw fun y hy=>?_
    obtain⟨x,hx,hyx⟩:=List.mem_flatMap.1 hy
    obtain⟨a,b,d,rfl,h4⟩:=hx3 x hx
    exact h4 y hyx
   refine⟨_,FN (Nat.zero_le _) hf (by omega) (by omega) ht,⟨.inr ⟨false,?_⟩⟩⟩
   rw[nu fun x hx=>by obtain⟨a,b,d,e,_⟩:=hx3 x hx; exact⟨a,b,d,e⟩]
 obtain⟨rv',tr1,tr2⟩:=tr
 have ho3:∀x∈ol,Bp 0 h 62 x=some (T x):=fun x hx=>by
  obtain⟨s,hs',rfl⟩:=List.getElem_of_mem hx
  obtain⟨w,e,hM,hp⟩:=N.vU s (by rw[← N.sQ]; exact hs')
  rw[List.getElem?_eq_getElem hs',Option.some.injEq] at e
  rw[e]
  exact (hTi _ _ hM fun p hp' e'=>by subst e'; have:=(hp 3 hp').2; have:=N.R3 3 (by omega); omega).1
 have tf:Bp 0 h 63 (.AQ f 0 g.names.length (some g.names.length))=some (.list true 1 (ol.map T)):=by
  have hol:=N.sQ
  have ht:CP (Bp 0 h 62) ((ol.drop 0).take (g.names.length*1))=some (ol.map T):=by
   rw[List.drop_zero,Nat.mul_one,List.take_of_length_le (by omega)]; exact Pw ho3
  rw[FN (Nat.zero_le _) ((F f (by omega)).trans N.f4) (by omega) (by omega) ht]
  have:rows 1 g.names.length (ol.map T)=ol.map T:=by
   have:=IZ (ol.map T); rwa [List.length_map,hol] at this
  simp[this,beq_eq]
 have hth:Bp 0 h 64 (.AO 3 0)=some (.BC [.list false 1 (strs g.names),.int .i64 (g.kinds.length:Nat),.int .i64 (g.ix g.start:Nat),rv',.list true 1 (ol.map T),.GM (strs g.names) (ints (List.range g.names.length))]):=by
  have ho:AV.Bw 0 (.AO 3 0)=false:=by simp[AV.Bw,blt_eq]
  have ti:∀n:Int,Bp 0 h 63 (.int .i64 n)=some (.int .i64 n):=fun n=>Fe (n:=62) rfl
  unfold Bp
  rw[ho]
  simp only[cond_false,h3,ble_eq,List.drop_zero,CP,tn,tm,ti,tr1,tf]
  simp
 refine⟨_,?_,⟨_,rv',_,rl.map fun x=>.agg (x.cells.map T),ol.map T,rfl,⟨.inr ⟨false,rfl⟩⟩,tr2,by rw[List.length_map]; exact N.iP,fun j hj=>?_,⟨.inr ⟨true,rfl⟩⟩,by rw[List.length_map]; exact N.sQ,fun s hs'=>?_⟩⟩
 ·simp only[M.CE,hres,leave,results,AY,dW,b3,BA,Bu,hth]
 ·obtain⟨w,e,hM,hp⟩:=N.rr j hj hj
  have:=hTi _ _ hM fun p hp' e'=>by subst e'; have:=(hp 3 hp').2; have:=N.R3 3 (by omega); omega
  refine⟨T w,?_,this.2⟩
  rw[List.getElem?_map,e]
  simp[AV.cells,(hTold (.int .i64 (g.ix g.rules[j].left:Nat)) rfl).2,(hTold (.int .i64 g.rules[j].level) rfl).2]
 ·obtain⟨w,e,hM,hp⟩:=N.vU s hs'
  have:=hTi _ _ hM fun p hp' e'=>by subst e'; have:=(hp 3 hp').2; have:=N.R3 3 (by omega); omega
  refine⟨T w,?_,this.2⟩
  rw[List.getElem?_map,e]; rfl
end Go.Am
