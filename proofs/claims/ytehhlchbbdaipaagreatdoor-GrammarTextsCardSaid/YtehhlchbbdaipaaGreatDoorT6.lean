/- A part of the proof of grammarTexts (merged by a program). -/
import Derived.Test.YtehhlchbbdaipaaGreatDoorT5
import Derived.Test.YtehhlchbbdaipaaGreatDoorKa
import Derived.Test.YtehhlchbbdaipaaGreatDoorKb
import Derived.Test.YtehhlchbbdaipaaGreatDoorKc
import Derived.Test.YtehhlchbbdaipaaGreatDoorKd
import Derived.Test.YtehhlchbbdaipaaGreatDoorV
import Derived.Test.YtehhlchbbdaipaaGreatDoorW2
import Derived.Test.YtehhlchbbdaipaaGreatDoorKe
namespace Go.Am
open Go
theorem M.Xe {α β:Type}{m:M α}{f:α->M β}{R:α->Prop}{S:β->Prop}(h:m.all R)(k:∀a,R a->(f a).all S):(m.bind f).all S:=M.OQ.2 (M.OP h k)
theorem ME:∀(P:List Ay) (n:Nat) (g:Aj),(∀x∈P,x.length<=20000)->g.FP->g.rules.length+P.length<=25000->∀k g',readAll n g P=.done k g'->g'.FP
 |[],n,g,_,_,_,k,g',h=>by cases h
 |[l],n,g,_,hw,_,k,g',h=>by
  rw[Ky] at h
  split at h
  ·injection h with _ e; subst e; exact hw
  ·cases h
 |l::l2::P,n,g,hl,hw,hr,k,g',h=>by
  rw[KV (by simp)] at h
  cases hs:Cg n l g with
  |none=>rw[hs] at h; cases h
  |some g1=>
   rw[hs] at h
   simp only[List.length_cons] at hr
   obtain⟨w1,w2⟩:=Jb hs (hl l (by simp)) hw (by omega)
   exact ME (l2::P) (n+1) g1 (fun x hx=>hl x (List.mem_cons_of_mem _ hx)) w1 (by simp only[List.length_cons]; omega) k g' h
theorem Qn (t:Ay):(BJ t).1.FP:=by
 unfold BJ
 split
 ·exact FT
 ·rename_i hl
  have h1:=DF 10 t
  have h2:=GX 10 t
  cases hd:readAll 0 Bb (splitOn 10 t) with
  |bad n=>exact FT
  |done n g=>
   have hw:=ME (splitOn 10 t) 0 Bb (fun x hx=>by have:=h2 x hx; omega) FT (by simp[Bb]; omega) n g hd
   simp only
   split
   ·exact FT
   ·split
    ·exact hw
    ·exact FT
set_option maxHeartbeats 4000000 in
theorem Zu {F m:Nat}(hF:F=m+30){v:AV}{zs:List Int}(hv:Bv v zs)(hvo:∀c,v.Bt c=true)(hv1:v.isTuple=false/\v.cells=[v])(hA:∀{k:Nat} {st:St} {a:Int},Ie st 0 v a->0<=a/\a<10000->0<st.c->HB st->HO st->st.lo<=0->∃w g b st',AR E (F+k) 6 [.AO 0 0] st=.ret (w,st')/\st'.c=st.c/\Br st.c 0 v (a+b) st st'/\Bo w g/\g.Small/\0<=b/\b<=200)(hR:∀st,(AR E (F+1) 20 [] st).all fun r=>r=(.bool true,st)):(AR E (F+2) 5 [v] ⟨[],0,0⟩).all fun r=>r.1=.bool true:=by
 rw[Af (fn:=C.f5) rfl rfl rfl,Ab (by simp)]
 have hbld:Au [.AB,.int .i64 0] [(0,1)] [v]=some [v,.int .i64 0]:=by
  simp[Au,hv1.1,hv1.2,beq_eq,ble_eq,BM]
 obtain⟨h0,hh0⟩:∃h:Heap,h=[(0,Ai.cells 25 2 [v,.int .i64 0] false)]:=⟨_,rfl⟩
 have hbx:Gy 0 25 2 (.agg [v,.int .i64 0])=some (.AO 0 0,.cells 25 2 [v,.int .i64 0] false):=rfl
 have n0:newObj 0 (.cells 25 2 [v,.int .i64 0] false) ⟨[],1,0⟩=some ⟨h0,1,0⟩:=by rw[hh0]; rfl
 have f0:AA h0 0=some (.cells 25 2 [v,.int .i64 0] false):=by rw[hh0]; rfl
 have tp0:top h0<=1:=by rw[hh0]; simp[top]
 have S0:Ie ⟨h0,2,0⟩ 0 v 0:=⟨f0,Nat.zero_le _⟩
 have HB0:HB ⟨h0,2,0⟩:=fo (by omega)
 have HO0:HO ⟨h0,2,0⟩:=fun p x hm=>by
  have hm:(p,x)∈h0:=hm
  rw[hh0] at hm
  simp only[List.mem_singleton,Prod.mk.injEq] at hm
  obtain⟨_,rfl⟩:=hm
  simp[Ai.Bt,AV.Cq,AV.Bt,hvo]
 obtain⟨u,g,b,st1,a1,a2,a3,a4,a5,a6,a7⟩:=hA (k:=1) S0 ⟨by omega,by omega⟩ (by show 0<2; omega) HB0 HO0 (Nat.le_refl _)
 have a2:st1.c=2:=a2
 have HO1:HO st1:=aD a3 a2 HO0 (hvo _)
 have lo1:st1.lo=0:=a3.lo
 obtain⟨u2,g2,b2,st2,c1,c2,c3,c4,c5,c6,c7⟩:=hA (k:=0) a3.st ⟨by omega,by omega⟩ (by omega) a3.hb HO1 (by omega)
 rw[show F+0=(m+26)+4 by omega] at c1
 obtain⟨s,st3,d1,d2,d3,d4,d5,d6⟩:=PG (k:=m+26) c1 c3.st hv ⟨by omega,by omega⟩ c4 c5 (by omega) (HB.top c3.hb)
 rw[show m+26+5=F+1 by omega] at d1
 obtain⟨h3,q3,l3⟩:=st3
 have lo2:st2.lo=0:=c3.lo.trans lo1
 have l30:l3=0:=d4.trans lo2
 subst l30
 have d3:2<=q3:=by have:st2.c<=q3:=d3; omega
 have d5:top h3<=q3:=d5
 have hn1:AA h3 1=none:=by
  have e1:AA h3 1=AA st2.h 1:=d6 1 (by omega) (by omega)
  have e2:AA st2.h 1=AA st1.h 1:=c3.Bt 1 (by omega) (by omega)
  have e3:AA st1.h 1=AA h0 1:=a3.Bt 1 (by show 1<2; omega) (by omega)
  rw[e1,e2,e3,hh0]; rfl
 have hgu:=a4
 obtain⟨kv,rv,l,rfl,k1,k2,k3⟩:=a4
 obtain⟨h4,e1,e2,e3⟩:=MU (st:=⟨h3,q3,0⟩) (o:=1) (y:=.cells 29 3 [.AB,.str [],.AB] false) hn1
 have e2:∀p,AA h4 p=if 1=p then some (.cells 29 3 [.AB,.str [],.AB] false) else AA h3 p:=e2
 have f4:AA h4 1=some (.cells 29 3 [.AB,.str [],.AB] false):=by rw[e2,if_pos rfl]
 have tp4:top h4<=q3:=KO.2 fun p x hm=>by
  rcases e3 p x hm with⟨rfl,_⟩|hm
  ·omega
  ·exact KO.1 d5 p x hm
 have s4:BH 3 (.AO 1 0) (.agg [kv,.str g.start,rv]) ⟨h4,q3,0⟩=some (.undef,⟨Aa h4 1 (.cells 29 3 [kv,.str g.start,rv] false),q3,0⟩):=by
  rw[Ci,f4,CB]; simp[AV.isTuple,AV.cells]
 obtain⟨h5,hh5⟩:∃h5,h5=Aa h4 1 (Ai.cells 29 3 [kv,.str g.start,rv] false):=⟨_,rfl⟩
 rw[← hh5] at s4
 have f5:AA h5 1=some (.cells 29 3 [kv,.str g.start,rv] false):=by rw[hh5,Ki rfl,f4]; rfl
 have tp5:top h5<=q3:=by rw[hh5,FB]; exact tp4
 have ld5:Ac h5 (.AO 1 0) 3=some [kv,.str g.start,rv]:=by rw[CR,f5]; simp
 have r36:=Qw (k:=m+24) (st:=⟨h5,q3,0⟩) hgu a5
 rw[show m+24+7=F+1 by omega] at r36
 unfold MJ at r36
 have r7:=Qy (k:=m+24) (st:=⟨h5,q3,0⟩) hgu a5
 rw[show m+24+7=F+1 by omega] at r7
 have r37:=MC (k:=m+27) (st:=⟨h5,q3,0⟩) hgu a5
 rw[show m+27+4=F+1 by omega] at r37
 obtain⟨y,r38,ru,rfl,hru⟩:=Sb (k:=m+24) (t:=s) (st:=⟨h5,q3+1,0⟩) (by omega)
 rw[show m+24+7=F+1 by omega] at r38
 have hru':=hru
 obtain⟨kv6,rv6,l6,rfl,k61,k62,k63⟩:=hru
 have n6:newObj q3 (.cells 29 3 [.AB,.str [],.AB] false) ⟨h5,q3+1,0⟩=some ⟨(q3,.cells 29 3 [.AB,.str [],.AB] false)::h5,q3+1,0⟩:=BC tp5
 have s6:=DK (h:=h5) (c:=q3) (c':=q3+1) (lo:=0) (ty:=29) (n:=3) (zs:=[.AB,.str [],.AB]) (vs:=[kv6,.str (BJ s).1.start,rv6]) (by omega) rfl rfl
 obtain⟨h6,hh6⟩:∃h6,h6=(q3,Ai.cells 29 3 [kv6,.str (BJ s).1.start,rv6] false)::h5:=⟨_,rfl⟩
 rw[← hh6] at s6
 have tp6:top h6<=q3+1:=by rw[hh6,Av]; omega
 have f6:AA h6 q3=some (.cells 29 3 [kv6,.str (BJ s).1.start,rv6] false):=by rw[hh6,BZ rfl]
 obtain⟨y2,r39,ru2,rfl,hru2⟩:=Tk (k:=m+23) (t:=s) (st:=⟨h6,q3+1+1,0⟩) (by omega)
 rw[show m+23+8=F+1 by omega] at r39
 have hru2':=hru2
 obtain⟨kv7,rv7,l7,rfl,k71,k72,k73⟩:=hru2
 have n7:newObj (q3+1) (.cells 29 3 [.AB,.str [],.AB] false) ⟨h6,q3+1+1,0⟩=some ⟨(q3+1,.cells 29 3 [.AB,.str [],.AB] false)::h6,q3+1+1,0⟩:=BC tp6
 have s7:=DK (h:=h6) (c:=q3+1) (c':=q3+1+1) (lo:=0) (ty:=29) (n:=3) (zs:=[.AB,.str [],.AB]) (vs:=[kv7,.str (BJ s).1.start,rv7]) (by omega) rfl rfl
 obtain⟨h7,hh7⟩:∃h7,h7=(q3+1,Ai.cells 29 3 [kv7,.str (BJ s).1.start,rv7] false)::h6:=⟨_,rfl⟩
 rw[← hh7] at s7
 have f76:AA h7 q3=some (.cells 29 3 [kv6,.str (BJ s).1.start,rv6] false):=by rw[hh7,BP (by omega)]; exact f6
 have f77:AA h7 (q3+1)=some (.cells 29 3 [kv7,.str (BJ s).1.start,rv7] false):=by rw[hh7,BZ rfl]
 have ld6:Ac h7 (.AO q3 0) 3=some [kv6,.str (BJ s).1.start,rv6]:=by rw[CR,f76]; simp
 have ld7:Ac h7 (.AO (q3+1) 0) 3=some [kv7,.str (BJ s).1.start,rv7]:=by rw[CR,f77]; simp
 have hW:=Qn s
 have r34:=Oy (k:=m+27) (st:=⟨h7,q3+1+1,0⟩) hru' hru2' hW
 rw[show m+27+4=F+1 by omega] at r34
 have r20:=hR ⟨h7,q3+1+1,0⟩
 by_cases hz:g.fault=0
 ·rw[hz] at r36 r7
  simp only[if_true] at r36
  simp[C.f5,hbld,hbx,n0,a1,d1,e1,s4,ld5,r36,r7,r37,r38,n6,s6,r39,n7,s7,Ag,AZ,BG,ld6,ld7,r34,-M.bind_assoc]
  simp only[M.bind_assoc]
  refine M.Xe r20 fun r hr=>?_
  subst hr
  simp[leave,results,AP]
 ·have hzb:(g.fault==0)=false:=by simpa using hz
  rw[if_neg hz] at r36
  simp[C.f5,hbld,hbx,n0,a1,d1,e1,s4,ld5,r36,r7,hzb,r38,n6,s6,r39,n7,s7,Ag,AZ,BG,ld6,ld7,r34,-M.bind_assoc]
  simp only[M.bind_assoc]
  refine M.Xe r20 fun r hr=>?_
  subst hr
  simp[leave,results,AP]
theorem Vw:AV.Cq 0 [Dm,.int .i64 3]=true:=by rfl
theorem Tx:AV.Cq 0 [Dm,.int .i64 1]=true:=by rfl
theorem bO (n:Nat)(hn:37=n):M.OO (Kh 0 SV) (DJ E (AR E n) C.f79 [] ⟨[],0,0⟩)=true:=hn ▸ Xt
theorem ZV {n:Nat}(hn:37=n)(st:St):(AR E (n+1) 79 [] st).all fun r=>SV r.1=true/\r.2=st:=by
 rw[Ca (E:=E) (n:=n) (f:=79) (args:=[]) (st:=st) (fn:=C.f79) rfl rfl rfl rfl]
 exact Jr (bO n hn)
theorem ZN (n:Nat)(hn:37=n):M.OO (Kh 0 NI) (DJ E (AR E n) C.f80 [Dm,.int .i64 3] ⟨[],0,0⟩)=true:=hn ▸ VW
theorem Xo {n:Nat}(hn:37=n)(st:St):(AR E (n+1) 80 [Dm,.int .i64 3] st).all fun r=>NI r.1=true/\r.2=st:=by
 rw[Ca (E:=E) (n:=n) (f:=80) (args:=[Dm,.int .i64 3]) (st:=st) (fn:=C.f80) rfl rfl rfl Vw]
 exact Jr (ZN n hn)
theorem bR (n:Nat)(hn:37=n):M.OO (Kh 0 QH) (DJ E (AR E n) C.f81 [Dm,.int .i64 1] ⟨[],0,0⟩)=true:=hn ▸ XE
theorem ZZ {n:Nat}(hn:37=n)(st:St):(AR E (n+1) 81 [Dm,.int .i64 1] st).all fun r=>QH r.1=true/\r.2=st:=by
 rw[Ca (E:=E) (n:=n) (f:=81) (args:=[Dm,.int .i64 1]) (st:=st) (fn:=C.f81) rfl rfl rfl Tx]
 exact Jr (bR n hn)
theorem Wy (n:Nat)(hn:37=n):M.OO (Kh 2 Jt) (DJ E (AR E n) C.f82 [Dm,.AY 1 0 3 (some 3)] ⟨KP,2,2⟩)=true:=hn ▸ TD
theorem VP {n:Nat}(hn:37=n)(lo:Nat):(AR E (n+1) 82 [Dm,.AY 1 0 3 (some 3)] ⟨KP,2,lo⟩).all fun r=>Jt r.1=true/\r.2=⟨KP,2,lo⟩:=by
 rw[Cc (E:=E) (n:=n) (f:=82) (args:=[Dm,.AY 1 0 3 (some 3)]) (st:=⟨KP,2,lo⟩) (fn:=C.f82) rfl rfl rfl]
 exact Jr (Wy n hn)
theorem Us (n:Nat)(hn:37=n):M.OO (Kh 3 JF) (DJ E (AR E n) C.f83 [Dm,.AY 2 0 2 (some 2),.agg [.int .i64 1,.int .i64 1,.int .i64 1]] ⟨Nj,3,3⟩)=true:=hn ▸ RA
theorem Sr {n:Nat}(hn:37=n)(lo:Nat):(AR E (n+1) 83 [Dm,.AY 2 0 2 (some 2),.agg [.int .i64 1,.int .i64 1,.int .i64 1]] ⟨Nj,3,lo⟩).all fun r=>JF r.1=true/\r.2=⟨Nj,3,lo⟩:=by
 rw[Cc (E:=E) (n:=n) (f:=83) (args:=[Dm,.AY 2 0 2 (some 2),.agg [.int .i64 1,.int .i64 1,.int .i64 1]]) (st:=⟨Nj,3,lo⟩) (fn:=C.f83) rfl rfl rfl]
 exact Jr (Us n hn)
theorem YX {v:AV}(h:SV v=true):v=Dm:=AV.beq_eq h
theorem WQ {v:AV}(h:NI v=true):∃w,v=.tuple [w,.int .i64 0]/\Bl w=some 2:=by
 unfold NI at h
 split at h
 ·rename_i w n
  split at h
  ·rename_i l hl
   simp at h
   exact⟨w,by rw[h.2],by rw[hl,h.1]⟩
  ·simp at h
 ·cases h
theorem YY {v:AV}(h:QH v=true):∃m,v=.tuple [.int .i64 m,.int .i64 0]/\4<m:=by
 unfold QH at h
 split at h
 ·simp at h; exact⟨_,by rw[h.2],h.1⟩
 ·cases h
theorem SX {v:AV}(h:Jt v=true):∃m,v=.tuple [.bool true,.int .i64 m,.int .i64 0]:=by
 unfold Jt at h
 split at h
 ·simp at h; exact⟨_,by rw[h.1,h.2]⟩
 ·cases h
theorem Qt {v:AV}(h:JF v=true):v=.tuple [.int .i64 1,.int .i64 0]:=by
 unfold JF at h
 split at h
 ·simp at h; rw[h.1,h.2]
 ·cases h
theorem M.Qg {α β:Type}{m:M α}{f:α->M β}{R:α->Prop}{S:β->Prop}(h:m.all R)(k:∀a,R a->(f a).all S):(m.bind f).all S:=M.OQ.2 (M.OP h k)
def Pq:List CV:=[C.g 39 38 true .move [C.t 2],C.g 40 38 true (.len .slice) [C.t 39],C.g 41 38 true (.bin .eql) [C.t 40,C.i 2],C.o 42 .pick [C.t 38,C.t 41,C.no],C.m 43 42,C.g 44 43 true .move [C.t 5],C.g 45 43 true (.bin .eql) [C.t 44,C.i 0],C.o 46 .pick [C.t 43,C.t 45,C.no],C.m 47 46,C.g 48 47 true .move [C.t 4],C.g 49 47 true (.bin .gtr) [C.t 48,C.i 4],C.o 50 .pick [C.t 47,C.t 49,C.no],C.m 51 50,C.g 52 51 true .move [C.t 8],C.g 53 51 true (.bin .eql) [C.t 52,C.i 0],C.o 54 .pick [C.t 51,C.t 53,C.no],C.m 55 54,C.g 56 55 true .move [C.t 6],C.o 57 .pick [C.t 55,C.t 56,C.no],C.m 58 57,C.g 59 58 true .move [C.t 10],C.g 60 58 true (.bin .eql) [C.t 59,C.i 0],C.o 61 .pick [C.t 58,C.t 60,C.no],C.m 62 61,C.g 63 62 true .move [C.t 9],C.g 64 62 true (.bin .eql) [C.t 63,C.i 1],C.o 65 .pick [C.t 62,C.t 64,C.no],C.m 0 65]
theorem dw {E:Env}{call:Nat->List AV->St->M (AV × St)}{s d q:Nat}{b:Bool}{k:AK}{args:List Gx}{ops:List CV}{ts:TS}{st:St}(h:ts.get q=.bool b):Gl E call s (⟨some d,some (q,b),k,args⟩::ops) ts st=Gl E call s (⟨some d,none,k,args⟩::ops) ts st:=by
 rw[JJ,h]; cases b <;> rfl
theorem Vq {call:Nat->List AV->St->M (AV × St)}{s:Nat}{ts:TS}{st:St}{w:AV}{m:Int}(h2:ts.get 2=w)(hw:Bl w=some 2)(h38:ts.get 38=.bool true)(h5:ts.get 5=.int .i64 0)(h4:ts.get 4=.int .i64 m)(hm:4<m)(h8:ts.get 8=.int .i64 0)(h6:ts.get 6=.bool true)(h10:ts.get 10=.int .i64 0)(h9:ts.get 9=.int .i64 1):∃ts',Gl E call s Pq ts st=.ret (ts',st)/\ts'.get 0=.bool true:=by
 simp[Pq,dw,h2,hw,h38,h5,h4,hm,h8,h6,h10,h9,BX]
theorem YJ {call:Nat->List AV->St->M (AV × St)}{s:Nat}{ts:TS}{st st0:St}{w:AV}{m:Int}(h2:ts.get 2=w)(hw:Bl w=some 2)(h38:ts.get 38=.bool true)(h5:ts.get 5=.int .i64 0)(h4:ts.get 4=.int .i64 m)(hm:4<m)(h8:ts.get 8=.int .i64 0)(h6:ts.get 6=.bool true)(h10:ts.get 10=.int .i64 0)(h9:ts.get 9=.int .i64 1) :
 M.all (fun r=>r=(AV.bool true,st0)) ((Gl E call s Pq ts st).bind fun a=>(leave [TK.tmp 0] (JL.ret,a.1,a.2)).bind (Bd 0 st0)):=by
 obtain⟨ts',e,h0⟩:=Vq (call:=call) (s:=s) (st:=st) h2 hw h38 h5 h4 hm h8 h6 h10 h9
 rw[e]
 simp[leave,results,AP,h0,M.all]
set_option maxHeartbeats 1000000 in
theorem YI {n:Nat}(hn:37=n)(st:St):True/\(AR E (n+2) 20 [] st).all fun r=>r=(.bool true,st):=by
 refine⟨trivial,?_⟩
 rw[Ca (fn:=C.f20) rfl rfl rfl rfl,Ab (by simp)]
 simp[C.f20]
 refine M.Qg (ZV hn _) fun a ha=>?_
 obtain⟨v,S⟩:=a
 obtain⟨h1,rfl⟩:=ha
 obtain rfl:=YX h1
 have hr0:Ac Rw (.AO 0 0) 3=some Dm.cells:=rfl
 have e1:newObj 0 (.cells 29 3 [.AB,.str [],.AB] false) ⟨[],1,0⟩=some ⟨[(0,.cells 29 3 [.AB,.str [],.AB] false)],1,0⟩:=rfl
 have e2:BH 3 (.AO 0 0) Dm ⟨[(0,.cells 29 3 [.AB,.str [],.AB] false)],1,0⟩=some (.undef,⟨Rw,1,0⟩):=rfl
 have e3:Option.map AV.agg (some Dm.cells)=some Dm:=rfl
 simp[e1,e2,hr0,e3]
 refine M.Qg (Xo hn _) fun a ha=>?_
 obtain⟨v,S⟩:=a
 obtain⟨h1,rfl⟩:=ha
 obtain⟨w,rfl,hw⟩:=WQ h1
 have ex:∀i vs st,GZ i (.tuple vs) st=DX st vs[i]?:=fun _ _ _=>rfl
 simp[ex,hr0,e3]
 refine M.Qg (ZZ hn _) fun a ha=>?_
 obtain⟨v,S⟩:=a
 obtain⟨h1,rfl⟩:=ha
 obtain⟨m,rfl,hm⟩:=YY h1
 have b3:∀n,Aw n 9 1 3 [.str [],.str [],.str []] [0,1,2] [.str [110,117,109],.str [112,108,117,115],.str [110,117,109]]=some (.AY n 0 3 (some 3),.cells 9 1 [.str [110,117,109],.str [112,108,117,115],.str [110,117,109]] false):=fun n=>by
  simp[Aw,blt_eq,beq_eq,ble_eq,Au,BM,AV.isTuple,AV.cells]
 have b2:∀n,Aw n 9 1 2 [.str [],.str []] [0,1] [.str [110,117,109],.str [110,117,109]]=some (.AY n 0 2 (some 2),.cells 9 1 [.str [110,117,109],.str [110,117,109]] false):=fun n=>by
  simp[Aw,blt_eq,beq_eq,ble_eq,Au,BM,AV.isTuple,AV.cells]
 have bp:Au [.int .i64 0,.int .i64 0,.int .i64 0] [(0,1),(1,1),(2,1)] [.int .i64 1,.int .i64 1,.int .i64 1]=some [.int .i64 1,.int .i64 1,.int .i64 1]:=by
  simp[Au,BM,AV.isTuple,AV.cells,beq_eq,ble_eq]
 have e4:newObj 1 (.cells 9 1 [.str [110,117,109],.str [112,108,117,115],.str [110,117,109]] false) ⟨Rw,2,0⟩=some ⟨KP,2,0⟩:=rfl
 have e5:newObj 2 (.cells 9 1 [.str [110,117,109],.str [110,117,109]] false) ⟨KP,3,0⟩=some ⟨Nj,3,0⟩:=rfl
 have hr1:Ac KP (.AO 0 0) 3=some Dm.cells:=rfl
 simp[ex,hr0,e3,b3,e4]
 refine M.Qg (VP hn _) fun a ha=>?_
 obtain⟨v,S⟩:=a
 obtain⟨h1,rfl⟩:=ha
 obtain⟨m2,rfl⟩:=SX h1
 simp[ex,hr1,e3,b2,e5,bp]
 refine M.Qg (Sr hn _) fun a ha=>?_
 obtain⟨v,S⟩:=a
 obtain⟨h1,rfl⟩:=ha
 have e:v=.tuple [.int .i64 1,.int .i64 0]:=Qt h1
 subst e
 simp[ex]
 generalize hts:TS.set _ 38 _=tsx
 refine YJ (w:=w) (m:=m) ?_ hw ?_ ?_ ?_ hm ?_ ?_ ?_ ?_
 all_goals (rw[← hts]; simp)
theorem Zw {m:M (AV × St)}(h:SS (PR m)=true):∃t l gs,(∀st,m.bind (Bd 0 st)=.ret (.list t 3 l,st))/\Jz l=some gs/\gs.length=12/\∀g∈gs,Iq g=true:=by
 unfold SS at h
 split at h
 ·rename_i gs hg
  unfold PR at hg
  split at hg
  ·rename_i r
   split at hg
   ·rename_i t l hth
    simp only[Bool.and_eq_true,decide_eq_true_eq,List.all_eq_true] at h
    refine⟨t,l,gs,fun st=>?_,hg,h.1,h.2⟩
    simp only[M.bind,Bd,hth]
   ·cases hg
  ·cases hg
 ·cases h
theorem WN (n:Nat)(hn:39=n):SS (PR (DJ E (AR E n) C.f114 [] ⟨[],0,0⟩))=true:=hn ▸ WM
theorem YW {n:Nat}(hn:39=n)(k:Nat):VS (n+1+k):=by
 obtain⟨t,l,gs,h1,h2⟩:=Zw (WN n hn)
 refine⟨t,l,gs,fun st=>?_,h2⟩
 refine Wz ?_ k
 rw[Ca (E:=E) (n:=n) (f:=114) (args:=[]) (st:=st) (fn:=C.f114) rfl rfl rfl rfl]
 exact h1 st
theorem YG {n:Nat}(hn:39=n)(k:Nat):Nb (n+2+k):=by
 have e:n+2+k=(n+k-3)+5:=by omega
 rw[e]
 refine YF ?_
 rw[show n+k-3+4=n+1+k by omega]
 exact YW hn k
theorem dE {n:Nat}(hn:39=n)(k:Nat){o:Nat}{vs:AV}{zs:List Int}{a:Int}{st:St}(hs:Ie st o vs a)(hv:Bv vs zs)(ha:0<=a/\a<10000)(ho:o<st.c)(hb:HB st)(hh:HO st)(hlo:st.lo<=o) :
 ∃v g m st',AR E (n+3+k) 6 [.AO o 0] st=.ret (v,st')/\st'.c=st.c/\Br st.c o vs (a+m) st st'/\Bo v g/\g.Small/\0<=m/\m<=200:=by
 have h:=YG hn k
 rw[show n+2+k=(n+k-3)+5 by omega] at h
 rw[show n+3+k=(n+k-3)+6 by omega]
 exact dz h hs hv ha ho hb hh hlo
theorem Vx {c:Nat}{l:List AV}(h:∀x∈l,AV.Bt c x=true):AV.Cq c l=true:=by
 induction l with
 |nil=>rfl
 |cons x l ih=>simp only[AV.Cq,Bool.and_eq_true]; exact⟨h x (by simp),ih fun y hy=>h y (List.mem_cons_of_mem _ hy)⟩
theorem ZF {E:Env}{n f:Nat}{args:List AV}{st:St}{Q:AV × St->Prop}(h:True/\(AR E n f args st).all Q)(k b:Nat)(hb:b=n+k):True/\(AR E b f args st).all Q:=
 ⟨trivial,by subst hb; exact Qh h.2 k⟩
theorem YK {n F:Nat}(hn:39=n)(hF:n+4=F)(st:St):True/\(AR E F 20 [] st).all fun r=>r=(.bool true,st):=
 ZF (YI (n:=n-2) (by omega) st) 4 F (by omega)
theorem iR {v:AV}{zs:List Int}(hv:Bv v zs):∃n,(AR E n 5 [v] ⟨[],0,0⟩).all fun r=>r.1=.bool true:=by
 obtain⟨n,hn⟩:∃n,39=n:=⟨39,rfl⟩
 obtain⟨F,hF⟩:∃F,n+3=F:=⟨_,rfl⟩
 obtain⟨m,hm⟩:∃m,F=m+30:=⟨F-30,by omega⟩
 have hvo:∀c,v.Bt c=true:=fun c=>by
  rcases hv.sl.out with⟨rfl,_⟩|⟨t,rfl⟩
  ·rfl
  ·refine Vx fun x hx=>?_
   obtain⟨z,_,rfl⟩:=List.mem_map.1 hx; rfl
 have hv1:v.isTuple=false/\v.cells=[v]:=by rcases hv.sl.out with⟨rfl,_⟩|⟨t,rfl⟩ <;> exact⟨rfl,rfl⟩
 have hA:∀{k:Nat} {st:St} {a:Int},Ie st 0 v a->0<=a/\a<10000->0<st.c->HB st->HO st->st.lo<=0->∃w g b st',AR E (F+k) 6 [.AO 0 0] st=.ret (w,st')/\st'.c=st.c/\Br st.c 0 v (a+b) st st'/\Bo w g/\g.Small/\0<=b/\b<=200:=fun {k st a} h1 ha h2 h3 h4 h5=>by
  have h:=dE hn k h1 hv ha h2 h3 h4 h5
  rw[hF] at h
  exact h
 have hR:∀st,(AR E (F+1) 20 [] st).all fun r=>r=(.bool true,st):=fun st=>(YK hn (by omega) st).2
 exact⟨F+2,Zu hm hv hvo hv1 hA hR⟩
end Go.Am
