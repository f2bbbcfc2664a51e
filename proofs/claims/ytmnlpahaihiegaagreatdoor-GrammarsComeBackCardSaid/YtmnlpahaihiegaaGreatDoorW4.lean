/- A part of the proof of grammarsComeBack (merged by a program). -/
import Derived.Test.YtmnlpahaihiegaaGreatDoorW3
namespace Go.Am
open Go
theorem VM {k:Nat}{g:Ak}{kv rv w:AV}{l:List AV}{r:List BB}(hk:Ci kv 1 (strs g.kinds))(hr:Ci rv 3 l)(hrs:Bo l g.rules)(hs:g.GA)(hw:Ci w 1 (strs r))(hrl:r.length<=100000)(st:St)(H:FS [kv,.str g.start,rv] st)(a87 a88:AV)(ts0:TS)(h1:ts0.get 1=.AO 0 0)(h86:ts0.get 86=rv)(h87:ts0.get 87=a87)(h88:ts0.get 88=a88)(h93:ts0.get 93=w)(h94:ts0.get 94=.int .i64 (r.length:Int))(h95:ts0.get 95=.int .i64 ((0:Nat):Int)) :
 (Dh (BF E (AX E (k+6)) C.f8L3) E.k ts0 st).to fun x=>x.2.2=st/\((x.1=.exit 7/\r.all g.sym=true/\x.2.1.get 1=.AO 0 0/\x.2.1.get 86=rv/\x.2.1.get 87=a87/\x.2.1.get 88=a88)∨(x.1=.ret/\r.all g.sym=false/\x.2.1.get 2=.int .i64 8)):=by
 have hG:Bl (.agg [kv,.str g.start,rv]) g:=⟨kv,rv,l,rfl,hk,hr,hrs⟩
 have rg:Ac st.h (.AO 0 0) 3=some [kv,.str g.start,rv]:=Bj H.g0 rfl
 refine DI (fun (i:Nat) ts st'=>st'=st/\i<=r.length/\ts.get 1=.AO 0 0/\ts.get 86=rv/\ts.get 87=a87/\ts.get 88=a88/\ts.get 93=w/\ts.get 94=.int .i64 (r.length:Int)/\ts.get 95=.int .i64 (i:Int)/\∀j (hj:j<r.length),j<i->g.sym r[j]=true)
  (fun i=>r.length-i) ?_ _ 0 _ _ ?_ ?_
 ·rintro i ts st' ⟨rfl,hi,h1,h86,h87,h88,h93,h94,h95,hall⟩
  by_cases Bc:i<r.length
  ·have hsy:=aM (k:=k) (x:=r[i]) hG hs H.hb
   cases hx:g.sym r[i] with
   |true=>
    rw[hx] at hsy
    simp[C.f8L3,h1,h86,h87,h88,h93,h94,h95,Bc,hw.Jr Bc,rg,hsy,wi i]
    refine⟨i+1,by omega,by omega,by simp,fun j hj hji=>?_⟩
    rcases Nat.lt_or_ge j i with h|h
    ·exact hall j hj h
    ·have:j=i:=by omega
     subst this; exact hx
   |false=>
    rw[hx] at hsy
    have hno:r.all g.sym=false:=by rw[List.all_eq_false]; exact⟨r[i],List.getElem_mem Bc,by simp[hx]⟩
    simp[C.f8L3,h1,h86,h87,h88,h93,h94,h95,Bc,hw.Jr Bc,rg,hsy]
    simpa using hno
  ·have:i=r.length:=by omega
   subst this
   have hyes:r.all g.sym=true:=by
    rw[List.all_eq_true]; intro x hx
    obtain⟨j,hj,rfl⟩:=List.getElem_of_mem hx
    exact hall j hj hj
   simp[C.f8L3,h1,h86,h87,h88,h94,h95]
   simpa using hyes
 ·show r.length-0<1000000; omega
 ·exact⟨rfl,by omega,h1,h86,h87,h88,h93,h94,h95,fun j _ h=>by omega⟩
set_option maxHeartbeats 1000000 in
theorem VN {k:Nat}{g:Ak}{kv rv:AV}{l:List AV}(hk:Ci kv 1 (strs g.kinds))(hr:Ci rv 3 l)(hrs:Bo l g.rules)(hs:g.GA)(st:St)(H:FS [kv,.str g.start,rv] st)(ts0:TS)(h1:ts0.get 1=.AO 0 0)(h86:ts0.get 86=rv)(h87:ts0.get 87=.int .i64 (g.rules.length:Int))(h88:ts0.get 88=.int .i64 ((0:Nat):Int)) :
 (Dh (BF E (AX E (k+6)) C.f8L2) E.k ts0 st).to fun x=>FS [kv,.str g.start,rv] x.2.2/\((x.1=.exit 5/\g.JI=true/\x.2.1.get 1=.AO 0 0)∨(x.1=.ret/\g.JI=false/\x.2.1.get 2=.int .i64 8)):=by
 have hln:=hrs.length
 have hmany:=hs.many
 refine DI (fun (i:Nat) ts st'=>FS [kv,.str g.start,rv] st'/\i<=g.rules.length/\ts.get 1=.AO 0 0/\ts.get 86=rv/\ts.get 87=.int .i64 (g.rules.length:Int)/\ts.get 88=.int .i64 (i:Int)/\∀j (hj:j<g.rules.length),j<i->g.rules[j].right.all g.sym=true)
  (fun i=>g.rules.length-i) ?_ _ 0 _ _ ?_ ?_
 ·rintro i ts st' ⟨H,hi,h1,h86,h87,h88,hall⟩
  by_cases Bc:i<g.rules.length
  ·have hil:i<l.length:=by omega
   obtain⟨w,e1,e2⟩:=(hrs.get i Bc).2
   have hsm:=hs.rules _ (List.getElem_mem Bc)
   have hsr:=hsm.right
   obtain⟨h,c,lo⟩:=st'
   have hlo:lo=0:=H.lo
   subst hlo
   have hb':∀p x,(p,x)∈h->p<c:=H.hb
   have hc0:0<c:=H.c0
   have hc1:c≠0:=by omega
   obtain⟨rc,hrc⟩:∃rc:List AV,rc=[.str g.rules[i].left,w,.int .i64 g.rules[i].level]:=⟨_,rfl⟩
   obtain⟨h',hh'⟩:∃h':Heap,h'=(c,Al.cells 47 3 rc false)::h:=⟨_,rfl⟩
   have hbS:HB ⟨h',c+1,0⟩:=hh' ▸ HB.cons (h:=h) (c:=c) (lo:=0) H.hb (by omega) (by omega)
   have HS:FS [kv,.str g.start,rv] ⟨h',c+1,0⟩:=⟨hbS,by rw[hh',AJ,if_neg hc1]; exact H.g0,by show 0<c+1; omega,rfl⟩
   have hix:Ad 3 rv (.int .i64 (i:Int)) ⟨h,c+1,0⟩=some (.BN l[i].cells,⟨h,c+1,0⟩):=hr.idx hil
   have hcells:l[i].cells=rc:=by rw[e1,hrc]; rfl
   rw[hcells] at hix
   have hn:newObj c (.cells 47 3 [.str [],.AB,.int .i64 0] false) ⟨h,c+1,0⟩=some ⟨(c,.cells 47 3 [.str [],.AB,.int .i64 0] false)::h,c+1,0⟩:=Ao hb'
   have hst:=DY (h:=h) (c:=c) (c':=c+1) (lo:=0) (ty:=47) (n:=3) (zs:=[.str [],.AB,.int .i64 0]) (vs:=rc) (by omega) (by rw[hrc]; rfl) rfl
   rw[← hh'] at hst
   have hrd3:Ac h (.BN rc) 3=some rc:=by rw[hrc]; rfl
   have fc:AA h' c=some (.cells 47 3 rc false):=by rw[hh',AJ,if_pos rfl]
   have rc1:AP h' (.AO c 1)=some w:=by rw[AL fc,hrc]; rfl
   have hlr:Be .slice w ⟨h',c+1,0⟩=some (.int .i64 (g.rules[i].right.length:Int),⟨h',c+1,0⟩):=by have:=e2.len (st:=⟨h',c+1,0⟩); simpa using this
   have loop:=fun a87 a88 ts0 z1 z86 z87 z88 z93 z94 z95=>VM (k:=k) hk hr hrs hs e2 (by omega) ⟨h',c+1,0⟩ HS a87 a88 ts0 z1 z86 z87 z88 z93 z94 z95
   simp[C.f8L2,h1,h86,h87,h88,Bc,hix,-Bp,hrd3,hn,hst,rc1,hlr]
   refine M.BX (loop _ _ _ (by simp[h1]) (by simp[h86]) (by simp[h87]; rfl) (by simp[h88]; rfl) (by simp) (by simp) (by simp)) fun x hx=>?_
   obtain⟨e,ts1,st1⟩:=x
   obtain⟨rfl,⟨rfl,ha,g1,g86,g87,g88⟩|⟨rfl,ha,g2⟩⟩:=hx
   ·simp only at g1 g86 g87 g88
    simp[g1,g86,g87,g88,HS,wi i]
    refine⟨i+1,by omega,by omega,by simp,fun j hj hji=>?_⟩
    rcases Nat.lt_or_ge j i with h|h
    ·simpa using hall j hj h
    ·have:j=i:=by omega
     subst this; simpa using ha
   ·simp only at g2
    have hno:g.JI=false:=by unfold Ak.JI; rw[List.all_eq_false]; exact⟨_,List.getElem_mem Bc,by simpa using ha⟩
    simp[g2,HS,hno]
  ·have:i=g.rules.length:=by omega
   subst this
   have hyes:g.JI=true:=by
    unfold Ak.JI; rw[List.all_eq_true]; intro x hx
    obtain⟨j,hj,rfl⟩:=List.getElem_of_mem hx
    exact hall j hj hj
   simp[C.f8L2,h1,h87,h88,hyes,H]
 ·show g.rules.length-0<1000000; omega
 ·exact⟨H,by omega,h1,h86,h87,h88,fun j _ h=>by omega⟩
theorem VI {k:Nat}{u v:AV}{g:Ak}{st:St}(hth:Cf 0 st.h 64 u=some v)(hg:Bl v g)(hs:g.GA)(hk6:g.kinds.length<=60)(hr1:g.rules.length<=100):AX E (k+7) 8 [u] st=.ret (.int .i64 g.fault,st):=by
 have hold:=hg.LD 0
 obtain⟨kv,rv,l,rfl,hk,hr,hrs⟩:=hg
 have hG:Bl (.agg [kv,.str g.start,rv]) g:=⟨kv,rv,l,rfl,hk,hr,hrs⟩
 have hln:=hrs.length
 have hmany:=hs.many
 have hkn:=hs.kinds
 rw[Ia (fn:=C.f8) (args':=[.agg [kv,.str g.start,rv]]) rfl rfl rfl (by simp[CU,CV,hth]),Af (by simp)]
 have goal:((BF E (AX E (k+6)) C.f8.body (TS.Cm [.agg [kv,.str g.start,rv]] 0 .nil) ⟨[],0,0⟩).bind (leave C.f8.results)).to fun r=>r.1=.int .i64 g.fault:=by
  have hbx:Gy 0 29 3 (.agg [kv,.str g.start,rv])=some (.AO 0 0,.cells 29 3 [kv,.str g.start,rv] false):=rfl
  obtain⟨S,hS⟩:∃S:St,S=⟨[(0,.cells 29 3 [kv,.str g.start,rv] false)],1,0⟩:=⟨_,rfl⟩
  have hn:newObj 0 (.cells 29 3 [kv,.str g.start,rv] false) ⟨[],1,0⟩=some S:=by rw[hS]; rfl
  have FSS:FS [kv,.str g.start,rv] S:=by
   subst hS
   refine⟨?_,rfl,Nat.zero_lt_one,rfl⟩
   intro p x hp
   rcases List.mem_cons.1 hp with h|h
   ·cases h; exact Nat.zero_lt_one
   ·cases h
  have r0:∀{S':St},FS [kv,.str g.start,rv] S'->AP S'.h (.AO 0 0)=some kv:=fun H=>by rw[AL H.g0]; rfl
  have r1:∀{S':St},FS [kv,.str g.start,rv] S'->AP S'.h (.AO 0 1)=some (.str g.start):=fun H=>by rw[AL H.g0]; rfl
  have r2:∀{S':St},FS [kv,.str g.start,rv] S'->AP S'.h (.AO 0 2)=some rv:=fun H=>by rw[AL H.g0]; rfl
  have rg:∀{S':St},FS [kv,.str g.start,rv] S'->Ac S'.h (.AO 0 0) 3=some [kv,.str g.start,rv]:=fun H=>Bj H.g0 rfl
  have hlk:∀S':St,Be .slice kv S'=some (.int .i64 (g.kinds.length:Int),S'):=fun S'=>by have:=hk.len (st:=S'); simpa using this
  have hlr:∀S':St,Be .slice rv S'=some (.int .i64 (g.rules.length:Int),S'):=fun S'=>by have:=hr.len (st:=S'); rw[this,hln]
  have hk60:¬(60:Int)<(g.kinds.length:Int):=by omega
  have hk60':¬60<g.kinds.length:=by omega
  have hr100:¬(100:Int)<(g.rules.length:Int):=by omega
  simp[C.f8,hbx,hn,r0 FSS,hlk,hk60]
  refine M.BX (PI (k:=k+3) hk hs FSS.g0 _ (by simp) (by simp) (by simp) (by simp)) fun x hx=>?_
  obtain⟨e,ts1,st1⟩:=x
  obtain⟨h,h'⟩:=hx
  simp only at h h'
  subst h
  rcases h' with⟨rfl,hf0,g1⟩|⟨rfl,hf0,g2⟩
  ·by_cases hz:g.rules.length=0
   ·have hfault:g.fault=8:=by unfold Ak.fault; rw[if_neg (by simp[hf0]),if_pos hz]
    simp[g1,r2 FSS,hlr,hz,leave,results,AR,hfault]
   ·have hz':((g.rules.length:Int)==0)=false:=by simp only[beq_eq_false_iff_ne,ne_eq]; omega
    simp[g1,r2 FSS,hlr,hz',hr100]
    refine M.BX (VO (k:=k+2) hk hr hrs hs _ FSS _ (by simp[g1]) (by simp) (by simp) (by simp)) fun x hx=>?_
    obtain⟨e,ts2,st2⟩:=x
    obtain⟨F2,h'⟩:=hx
    simp only at F2 h'
    rcases h' with⟨rfl,hf1,g1'⟩|⟨rfl,hf1,g2'⟩
    ·simp[g1',r2 F2,hlr]
     refine M.BX (VN (k:=k) hk hr hrs hs _ F2 _ (by simp[g1']) (by simp) (by simp) (by simp)) fun x hx=>?_
     obtain⟨e,ts3,st3⟩:=x
     obtain⟨F3,h'⟩:=hx
     simp only at F3 h'
     rcases h' with⟨rfl,hf2,g1''⟩|⟨rfl,hf2,g2''⟩
     ·have hl:=bF (k:=k+1) (x:=g.start) hG hs F3.hb
      cases hst:g.isLeft g.start with
      |true=>
       rw[hst] at hl
       have hfault:g.fault=0:=by unfold Ak.fault; rw[if_neg (by simp[hf0]),if_neg hz,if_neg (by simp[hf1]),if_neg (by simp[hf2]),if_neg (by simp[hst])]
       simp[g1'',rg F3,r1 F3,hl,leave,results,AR,hfault]
      |false=>
       rw[hst] at hl
       have hfault:g.fault=8:=by unfold Ak.fault; rw[if_neg (by simp[hf0]),if_neg hz,if_neg (by simp[hf1]),if_neg (by simp[hf2]),if_pos hst]
       simp[g1'',rg F3,r1 F3,hl,leave,results,AR,hfault]
     ·have hfault:g.fault=8:=by unfold Ak.fault; rw[if_neg (by simp[hf0]),if_neg hz,if_neg (by simp[hf1]),if_pos hf2]
      simp[g2'',leave,results,AR,hfault]
    ·have hfault:g.fault=g.GG:=by unfold Ak.fault; rw[if_neg (by simp[hf0]),if_neg hz,if_pos hf1]
     simp[g2',leave,results,AR,hfault]
  ·have hfault:g.fault=g.Cn:=by unfold Ak.fault; rw[if_pos hf0]
   simp[g2,leave,results,AR,hfault]
 obtain⟨⟨v,st'⟩,h1,h2⟩:=goal
 simp only at h2
 subst h2
 rw[h1]
 simp[Di,AV.plain]
def Ak.Ca (g:Ak):Int:=if 60<g.kinds.length then 2 else if g.Cn≠0 then g.Cn else if g.rules.length=0 then 8 else if 100<g.rules.length then 2 else g.fault
theorem Ak.KT {g:Ak}(h:g.kinds.length<=60)(h':g.rules.length<=100):g.Ca=g.fault:=by
 unfold Ak.Ca
 rw[if_neg (by omega)]
 by_cases h1:g.Cn≠0
 ·rw[if_pos h1]; unfold Ak.fault; rw[if_pos h1]
 ·rw[if_neg h1]
  by_cases h2:g.rules.length=0
  ·rw[if_pos h2]; unfold Ak.fault; rw[if_neg h1,if_pos h2]
  ·rw[if_neg h2,if_neg (by omega)]
theorem Ak.Lb {g:Ak}(h:g.Ca=0):g.fault=0/\g.kinds.length<=60/\g.rules.length<=100:=by
 unfold Ak.Ca at h
 split at h
 ·cases h
 split at h
 ·rename_i h1; exact absurd h h1
 split at h
 ·cases h
 split at h
 ·cases h
 ·exact⟨h,by omega,by omega⟩
theorem VJ {k:Nat}{u v:AV}{g:Ak}{st:St}(hth:Cf 0 st.h 64 u=some v)(hg:Bl v g)(hs:g.GA):AX E (k+7) 8 [u] st=.ret (.int .i64 g.Ca,st):=by
 by_cases hk6:g.kinds.length<=60
 ·by_cases hr1:g.rules.length<=100
  ·rw[Ak.KT hk6 hr1]; exact VI hth hg hs hk6 hr1
  ·obtain⟨kv,rv,l,rfl,hk,hr,hrs⟩:=hg
   have hln:=hrs.length
   rw[Ia (fn:=C.f8) (args':=[.agg [kv,.str g.start,rv]]) rfl rfl rfl (by simp[CU,CV,hth]),Af (by simp)]
   have goal:((BF E (AX E (k+6)) C.f8.body (TS.Cm [.agg [kv,.str g.start,rv]] 0 .nil) ⟨[],0,0⟩).bind (leave C.f8.results)).to fun r=>r.1=.int .i64 g.Ca:=by
    have hbx:Gy 0 29 3 (.agg [kv,.str g.start,rv])=some (.AO 0 0,.cells 29 3 [kv,.str g.start,rv] false):=rfl
    obtain⟨S,hS⟩:∃S:St,S=⟨[(0,.cells 29 3 [kv,.str g.start,rv] false)],1,0⟩:=⟨_,rfl⟩
    have hn:newObj 0 (.cells 29 3 [kv,.str g.start,rv] false) ⟨[],1,0⟩=some S:=by rw[hS]; rfl
    have g0:AA S.h 0=some (.cells 29 3 [kv,.str g.start,rv] false):=by rw[hS]; rfl
    have r0:AP S.h (.AO 0 0)=some kv:=by rw[AL g0]; rfl
    have r2:AP S.h (.AO 0 2)=some rv:=by rw[AL g0]; rfl
    have hlk:∀S':St,Be .slice kv S'=some (.int .i64 (g.kinds.length:Int),S'):=fun S'=>by have:=hk.len (st:=S'); simpa using this
    have hlr:∀S':St,Be .slice rv S'=some (.int .i64 (g.rules.length:Int),S'):=fun S'=>by have:=hr.len (st:=S'); rw[this,hln]
    have hk60:¬(60:Int)<(g.kinds.length:Int):=by omega
    have hr100:(100:Int)<(g.rules.length:Int):=by omega
    have hz':((g.rules.length:Int)==0)=false:=by simp only[beq_eq_false_iff_ne,ne_eq]; omega
    simp[C.f8,hbx,hn,r0,hlk,hk60]
    refine M.BX (PI (k:=k+3) hk hs g0 _ (by simp) (by simp) (by simp) (by simp)) fun x hx=>?_
    obtain⟨e,ts1,st1⟩:=x
    obtain⟨h,h'⟩:=hx
    simp only at h h'
    subst h
    rcases h' with⟨rfl,hf0,g1⟩|⟨rfl,hf0,g2⟩
    ·have hfault:g.Ca=2:=by unfold Ak.Ca; rw[if_neg (by omega),if_neg (by simp[hf0]),if_neg (by omega),if_pos (by omega)]
     simp[g1,r2,hlr,hz',hr100,leave,results,AR,hfault]
    ·have hfault:g.Ca=g.Cn:=by unfold Ak.Ca; rw[if_neg (by omega),if_pos hf0]
     simp[g2,leave,results,AR,hfault]
   obtain⟨⟨v,st'⟩,h1,h2⟩:=goal
   simp only at h2
   subst h2
   rw[h1]
   simp[Di,AV.plain]
 ·obtain⟨kv,rv,l,rfl,hk,hr,hrs⟩:=hg
  rw[Ia (fn:=C.f8) (args':=[.agg [kv,.str g.start,rv]]) rfl rfl rfl (by simp[CU,CV,hth]),Af (by simp)]
  have hbx:Gy 0 29 3 (.agg [kv,.str g.start,rv])=some (.AO 0 0,.cells 29 3 [kv,.str g.start,rv] false):=rfl
  obtain⟨S,hS⟩:∃S:St,S=⟨[(0,.cells 29 3 [kv,.str g.start,rv] false)],1,0⟩:=⟨_,rfl⟩
  have hn:newObj 0 (.cells 29 3 [kv,.str g.start,rv] false) ⟨[],1,0⟩=some S:=by rw[hS]; rfl
  have g0:AA S.h 0=some (.cells 29 3 [kv,.str g.start,rv] false):=by rw[hS]; rfl
  have r0:AP S.h (.AO 0 0)=some kv:=by rw[AL g0]; rfl
  have hlk:∀S':St,Be .slice kv S'=some (.int .i64 (g.kinds.length:Int),S'):=fun S'=>by have:=hk.len (st:=S'); simpa using this
  have hk60:(60:Int)<(g.kinds.length:Int):=by omega
  have hfault:g.Ca=2:=by unfold Ak.Ca; rw[if_pos (by omega)]
  simp[C.f8,hbx,hn,r0,hlk,hk60,leave,results,AR,hfault,Di,AV.plain]
theorem VH {k:Nat}{v:AV}{g:Ak}{st:St}(hg:Bl v g)(hs:g.GA):AX E (k+7) 8 [v] st=.ret (.int .i64 g.Ca,st):=VJ (Dv (n:=63) (hg.LD 0)) hg hs
theorem Rc {k:Nat}{v:AV}{g:Ak}{st:St}(hg:Bl v g)(hs:g.Small):AX E (k+7) 8 [v] st=.ret (.int .i64 g.fault,st) :=by
 have:=VH (k:=k) (st:=st) hg hs.wide
 rwa [Ak.KT (by have:=hs.kinds; omega) (by have:=hs.many; omega)] at this
theorem ZT {k:Nat}{x l u:Int}{st:St}:AX E (k+1) 99 [.int .i64 x,.int .i64 l,.int .i64 u] st=.ret (.bool (decide (l<=x/\x<=u)),st):=by
 rw[Ai (fn:=C.f99) rfl rfl rfl,Af (by simp)]
 by_cases h:l<=x
 ·by_cases h2:x<=u
  ·simp[C.f99,Ap,Aj,h,h2,leave,results,AR]
  ·simp[C.f99,Ap,Aj,h,h2,leave,results,AR]
 ·simp[C.f99,Ap,Aj,h,leave,results,AR]
theorem Sv {k q:Nat}{st:St}{la lb:BB}{wa wb:AV}{ra rb:List BB}{na nb:Int}(hb:HB st)(hq:q<st.c)(hf:AA st.h q=some (.cells 47 3 [.str lb,wb,.int .i64 nb] false))(hra:ra.length<1000000)(r1:∀h:Heap,(∀p,p<st.c->AA h p=AA st.h p)->Reads h wa ra)(r2:∀h:Heap,(∀p,p<st.c->AA h p=AA st.h p)->Reads h wb rb) :
 AX E (k+2) 100 [.agg [.str la,wa,.int .i64 na],.AO q 0] st=.ret (.bool (decide (la=lb/\ra=rb)),st):=by
 rw[CY (fn:=C.f100) rfl rfl rfl,Af (by simp)]
 have hb':∀p x,(p,x)∈st.h->p<st.c:=hb
 have hfr:∀p,p<st.c->AA ((st.c,Al.cells 47 3 [.str la,wa,.int .i64 na] false)::st.h) p=AA st.h p:=fun p hp=>by rw[AJ,if_neg (by omega)]
 have f1:AA ((st.c,Al.cells 47 3 [.str la,wa,.int .i64 na] false)::st.h) st.c=some (.cells 47 3 [.str la,wa,.int .i64 na] false):=by rw[AJ,if_pos rfl]
 have f2:=(hfr q hq).trans hf
 have e1:AP ((st.c,Al.cells 47 3 [.str la,wa,.int .i64 na] false)::st.h) (.AO st.c 0)=some (.str la):=by rw[AL f1]; rfl
 have e2:AP ((st.c,Al.cells 47 3 [.str la,wa,.int .i64 na] false)::st.h) (.AO st.c 1)=some wa:=by rw[AL f1]; rfl
 have e3:AP ((st.c,Al.cells 47 3 [.str la,wa,.int .i64 na] false)::st.h) (.AO q 0)=some (.str lb):=by rw[AL f2]; rfl
 have e4:AP ((st.c,Al.cells 47 3 [.str la,wa,.int .i64 na] false)::st.h) (.AO q 1)=some wb:=by rw[AL f2]; rfl
 have heq:=fun (c' l':Nat)=>KU (k:=k) (st:=⟨(st.c,.cells 47 3 [.str la,wa,.int .i64 na] false)::st.h,c',l'⟩) (r1 _ hfr) (r2 _ hfr) hra
 by_cases h:la=lb
 ·subst h
  simp[C.f100,Gy,AV.isTuple,AV.cells,Ao hb',JX,e1,e2,e3,e4,heq,leave,results,AR]
 ·simp[C.f100,Gy,AV.isTuple,AV.cells,Ao hb',JX,e1,e2,e3,e4,h,beq_false_of_ne h,leave,results,AR]
theorem TI {k n fc:Nat}{w:AV}{a b:List AV}{el:Nat->BB}{p:Nat->Bool}{st:St}(hlen:Bu w=some n)(hn:n<1000000)(hat:∀i,i<n->∃q,Ad 1 w (.int .i64 (i:Int)) st=some (q,st)/\AP st.h q=some (.str (el i)))(hcall:∀i,i<n->AX E k fc (a++([.str (el i)]++b)) st=.ret (.bool (p i),st)) :
 ∃r:Int,AX E (k+1) 101 [w,.fn (.func fc) a b] st=.ret (.int .i64 r,st)/\-1<=r/\(0<=r↔∃i,i<n/\p i=true):=by
 have main:(Ct E (AX E k) C.f101 [w,.fn (.func fc) a b] st).to fun x=>∃r:Int,x=(.int .i64 r,st)/\-1<=r/\(0<=r↔∃i,i<n/\p i=true):=by
  rw[Af (by simp)]
  simp[C.f101,Be,hlen]
  refine M.BX (Kb (fun (i:Nat) ts st'=>st'=st/\i<=n/\ts.get 0=w/\ts.get 1=.fn (.func fc) a b/\ts.get 7=.int .i64 (n:Int)/\ts.get 8=.int .i64 (i:Int)/\∀j,j<i->p j=false)
   (fun i=>n-i) (fun e ts st'=>st'=st/\((e=.exit 0/\∀j,j<n->p j=false)∨(e=.ret/\∃i:Nat,i<n/\p i=true/\ts.get 4=.int .i64 (i:Int)))) ?step _ 0 _ _ ?_ ?_) ?_
  case step=>
   rintro i ts st' ⟨rfl,hi,h0,h1,h7,h8,hj⟩
   by_cases Bc:i<n
   ·obtain⟨q,a1,b1⟩:=hat i Bc
    have hc:=hcall i Bc
    simp only[List.singleton_append] at hc
    cases hp:p i with
    |true=>
     rw[hp] at hc
     simp[C.f101L0,h0,h1,h7,h8,Bc,a1,b1,hc]
     exact⟨i,Bc,hp,rfl⟩
    |false=>
     rw[hp] at hc
     simp[C.f101L0,h0,h1,h7,h8,Bc,a1,b1,hc,wi i]
     refine⟨i+1,by omega,by omega,by simp,fun j hji=>?_⟩
     by_cases e:j=i
     ·subst e; exact hp
     ·exact hj j (by omega)
   ·have:i=n:=by omega
    subst this
    simp[C.f101L0,h0,h1,h7,h8]
    exact hj
  ·show n-0<1000000; omega
  ·simp
  ·rintro⟨e,ts,st'⟩ ⟨rfl,h⟩
   rcases h with⟨rfl,h⟩|⟨rfl,i,hi,hp,h4⟩
   ·simp[leave,results,AR]
    intro i hi; simp[h i hi]
   ·simp[h4,leave,results,AR]
    exact⟨i,hi,hp⟩
 rw[Ai (fn:=C.f101) rfl rfl rfl]
 obtain⟨x,h1,r,rfl,h2⟩:=main
 exact⟨r,h1,h2⟩
theorem PY {k n fc:Nat}{w:AV}{a b:List AV}{el:Nat->BB}{p:Nat->Bool}{st:St}(hlen:Bu w=some n)(hn:n<1000000)(hat:∀i,i<n->∃q,Ad 1 w (.int .i64 (i:Int)) st=some (q,st)/\AP st.h q=some (.str (el i)))(hcall:∀i,i<n->AX E k fc (a++([.str (el i)]++b)) st=.ret (.bool (p i),st)) :
 AX E (k+2) 56 [w,.fn (.func fc) a b] st=.ret (.bool (decide (∃i,i<n/\p i=true)),st):=by
 obtain⟨r,h1,h2,h3⟩:=TI hlen hn hat hcall
 rw[Ai (fn:=C.f56) rfl rfl rfl,Af (by simp)]
 have:decide (0<=r)=decide (∃i,i<n/\p i=true):=by simp only[h3]
 simp[C.f56,h1,leave,results,AR]
 simpa using this
theorem Ci.LD {v:AV}{l:List BB}(h:Ci v 1 (strs l))(c:Nat):v.CF c=true:=by
 rcases h.out with⟨rfl,_⟩|⟨t,rfl⟩
 ·rfl
 ·exact KF c _
theorem Pb {k:Nat}{g:Ak}{kv:AV}{st:St}(hk:Ci kv 1 (strs g.kinds))(hs:g.GA)(ts0:TS)(h0':ts0.get 0=kv)(h8:ts0.get 8=kv)(h9:ts0.get 9=.int .i64 (g.kinds.length:Int))(h10:ts0.get 10=.int .i64 ((0:Nat):Int)) :
 (Dh (BF E (AX E (k+3)) C.f54L0) E.k ts0 st).to fun x=>x.2.2=st/\((x.1=.exit 0/\g.Cn=0)∨(x.1=.ret/\g.Cn≠0/\x.2.1.get 2=.int .i64 g.Cn)):=by
 have hkn:=hs.kinds
 refine DI (fun (i:Nat) ts st'=>st'=st/\i<=g.kinds.length/\ts.get 0=kv/\ts.get 8=kv/\ts.get 9=.int .i64 (g.kinds.length:Int)/\ts.get 10=.int .i64 (i:Int)/\∀j,j<i->Gt g.kinds j=0)
  (fun i=>g.kinds.length-i) ?_ _ 0 _ _ ?_ ?_
 ·rintro i ts st' ⟨rfl,hi,h0',h8,h9,h10,hall⟩
  by_cases Bc:i<g.kinds.length
  ·have hnm:=hs.names _ (List.getElem_mem Bc)
   have hrun:=Qd (k:=k) (s:=g.kinds[i]) (st:=st') (by omega)
   have hget:g.kinds.getD i []=g.kinds[i]:=by simp[List.getD,Bc]
   have bad:∀n,Gt g.kinds i=n->n≠0->g.Cn=n:=fun n h hn=>by
    unfold Ak.Cn; rw[KS hall (by rw[h]; exact hn) Bc,h]
   cases hn:FP g.kinds[i] with
   |false=>
    have hb:=bad 5 (by unfold Gt; rw[hget,hn]; simp) (by decide)
    simp[C.f54L0,h0',h8,h9,h10,Bc,hk.Jr Bc,hrun,hn,hb]
   |true=>
    by_cases h0:i=0
    ·subst h0
     have hix0:Ad 1 kv (.int .i64 0) st'=some (.BN [.str g.kinds[0]],st'):=hk.Jr (i:=0) Bc
     have good:Gt g.kinds 0=0:=by unfold Gt; rw[hget,hn]; simp
     simp[C.f54L0,Ap,Aj,h0',h8,h9,h10,Bc,hix0,hrun,hn,wrap64 (n:=(1:Int)) (by omega) (by omega)]
     exact⟨1,by omega,by omega,by simp,fun j hj=>by
      have:j=0:=by omega
      subst this; exact good⟩
    ·have hp:i-1<g.kinds.length:=by omega
     have hcast:((i:Int)-1)=((i-1:Nat):Int):=by omega
     have hpos:0<i:=by omega
     have hgp:g.kinds.getD (i-1) []=g.kinds[i-1]:=by simp[List.getD,hp]
     by_cases hless:g.kinds[i-1]<g.kinds[i]
     ·have good:Gt g.kinds i=0:=by unfold Gt; rw[hget,hgp,hn]; simp[hless]
      have h1:decide (g.kinds[i]<g.kinds[i-1])=false:=decide_eq_false (Yj hless)
      have h2:(g.kinds[i]==g.kinds[i-1])=false:=beq_false_of_ne fun e=>Me _ (e ▸ hless)
      simp[C.f54L0,Ap,Aj,h0',h8,h9,h10,Bc,hk.Jr Bc,hrun,hn,hpos,wrap64 (n:=((i-1:Nat):Int)) (by omega) (by omega),hcast,hk.Jr hp,NT,h1,h2,wi i]
      refine⟨i+1,by omega,by omega,by simp,fun j hj=>?_⟩
      rcases Nat.lt_or_ge j i with h|h
      ·exact hall j h
      ·have:j=i:=by omega
       subst this; exact good
     ·have hb:=bad 7 (by unfold Gt; rw[hget,hgp,hn]; simp[hless]; omega) (by decide)
      have h1:(decide (g.kinds[i]<g.kinds[i-1])||(g.kinds[i]==g.kinds[i-1]))=true:=by
       by_cases e:g.kinds[i]=g.kinds[i-1]
       ·simp[e]
       ·have:=Yi hless (Ne.symm e)
        simp only[Bool.or_eq_true,decide_eq_true_eq]; exact .inl this
      simp only[← NT] at h1
      have hle:bin .leq (.str g.kinds[i]) (.str g.kinds[i-1])=some (.bool true):=by rw[Vk,h1]
      simp[C.f54L0,Ap,Aj,h0',h8,h9,h10,Bc,hk.Jr Bc,hrun,hn,hpos,wrap64 (n:=((i-1:Nat):Int)) (by omega) (by omega),hcast,hk.Jr hp,-Vk,hle,hb]
  ·have:i=g.kinds.length:=by omega
   subst this
   have:g.Cn=0:=Gi hall
   simp[C.f54L0,h8,h9,h10,this]
 ·show g.kinds.length-0<1000000; omega
 ·exact⟨rfl,by omega,h0',h8,h9,h10,fun j h=>by omega⟩
theorem Lf {k:Nat}{g:Ak}{kv:AV}{st:St}(hk:Ci kv 1 (strs g.kinds))(hs:g.GA):AX E (k+4) 54 [kv] st=.ret (.int .i64 (if 60<g.kinds.length then 2 else g.Cn),st):=by
 have hold:=hk.LD 0
 have hkn:=hs.kinds
 rw[DK (fn:=C.f54) rfl rfl rfl (by simp[AV.Cx,hold]),Af (by simp)]
 have goal:((BF E (AX E (k+3)) C.f54.body (TS.Cm [kv] 0 .nil) ⟨[],0,0⟩).bind (leave C.f54.results)).to fun r=>r.1=.int .i64 (if 60<g.kinds.length then 2 else g.Cn):=by
  have hlk:∀S':St,Be .slice kv S'=some (.int .i64 (g.kinds.length:Int),S'):=fun S'=>by have:=hk.len (st:=S'); simpa using this
  by_cases h6:60<g.kinds.length
  ·have hk60:(60:Int)<(g.kinds.length:Int):=by omega
   simp[C.f54,hlk,hk60,h6,leave,results,AR]
  have hk60:¬(60:Int)<(g.kinds.length:Int):=by omega
  rw[if_neg h6]
  simp[C.f54,hlk,hk60]
  refine M.BX (Pb (k:=k) hk hs _ (by simp) (by simp) (by simp) (by simp)) fun x hx=>?_
  obtain⟨e,ts1,st1⟩:=x
  obtain⟨h,h'⟩:=hx
  simp only at h h'
  subst h
  rcases h' with⟨rfl,hf0⟩|⟨rfl,hf0,g2⟩
  ·simp[leave,results,AR,hf0]
  ·simp[leave,results,AR,g2]
 obtain⟨⟨v,st'⟩,h1,h2⟩:=goal
 simp only at h2
 subst h2
 rw[h1]
 simp
set_option maxHeartbeats 1000000 in
theorem Rj {k:Nat}{v:AV}{g:Ak}{st:St}(hg:Bl v g)(hs:g.GA){i:Nat}(hi:i<g.rules.length):AX E (k+5) 55 [v,.int .i64 (i:Int)] st=.ret (.int .i64 (JN g i),st):=by
 have hold:=hg.LD 0
 obtain⟨kv,rv,l,rfl,hk,hr,hrs⟩:=hg
 have hln:=hrs.length
 have hmany:=hs.many
 have hkn:=hs.kinds
 have hil:i<l.length:=by omega
 obtain⟨w,e1,e2⟩:=(hrs.get i hi).2
 have hsm:=hs.rules _ (List.getElem_mem hi)
 have hsr:=hsm.right
 rw[DK (fn:=C.f55) rfl rfl rfl (by simp[AV.Cx,hold]; rfl),Af (by simp)]
 have hget:g.rules.getD i default=g.rules[i]:=by simp[List.getD,hi]
 have hbx:Gy 0 29 3 (.agg [kv,.str g.start,rv])=some (.AO 0 0,.cells 29 3 [kv,.str g.start,rv] false):=rfl
 obtain⟨rc,hrc⟩:∃rc:List AV,rc=[.str g.rules[i].left,w,.int .i64 g.rules[i].level]:=⟨_,rfl⟩
 obtain⟨h,hh⟩:∃h:Heap,h=[(0,.cells 29 3 [kv,.str g.start,rv] false)]:=⟨_,rfl⟩
 have hn0:newObj 0 (.cells 29 3 [kv,.str g.start,rv] false) ⟨[],1,0⟩=some ⟨h,1,0⟩:=by rw[hh]; rfl
 obtain⟨h',hh'⟩:∃h':Heap,h'=(1,Al.cells 47 3 rc false)::h:=⟨_,rfl⟩
 have hb0:HB ⟨h,1,0⟩:=by
  intro p x hp
  rw[hh] at hp
  rcases List.mem_cons.1 hp with e|e
  ·cases e; exact Nat.zero_lt_one
  ·cases e
 have hbS:HB ⟨h',2,0⟩:=hh' ▸ HB.cons (h:=h) (c:=1) (lo:=0) hb0 (by omega) (by omega)
 have hf0:AA h 0=some (.cells 29 3 [kv,.str g.start,rv] false):=by rw[hh]; rfl
 have f0:AA h' 0=some (.cells 29 3 [kv,.str g.start,rv] false):=by rw[hh',AJ,if_neg (by omega)]; exact hf0
 have fc:AA h' 1=some (.cells 47 3 rc false):=by rw[hh',AJ,if_pos rfl]
 have hix:Ad 3 rv (.int .i64 (i:Int)) ⟨h,2,0⟩=some (.BN l[i].cells,⟨h,2,0⟩):=hr.idx hil
 have hcells:l[i].cells=rc:=by rw[e1,hrc]; rfl
 rw[hcells] at hix
 have hn:newObj 1 (.cells 47 3 [.str [],.AB,.int .i64 0] false) ⟨h,2,0⟩=some ⟨(1,.cells 47 3 [.str [],.AB,.int .i64 0] false)::h,2,0⟩:=Ao hb0
 have hst:=DY (h:=h) (c:=1) (c':=2) (lo:=0) (ty:=47) (n:=3) (zs:=[.str [],.AB,.int .i64 0]) (vs:=rc) (by omega) (by rw[hrc]; rfl) rfl
 rw[← hh'] at hst
 have hrd3:Ac h (.BN rc) 3=some rc:=by rw[hrc]; rfl
 have rr:AP h (.AO 0 2)=some rv:=by rw[AL hf0]; rfl
 have r0:AP h' (.AO 0 2)=some rv:=by rw[AL f0]; rfl
 have rk:AP h' (.AO 0 0)=some kv:=by rw[AL f0]; rfl
 have rc0:AP h' (.AO 1 0)=some (.str g.rules[i].left):=by rw[AL fc,hrc]; rfl
 have rc1:AP h' (.AO 1 1)=some w:=by rw[AL fc,hrc]; rfl
 have rc2:AP h' (.AO 1 2)=some (.int .i64 g.rules[i].level):=by rw[AL fc,hrc]; rfl
 obtain⟨w2,c1,c2⟩:=hr.cut (st:=⟨h',2,0⟩) (i:=i) (by omega)
 have hln2:(l.take i).length=i:=by simp; omega
 have hcon:=Fw (k:=k+2) (n:=i) (fc:=100) (w:=w2) (a:=[]) (b:=[.AO 1 0]) (el:=fun j=>(l.getD j .undef).cells) (p:=fun j=>QF (g.rules.getD j default) g.rules[i]) (st:=⟨h',2,0⟩)
  (by rw[c2.bD,hln2]) (by omega) (fun j hj=>by
   have hjl:j<l.length:=by omega
   have hg:l.getD j .undef=l[j]:=by simp[List.getD,hjl]
   obtain⟨w',lv',e'⟩:=(hrs.get j (by omega)).2.eB
   refine⟨.BN l[j].cells,?_,?_⟩
   ·have:=c2.idx (st:=⟨h',2,0⟩) (i:=j) (by omega)
    simpa using this
   ·rw[hg,e']; simp[Ac,AV.cells,ble_eq]) (fun j hj=>by
   have hjl:j<l.length:=by omega
   have hg:l.getD j .undef=l[j]:=by simp[List.getD,hjl]
   have hg2:g.rules.getD j default=g.rules[j]'(by omega):=by simp[List.getD,show j<g.rules.length by omega]
   obtain⟨w',e1',e2'⟩:=(hrs.get j (by omega)).2
   have hsm':=hs.rules _ (List.getElem_mem (show j<g.rules.length by omega))
   have hr30:=hsm'.right
   have:=Sv (k:=k) (la:=(g.rules[j]'(by omega)).left) (q:=1) (st:=⟨h',2,0⟩) (na:=(g.rules[j]'(by omega)).level) hbS (by show 1<2; omega) (hrc ▸ fc) (by omega) (fun _ _=>Reads.Ub e2') (fun _ _=>Reads.Ub e2)
   rw[hg,e1',hg2]
   exact this)
 have hname:=Qd (k:=k+1) (s:=g.rules[i].left) (st:=⟨h',2,0⟩) (by have:=hsm.left; omega)
 have hkind:=Nl (k:=k+2) (x:=g.rules[i].left) (st:=⟨h',2,0⟩) hk (by omega)
 have hin:=ZT (k:=k+3) (x:=g.rules[i].level) (l:=0) (u:=99) (st:=⟨h',2,0⟩)
 have hlr:Be .slice w ⟨h',2,0⟩=some (.int .i64 (g.rules[i].right.length:Int),⟨h',2,0⟩):=by have:=e2.len (st:=⟨h',2,0⟩); simpa using this
 have hF:JN g i=bif !FP g.rules[i].left then 5 else bif decide (g.rules[i].left∈g.kinds) then 13 else bif decide (20<g.rules[i].right.length) then 2 else bif !decide (0<=g.rules[i].level/\g.rules[i].level<=99) then 1 else bif decide (∃j,j<i/\QF (g.rules.getD j default) g.rules[i]=true) then 6 else 0:=by
  unfold JN; rw[hget]
  simp only[cond_eq_ite,Bool.not_eq_true',decide_eq_true_eq,decide_eq_false_iff_not]
 have hb3:decide ((20:Int)<(g.rules[i].right.length:Int))=decide (20<g.rules[i].right.length):=by simp only[decide_eq_decide]; omega
 have hgt:bin .gtr (.int .i64 (g.rules[i].right.length:Int)) (.int .i64 20)=some (.bool (decide (20<g.rules[i].right.length))):=by rw[Pp,hb3]
 generalize FP g.rules[i].left=b1 at hF hname
 generalize decide (g.rules[i].left∈g.kinds)=b2 at hF hkind
 generalize decide (20<g.rules[i].right.length)=b3 at hF hgt
 generalize decide (0<=g.rules[i].level/\g.rules[i].level<=99)=b4 at hF hin
 generalize decide (∃j,j<i/\QF (g.rules.getD j default) g.rules[i]=true)=b5 at hF hcon
 rw[hF]
 simp[C.f55,hbx,hn0,rr,hix,-Bp,hrd3,hn,hst,r0,rk,c1,hcon,rc0,rc1,rc2,hname,hkind,hlr,-Pp,hgt,hin,M.SQ]
 cases b1 <;> cases b2 <;> cases b3 <;> cases b4 <;> cases b5 <;> simp[leave,results,AR]
def DL (h:Heap)(o:Nat)(K:List BB):Prop:=∃bs clock,AA h o=some (.map (strs K) (List.replicate K.length (.bool true)) bs clock)
theorem Ml (x:BB):∀K:List BB,(x∈K/\∃i,i<K.length/\FY (.one .str) (strs K) (.str x)=some (some i))∨(x∉K/\FY (.one .str) (strs K) (.str x)=some none)
 |[]=>.inr ⟨by simp,rfl⟩
 |y::K=>by
  have hk:dU (.one .str) (.str x) (.str y)=some (x==y):=rfl
  by_cases e:x=y
  ·subst e
   refine .inl ⟨by simp,0,by simp,?_⟩
   show FY (.one .str) (.str x::strs K) (.str x)=_
   simp[FY,hk]
  ·have hne:(x==y)=false:=beq_false_of_ne e
   rcases Ml x K with⟨h1,i,h2,h3⟩|⟨h1,h2⟩
   ·refine .inl ⟨List.mem_cons_of_mem _ h1,i+1,by simp; omega,?_⟩
    show FY (.one .str) (.str y::strs K) (.str x)=_
    simp[FY,hk,hne,h3]
   ·refine .inr ⟨by simp[e,h1],?_⟩
    show FY (.one .str) (.str y::strs K) (.str x)=_
    simp[FY,hk,hne,h2]
theorem DL.look {st:St}{o:Nat}{K:List BB}(H:DL st.h o K)(x:BB):Gq (.one .str) (.bool false) false (.Cq o) (.str x) st=some (.bool (decide (x∈K)),st):=by
 obtain⟨bs,clock,hf⟩:=H
 rcases Ml x K with⟨h1,i,h2,h3⟩|⟨h1,h2⟩
 ·simp[Gq,hf,Ie,KL,h3,Jj,h1,List.getElem?_replicate,h2]
 ·simp[Gq,hf,Ie,KL,h2,Jj,h1]
theorem DL.put {st:St}{o:Nat}{K:List BB}(H:DL st.h o K)(hlo:st.lo<=o)(x:BB) :
 ∃ob K',Du (.one .str) (.Cq o) (.str x) (.bool true) st=some (.undef,{ st with h:=Aa st.h o ob })/\DL (Aa st.h o ob) o K'/\(∀y,y∈K'↔y=x∨y∈K)/\∀p,p≠o->AA (Aa st.h o ob) p=AA st.h p:=by
 obtain⟨bs,clock,hf⟩:=H
 have hb:Nat.blt o st.lo=false:=by rw[blt_eq]; simp; omega
 rcases Ml x K with⟨h1,i,h2,h3⟩|⟨h1,h2⟩
 ·refine⟨_,K,by simp only[Du,hb,KL,hf,h3,Bool.not_true,Bool.or_self,cond_false]; rfl,⟨bs,clock,?_⟩,fun y=>⟨.inr,fun h=>h.elim (fun e=>e ▸ h1) id⟩,fun p hp=>by rw[AY hf,if_neg (Ne.symm hp)]⟩
  rw[AY hf,if_pos rfl]; simp
 ·refine⟨_,K++[x],by simp only[Du,hb,KL,hf,h2,Bool.not_true,Bool.or_self,cond_false]; rfl,⟨bs++[clock],clock+1,?_⟩,fun y=>by simp[or_comm],fun p hp=>by rw[AY hf,if_neg (Ne.symm hp)]⟩
  rw[AY hf,if_pos rfl]
  simp[strs,List.replicate_succ']
theorem DL.frame {h h':Heap}{o:Nat}{K:List BB}(H:DL h o K)(e:AA h' o=AA h o):DL h' o K:=by
 obtain⟨bs,clock,hf⟩:=H
 exact⟨bs,clock,e.trans hf⟩
theorem HB.Aa {st:St}{o:Nat}{ob:Al}(hb:HB st):HB { st with h:=Aa st.h o ob }:=by
 intro p x hp
 obtain⟨x',hx'⟩:=IQ hp
 exact hb p x' hx'
structure CS (gs:List AV)(K:List BB)(st:St):Prop where
 hb:HB st
 g0:AA st.h 0=some (.cells 29 3 gs false)
 m1:DL st.h 1 K
 k2:AA st.h 2=some (.cells 105 1 [.Cq 1] false)
 lo:st.lo=0
 c2:2<st.c
theorem Vb {n:Nat}{g:Ak}{gs:List AV}{kv:AV}(hk:Ci kv 1 (strs g.kinds))(hs:g.GA)(st:St)(H:CS gs [] st)(ts0:TS)(h1:ts0.get 1=.AO 0 0)(h4:ts0.get 4=.AO 2 0)(h31:ts0.get 31=kv)(h32:ts0.get 32=.int .i64 (g.kinds.length:Int))(h33:ts0.get 33=.int .i64 ((0:Nat):Int)) :
 (Dh (BF E (AX E n) C.f22L0) E.k ts0 st).to fun x=>x.1=.exit 1/\x.2.1.get 1=.AO 0 0/\x.2.1.get 4=.AO 2 0/\x.2.2.c=st.c/\∃K,CS gs K x.2.2/\∀s,s∈K↔s∈g.kinds:=by
 have hkn:=hs.kinds
 refine DI (fun (i:Nat) ts st'=>i<=g.kinds.length/\ts.get 1=.AO 0 0/\ts.get 4=.AO 2 0/\ts.get 31=kv/\ts.get 32=.int .i64 (g.kinds.length:Int)/\ts.get 33=.int .i64 (i:Int)/\st'.c=st.c/\∃K,CS gs K st'/\∀s,s∈K↔s∈g.kinds.take i)
  (fun i=>g.kinds.length-i) ?_ _ 0 _ _ ?_ ?_
 ·rintro i ts st' ⟨hi,h1,h4,h31,h32,h33,hc,K,H,hK⟩
  by_cases Bc:i<g.kinds.length
  ·have r2:AP st'.h (.AO 2 0)=some (.Cq 1):=by rw[AL H.k2]; rfl
   obtain⟨ob,K',p1,p2,p3,p4⟩:=H.m1.put (by rw[H.lo]; omega) g.kinds[i]
   simp[C.f22L0,h1,h4,h31,h32,h33,Bc,hk.Jr Bc,r2,p1,wi i]
   refine⟨i+1,by omega,by omega,by simp,hc,K',⟨H.hb.Aa,(p4 0 (by omega)).trans H.g0,p2,(p4 2 (by omega)).trans H.k2,H.lo,H.c2⟩,fun s=>?_⟩
   rw[p3,hK,List.take_succ_eq_append_getElem Bc,List.mem_append,List.mem_singleton,or_comm]
  ·have:i=g.kinds.length:=by omega
   subst this
   rw[List.take_length] at hK
   simp[C.f22L0,h1,h4,h31,h32,h33]
   exact⟨hc,K,H,hK⟩
 ·show g.kinds.length-0<1000000; omega
 ·exact⟨by omega,h1,h4,h31,h32,h33,rfl,[],H,by simp⟩
theorem Oz (g:Ak)(i:Nat)(hi:i<g.rules.length)(s:BB):(s=g.rules[i].left∨∃r∈g.rules.take i,r.left=s)↔∃r∈g.rules.take (i+1),r.left=s:=by
 rw[List.take_succ_eq_append_getElem hi]
 constructor
 ·rintro (rfl|⟨r,h1,h2⟩)
  ·exact⟨g.rules[i],List.mem_append.2 (.inr (by simp only[List.mem_singleton])),rfl⟩
  ·exact⟨r,List.mem_append.2 (.inl h1),h2⟩
 ·rintro⟨r,h1,h2⟩
  rcases List.mem_append.1 h1 with h|h
  ·exact .inr ⟨r,h,h2⟩
  ·simp only[List.mem_singleton] at h; subst h; exact .inl h2.symm
set_option maxHeartbeats 1000000 in
theorem Va {k:Nat}{g:Ak}{kv rv:AV}{l:List AV}(hk:Ci kv 1 (strs g.kinds))(hr:Ci rv 3 l)(hrs:Bo l g.rules)(hs:g.GA)(st:St){K0:List BB}(H:CS [kv,.str g.start,rv] K0 st)(hK0:∀s,s∈K0↔s∈g.kinds)(H3:DL st.h 3 [])(hc3:3<st.c)(ts0:TS)(h1:ts0.get 1=.AO 0 0)(h4:ts0.get 4=.AO 2 0)(h7:ts0.get 7=.Cq 3)(h42:ts0.get 42=rv)(h43:ts0.get 43=.int .i64 (g.rules.length:Int))(h44:ts0.get 44=.int .i64 ((0:Nat):Int)) :
 (Dh (BF E (AX E (k+5)) C.f22L1) E.k ts0 st).to fun x=>
  (x.1=.exit 3/\g.GG=0/\x.2.1.get 1=.AO 0 0/\x.2.1.get 4=.AO 2 0/\x.2.1.get 7=.Cq 3/\3<x.2.2.c/\∃K L,CS [kv,.str g.start,rv] K x.2.2/\DL x.2.2.h 3 L/\(∀s,s∈K↔g.sym s=true)/\∀s,s∈L↔g.isLeft s=true)∨(x.1=.ret/\g.GG≠0/\x.2.1.get 2=.int .i64 g.GG):=by
 have hln:=hrs.length
 have hmany:=hs.many
 have hG:Bl (.agg [kv,.str g.start,rv]) g:=⟨kv,rv,l,rfl,hk,hr,hrs⟩
 refine DI (fun (i:Nat) ts st'=>i<=g.rules.length/\ts.get 1=.AO 0 0/\ts.get 4=.AO 2 0/\ts.get 7=.Cq 3/\ts.get 42=rv/\ts.get 43=.int .i64 (g.rules.length:Int)/\ts.get 44=.int .i64 (i:Int)/\3<st'.c/\(∀j,j<i->JN g j=0)/\∃K L,CS [kv,.str g.start,rv] K st'/\DL st'.h 3 L/\(∀s,s∈K↔s∈g.kinds∨∃r∈g.rules.take i,r.left=s)/\∀s,s∈L↔∃r∈g.rules.take i,r.left=s)
  (fun i=>g.rules.length-i) ?_ _ 0 _ _ ?_ ?_
 ·rintro i ts st' ⟨hi,h1,h4,h7,h42,h43,h44,hc3,hall,K,L,H,H3,hK,hL⟩
  by_cases Bc:i<g.rules.length
  ·have hil:i<l.length:=by omega
   obtain⟨w,e1,e2⟩:=(hrs.get i Bc).2
   have bad:JN g i≠0->g.GG=JN g i:=fun hn=>by unfold Ak.GG; rw[KS hall hn Bc]
   obtain⟨h,c,lo⟩:=st'
   have hlo:lo=0:=H.lo
   subst hlo
   have hb':∀p x,(p,x)∈h->p<c:=H.hb
   have hc3':3<c:=hc3
   obtain⟨rc,hrc⟩:∃rc:List AV,rc=[.str g.rules[i].left,w,.int .i64 g.rules[i].level]:=⟨_,rfl⟩
   obtain⟨h',hh'⟩:∃h':Heap,h'=(c,Al.cells 47 3 rc false)::h:=⟨_,rfl⟩
   have hbS:HB ⟨h',c+1,0⟩:=hh' ▸ HB.cons (h:=h) (c:=c) (lo:=0) H.hb (by omega) (by omega)
   have fr:∀p,p<c->AA h' p=AA h p:=fun p hp=>by rw[hh',AJ,if_neg (by omega)]
   have hix:Ad 3 rv (.int .i64 (i:Int)) ⟨h,c+1,0⟩=some (.BN l[i].cells,⟨h,c+1,0⟩):=hr.idx hil
   have hcells:l[i].cells=rc:=by rw[e1,hrc]; rfl
   rw[hcells] at hix
   have hn:newObj c (.cells 47 3 [.str [],.AB,.int .i64 0] false) ⟨h,c+1,0⟩=some ⟨(c,.cells 47 3 [.str [],.AB,.int .i64 0] false)::h,c+1,0⟩:=Ao hb'
   have hst:=DY (h:=h) (c:=c) (c':=c+1) (lo:=0) (ty:=47) (n:=3) (zs:=[.str [],.AB,.int .i64 0]) (vs:=rc) (by omega) (by rw[hrc]; rfl) rfl
   rw[← hh'] at hst
   have hrd3:Ac h (.BN rc) 3=some rc:=by rw[hrc]; rfl
   have fc:AA h' c=some (.cells 47 3 rc false):=by rw[hh',AJ,if_pos rfl]
   have f0:AA h' 0=some (.cells 29 3 [kv,.str g.start,rv] false):=(fr 0 (by omega)).trans H.g0
   have rg:Ac h' (.AO 0 0) 3=some [kv,.str g.start,rv]:=Bj f0 rfl
   have rc0:AP h' (.AO c 0)=some (.str g.rules[i].left):=by rw[AL fc,hrc]; rfl
   have r2:AP h' (.AO 2 0)=some (.Cq 1):=by rw[AL ((fr 2 (by omega)).trans H.k2)]; rfl
   have M1:DL (St.mk h' (c+1) 0).h 1 K:=H.m1.frame (fr 1 (by omega))
   obtain⟨ob,K',p1,p2,p3,p4⟩:=M1.put (st:=⟨h',c+1,0⟩) (by show 0<=1; omega) g.rules[i].left
   simp only at p1 p2 p4
   have rc0':AP (Aa h' 1 ob) (.AO c 0)=some (.str g.rules[i].left):=by rw[AL ((p4 c (by omega)).trans fc),hrc]; rfl
   have M3:DL (St.mk (Aa h' 1 ob) (c+1) 0).h 3 L:=H3.frame ((p4 3 (by omega)).trans (fr 3 hc3'))
   obtain⟨ob2,L',q1,q2,q3,q4⟩:=M3.put (st:=⟨Aa h' 1 ob,c+1,0⟩) (by show 0<=3; omega) g.rules[i].left
   simp only at q1 q2 q4
   have hrule:=Rj (k:=k) (st:=⟨h',c+1,0⟩) hG hs Bc
   by_cases hz:JN g i=0
   ·rw[hz] at hrule
    simp[C.f22L1,h1,h4,h7,h42,h43,h44,Bc,hix,-Bp,hrd3,hn,hst,rg,hrule,Gz,IY,Dw,Da,Fj,beq_eq,AV.Fe,r2,rc0,p1,rc0',q1,wi i]
    refine⟨i+1,by omega,by omega,by simp,by omega,fun j hj=>?_,K',⟨HB.Aa (st:=⟨Aa h' 1 ob,c+1,0⟩) (HB.Aa (st:=⟨h',c+1,0⟩) hbS),?_,p2.frame (q4 1 (by omega)),?_,rfl,by show 2<c+1; omega⟩,L',q2,fun s=>?_,fun s=>?_⟩
    ·rcases Nat.lt_or_ge j i with h|h
     ·exact hall j h
     ·have:j=i:=by omega
      subst this; exact hz
    ·exact (q4 0 (by omega)).trans ((p4 0 (by omega)).trans f0)
    ·exact (q4 2 (by omega)).trans ((p4 2 (by omega)).trans ((fr 2 (by omega)).trans H.k2))
    ·rw[p3,hK,← Oz g i Bc s]
     constructor
     ·rintro (h|h|h)
      ·exact .inr (.inl h)
      ·exact .inl h
      ·exact .inr (.inr h)
     ·rintro (h|h|h)
      ·exact .inr (.inl h)
      ·exact .inl h
      ·exact .inr (.inr h)
    ·rw[q3,hL,← Oz g i Bc s]
   ·have hne:(JN g i !=0)=true:=by simpa using hz
    simp[C.f22L1,h1,h4,h7,h42,h43,h44,Bc,hix,-Bp,hrd3,hn,hst,rg,hrule,hne,hz,bad hz]
  ·have:i=g.rules.length:=by omega
   subst this
   have hzero:g.GG=0:=Gi hall
   rw[List.take_length] at hK hL
   have hleft:∀s,(∃r∈g.rules,r.left=s)↔g.isLeft s=true:=fun s=>by unfold Ak.isLeft; simp
   simp[C.f22L1,h1,h4,h7,h42,h43,h44,hzero]
   exact⟨hc3,K,H,L,H3,fun s=>by rw[hK,hleft]; unfold Ak.sym; simp,fun s=>by rw[hL,hleft]⟩
 ·show g.rules.length-0<1000000; omega
 ·exact⟨by omega,h1,h4,h7,h42,h43,h44,hc3,fun j h=>by omega,K0,[],H,H3,by simpa using hK0,by simp⟩
theorem fB {k:Nat}{K:List BB}{x:BB}{st:St}(h2:AA st.h 2=some (.cells 105 1 [.Cq 1] false))(h1:DL st.h 1 K) :
 AX E (k+1) 57 [.str x,.AO 2 0] st=.ret (.bool (!decide (x∈K)),st):=by
 rw[CY (fn:=C.f57) rfl rfl rfl,Af (by simp)]
 have r2:AP st.h (.AO 2 0)=some (.Cq 1):=by rw[AL h2]; rfl
 have hl:=DL.look (st:=⟨st.h,st.c,st.c⟩) h1 x
 simp[C.f57,r2,hl,leave,results,AR]
theorem TE {k:Nat}{K:List BB}{w:AV}{r:List BB}{st:St}(hw:Ci w 1 (strs r))(hrl:r.length<=100000)(h2:AA st.h 2=some (.cells 105 1 [.Cq 1] false))(h1:DL st.h 1 K) :
 AX E (k+3) 56 [w,.fn (.func 57) [] [.AO 2 0]] st=.ret (.bool (!r.all fun s=>decide (s∈K)),st):=by
 have hc:=PY (k:=k+1) (n:=r.length) (fc:=57) (w:=w) (a:=[]) (b:=[.AO 2 0]) (el:=fun j=>r.getD j []) (p:=fun j=>!decide (r.getD j []∈K)) (st:=st)
  (by rw[hw.bD]; simp) (by omega) (fun i hi=>⟨_,hw.Jr hi,by simp[List.getD,hi]⟩) (fun i hi=>fB h2 h1)
 have e:decide (∃i,i<r.length/\(!decide (r.getD i []∈K))=true)=!r.all fun s=>decide (s∈K):=by
  rw[Bool.eq_iff_iff]
  simp only[decide_eq_true_eq,Bool.not_eq_true',List.all_eq_false,decide_eq_false_iff_not]
  constructor
  ·rintro⟨i,hi,h⟩
   refine⟨r[i],List.getElem_mem hi,?_⟩
   simpa [List.getD,hi] using h
  ·rintro⟨s,hs,h⟩
   obtain⟨i,hi,rfl⟩:=List.getElem_of_mem hs
   exact⟨i,hi,by simpa [List.getD,hi] using h⟩
 rw[hc,e]
set_option maxHeartbeats 1000000 in
theorem VZ {k:Nat}{g:Ak}{kv rv:AV}{l:List AV}(hr:Ci rv 3 l)(hrs:Bo l g.rules)(hs:g.GA)(st:St){K L:List BB}(H:CS [kv,.str g.start,rv] K st)(hK:∀s,s∈K↔g.sym s=true)(H3:DL st.h 3 L)(hc3:3<st.c)(ts0:TS)(h1:ts0.get 1=.AO 0 0)(h4:ts0.get 4=.AO 2 0)(h7:ts0.get 7=.Cq 3)(h63:ts0.get 63=rv)(h64:ts0.get 64=.int .i64 (g.rules.length:Int))(h65:ts0.get 65=.int .i64 ((0:Nat):Int)) :
 (Dh (BF E (AX E (k+3)) C.f22L2) E.k ts0 st).to fun x=>
  (x.1=.exit 5/\g.JI=true/\x.2.1.get 1=.AO 0 0/\x.2.1.get 7=.Cq 3/\CS [kv,.str g.start,rv] K x.2.2/\DL x.2.2.h 3 L)∨(x.1=.ret/\g.JI=false/\x.2.1.get 2=.int .i64 8):=by
 have hln:=hrs.length
 have hmany:=hs.many
 have hfun:(fun s=>decide (s∈K))=g.sym:=by
  funext s; rw[Bool.eq_iff_iff,decide_eq_true_eq]; exact hK s
 refine DI (fun (i:Nat) ts st'=>i<=g.rules.length/\ts.get 1=.AO 0 0/\ts.get 4=.AO 2 0/\ts.get 7=.Cq 3/\ts.get 63=rv/\ts.get 64=.int .i64 (g.rules.length:Int)/\ts.get 65=.int .i64 (i:Int)/\3<st'.c/\(∀j (hj:j<g.rules.length),j<i->g.rules[j].right.all g.sym=true)/\CS [kv,.str g.start,rv] K st'/\DL st'.h 3 L)
  (fun i=>g.rules.length-i) ?_ _ 0 _ _ ?_ ?_
 ·rintro i ts st' ⟨hi,h1,h4,h7,h63,h64,h65,hc3,hall,H,H3⟩
  by_cases Bc:i<g.rules.length
  ·have hil:i<l.length:=by omega
   obtain⟨w,e1,e2⟩:=(hrs.get i Bc).2
   have hsm:=hs.rules _ (List.getElem_mem Bc)
   have hsr:=hsm.right
   obtain⟨h,c,lo⟩:=st'
   have hlo:lo=0:=H.lo
   subst hlo
   have hb':∀p x,(p,x)∈h->p<c:=H.hb
   have hc3':3<c:=hc3
   obtain⟨rc,hrc⟩:∃rc:List AV,rc=[.str g.rules[i].left,w,.int .i64 g.rules[i].level]:=⟨_,rfl⟩
   obtain⟨h',hh'⟩:∃h':Heap,h'=(c,Al.cells 47 3 rc false)::h:=⟨_,rfl⟩
   have hbS:HB ⟨h',c+1,0⟩:=hh' ▸ HB.cons (h:=h) (c:=c) (lo:=0) H.hb (by omega) (by omega)
   have fr:∀p,p<c->AA h' p=AA h p:=fun p hp=>by rw[hh',AJ,if_neg (by omega)]
   have hix:Ad 3 rv (.int .i64 (i:Int)) ⟨h,c+1,0⟩=some (.BN l[i].cells,⟨h,c+1,0⟩):=hr.idx hil
   have hcells:l[i].cells=rc:=by rw[e1,hrc]; rfl
   rw[hcells] at hix
   have hn:newObj c (.cells 47 3 [.str [],.AB,.int .i64 0] false) ⟨h,c+1,0⟩=some ⟨(c,.cells 47 3 [.str [],.AB,.int .i64 0] false)::h,c+1,0⟩:=Ao hb'
   have hst:=DY (h:=h) (c:=c) (c':=c+1) (lo:=0) (ty:=47) (n:=3) (zs:=[.str [],.AB,.int .i64 0]) (vs:=rc) (by omega) (by rw[hrc]; rfl) rfl
   rw[← hh'] at hst
   have hrd3:Ac h (.BN rc) 3=some rc:=by rw[hrc]; rfl
   have fc:AA h' c=some (.cells 47 3 rc false):=by rw[hh',AJ,if_pos rfl]
   have rc1:AP h' (.AO c 1)=some w:=by rw[AL fc,hrc]; rfl
   have M1:DL (St.mk h' (c+1) 0).h 1 K:=H.m1.frame (fr 1 (by omega))
   have HC:CS [kv,.str g.start,rv] K ⟨h',c+1,0⟩:=⟨hbS,(fr 0 (by omega)).trans H.g0,M1,(fr 2 (by omega)).trans H.k2,rfl,by show 2<c+1; omega⟩
   have hu:=TE (k:=k) (st:=⟨h',c+1,0⟩) e2 (by omega) HC.k2 HC.m1
   rw[hfun] at hu
   have H3':DL h' 3 L:=H3.frame (fr 3 hc3')
   cases ha:g.rules[i].right.all g.sym with
   |true=>
    rw[ha] at hu
    simp[C.f22L2,h1,h4,h7,h63,h64,h65,Bc,hix,-Bp,hrd3,hn,hst,rc1,hu,wi i]
    refine⟨i+1,by omega,by omega,by simp,by omega,fun j hj hji=>?_,HC,H3'⟩
    rcases Nat.lt_or_ge j i with h|h
    ·simpa using hall j hj h
    ·have:j=i:=by omega
     subst this; simpa using ha
   |false=>
    rw[ha] at hu
    have hno:g.JI=false:=by unfold Ak.JI; rw[List.all_eq_false]; exact⟨_,List.getElem_mem Bc,by simp only[ha]; decide⟩
    simp[C.f22L2,h1,h4,h7,h63,h64,h65,Bc,hix,-Bp,hrd3,hn,hst,rc1,hu,hno]
  ·have:i=g.rules.length:=by omega
   subst this
   have hyes:g.JI=true:=by
    unfold Ak.JI; rw[List.all_eq_true]; intro x hx
    obtain⟨j,hj,rfl⟩:=List.getElem_of_mem hx
    exact hall j hj hj
   simp[C.f22L2,h1,h4,h7,h64,h65,hyes,H,H3]
 ·show g.rules.length-0<1000000; omega
 ·exact⟨by omega,h1,h4,h7,h63,h64,h65,hc3,fun j _ h=>by omega,H,H3⟩
set_option maxHeartbeats 1000000 in
theorem gH {k:Nat}{u v:AV}{g:Ak}{st:St}(hth:Cf 0 st.h 64 u=some v)(hg:Bl v g)(hs:g.GA)(hk6:g.kinds.length<=60)(hr1:g.rules.length<=100):AX E (k+6) 22 [u] st=.ret (.int .i64 g.fault,st):=by
 have hold:=hg.LD 0
 obtain⟨kv,rv,l,rfl,hk,hr,hrs⟩:=hg
 have hG:Bl (.agg [kv,.str g.start,rv]) g:=⟨kv,rv,l,rfl,hk,hr,hrs⟩
 have hln:=hrs.length
 have hmany:=hs.many
 have hkn:=hs.kinds
 rw[Ia (fn:=C.f22) (args':=[.agg [kv,.str g.start,rv]]) rfl rfl rfl (by simp[CU,CV,hth]),Af (by simp)]
 have goal:((BF E (AX E (k+5)) C.f22.body (TS.Cm [.agg [kv,.str g.start,rv]] 0 .nil) ⟨[],0,0⟩).bind (leave C.f22.results)).to fun r=>r.1=.int .i64 g.fault:=by
  have hbx:Gy 0 29 3 (.agg [kv,.str g.start,rv])=some (.AO 0 0,.cells 29 3 [kv,.str g.start,rv] false):=rfl
  obtain⟨h0,hh0⟩:∃h:Heap,h=[(0,.cells 29 3 [kv,.str g.start,rv] false)]:=⟨_,rfl⟩
  have hn:newObj 0 (.cells 29 3 [kv,.str g.start,rv] false) ⟨[],1,0⟩=some ⟨h0,1,0⟩:=by rw[hh0]; rfl
  have f0:AA h0 0=some (.cells 29 3 [kv,.str g.start,rv] false):=by rw[hh0]; rfl
  have hb0:HB ⟨h0,1,0⟩:=by
   intro p x hp
   rw[hh0] at hp
   rcases List.mem_cons.1 hp with e|e
   ·cases e; exact Nat.zero_lt_one
   ·cases e
  have rk:∀{h:Heap},AA h 0=some (.cells 29 3 [kv,.str g.start,rv] false)->AP h (.AO 0 0)=some kv:=fun H=>by rw[AL H]; rfl
  have r1:∀{h:Heap},AA h 0=some (.cells 29 3 [kv,.str g.start,rv] false)->AP h (.AO 0 1)=some (.str g.start):=fun H=>by rw[AL H]; rfl
  have r2:∀{h:Heap},AA h 0=some (.cells 29 3 [kv,.str g.start,rv] false)->AP h (.AO 0 2)=some rv:=fun H=>by rw[AL H]; rfl
  have hlk:∀S':St,Be .slice kv S'=some (.int .i64 (g.kinds.length:Int),S'):=fun S'=>by have:=hk.len (st:=S'); simpa using this
  have hlr:∀S':St,Be .slice rv S'=some (.int .i64 (g.rules.length:Int),S'):=fun S'=>by have:=hr.len (st:=S'); rw[this,hln]
  have hr100:¬(100:Int)<(g.rules.length:Int):=by omega
  have hck:=Lf (k:=k+1) (st:=⟨h0,1,0⟩) hk hs
  rw[if_neg (by omega)] at hck
  by_cases hf0:g.Cn=0
  ·rw[hf0] at hck
   by_cases hz:g.rules.length=0
   ·have hfault:g.fault=8:=by unfold Ak.fault; rw[if_neg (by simp[hf0]),if_pos hz]
    simp[C.f22,hbx,hn,rk f0,hck,r2 f0,hlr,hz,leave,results,AR,hfault]
   ·have hz':((g.rules.length:Int)==0)=false:=by simp only[beq_eq_false_iff_ne,ne_eq]; omega
    obtain⟨h1,hh1⟩:∃h:Heap,h=(2,Al.cells 105 1 [.Cq 1] false)::(1,.map [] [] [] 0)::h0:=⟨_,rfl⟩
    have n1:newObj 1 (.map [] [] [] 0) ⟨h0,3,0⟩=some ⟨(1,.map [] [] [] 0)::h0,3,0⟩:=Ao hb0
    have hb1:HB ⟨(1,.map [] [] [] 0)::h0,2,0⟩:=HB.cons (h:=h0) (c:=1) (lo:=0) hb0 (by omega) (by omega)
    have n2:newObj 2 (.cells 105 1 [.De] false) ⟨(1,.map [] [] [] 0)::h0,3,0⟩=some ⟨(2,.cells 105 1 [.De] false)::(1,.map [] [] [] 0)::h0,3,0⟩:=Ao hb1
    have s2:BJ 1 (.AO 2 0) (.Cq 1) ⟨(2,.cells 105 1 [.De] false)::(1,.map [] [] [] 0)::h0,3,0⟩=some (.undef,⟨h1,3,0⟩):=by
     rw[hh1]
     simp[BJ,AV.isTuple,AV.cells,beq_eq,BI,blt_eq,AJ,ble_eq,BS,Aa]
    have CS0:CS [kv,.str g.start,rv] [] ⟨h1,3,0⟩:=by
     subst hh1
     refine⟨HB.cons (h:=(1,.map [] [] [] 0)::h0) (c:=2) (lo:=0) hb1 (by omega) (by omega),?_,⟨[],0,?_⟩,?_,rfl,by show 2<3; omega⟩
     ·simp[AJ,f0]
     ·simp[AJ,strs]
     ·simp[AJ]
    simp[C.f22,hbx,hn,rk f0,hck,r2 f0,hlr,hz',hr100,n1,n2,s2,rk CS0.g0,hlk]
    refine M.BX (Vb hk hs _ CS0 _ (by simp) (by simp) (by simp) (by simp) (by simp)) fun x hx=>?_
    obtain⟨e,ts1,st1⟩:=x
    obtain⟨h,g1,g4,hc,K,H1,hK⟩:=hx
    simp only at h g1 g4 hc H1
    subst h
    obtain⟨h2,c2,lo2⟩:=st1
    have hlo2:lo2=0:=H1.lo
    subst hlo2
    simp only at hc
    subst hc
    have n3:newObj 3 (.map [] [] [] 0) ⟨h2,4,0⟩=some ⟨(3,.map [] [] [] 0)::h2,4,0⟩:=Ao H1.hb
    obtain⟨h3,hh3⟩:∃h:Heap,h=(3,Al.map [] [] [] 0)::h2:=⟨_,rfl⟩
    rw[← hh3] at n3
    have fr:∀p,p<3->AA h3 p=AA h2 p:=fun p hp=>by rw[hh3,AJ,if_neg (by omega)]
    have CS1:CS [kv,.str g.start,rv] K ⟨h3,4,0⟩:=by
     refine⟨hh3 ▸ HB.cons (h:=h2) (c:=3) (lo:=0) H1.hb (by omega) (by omega),(fr 0 (by omega)).trans H1.g0,H1.m1.frame (fr 1 (by omega)),(fr 2 (by omega)).trans H1.k2,rfl,by show 2<4; omega⟩
    have M3:DL h3 3 []:=⟨[],0,by rw[hh3,AJ,if_pos rfl]; rfl⟩
    simp[g1,g4,n3,r2 CS1.g0,hlr]
    refine M.BX (Va (k:=k) hk hr hrs hs _ CS1 hK M3 (by show 3<4; omega) _ (by simp[g1]) (by simp[g4]) (by simp) (by simp) (by simp) (by simp)) fun x hx=>?_
    obtain⟨e,ts2,st2⟩:=x
    rcases hx with⟨h,hf1,g1',g4',g7',hc3,K2,L2,H2,M3',hK2,hL2⟩|⟨h,hf1,g2'⟩
    ·simp only at h hf1 g1' g4' g7' hc3 H2 M3'
     subst h
     simp[g1',g4',g7',r2 H2.g0,hlr]
     refine M.BX (VZ (k:=k+2) hr hrs hs _ H2 hK2 M3' hc3 _ (by simp[g1']) (by simp[g4']) (by simp[g7']) (by simp) (by simp) (by simp)) fun x hx=>?_
     obtain⟨e,ts3,st3⟩:=x
     rcases hx with⟨h,hf2,g1'',g7'',H3,M3''⟩|⟨h,hf2,g2''⟩
     ·simp only at h hf2 g1'' g7'' H3 M3''
      subst h
      have hl:=M3''.look (st:=st3) g.start
      have hd:decide (g.start∈L2)=g.isLeft g.start:=by rw[Bool.eq_iff_iff,decide_eq_true_eq]; exact hL2 _
      rw[hd] at hl
      cases hst:g.isLeft g.start with
      |true=>
       rw[hst] at hl
       have hfault:g.fault=0:=by unfold Ak.fault; rw[if_neg (by simp[hf0]),if_neg hz,if_neg (by simp[hf1]),if_neg (by simp[hf2]),if_neg (by simp[hst])]
       simp[g1'',g7'',r1 H3.g0,hl,leave,results,AR,hfault]
      |false=>
       rw[hst] at hl
       have hfault:g.fault=8:=by unfold Ak.fault; rw[if_neg (by simp[hf0]),if_neg hz,if_neg (by simp[hf1]),if_neg (by simp[hf2]),if_pos hst]
       simp[g1'',g7'',r1 H3.g0,hl,leave,results,AR,hfault]
     ·simp only at h hf2 g2''
      subst h
      have hfault:g.fault=8:=by unfold Ak.fault; rw[if_neg (by simp[hf0]),if_neg hz,if_neg (by simp[hf1]),if_pos hf2]
      simp[g2'',leave,results,AR,hfault]
    ·simp only at h hf1 g2'
     subst h
     have hfault:g.fault=g.GG:=by unfold Ak.fault; rw[if_neg (by simp[hf0]),if_neg hz,if_pos hf1]
     simp[g2',leave,results,AR,hfault]
  ·have hfault:g.fault=g.Cn:=by unfold Ak.fault; rw[if_pos hf0]
   have hne:(g.Cn !=0)=true:=by simpa using hf0
   simp[C.f22,hbx,hn,rk f0,hck,hne,hf0,leave,results,AR,hfault]
 obtain⟨⟨v,st'⟩,h1,h2⟩:=goal
 simp only at h2
 subst h2
 rw[h1]
 simp[Di,AV.plain]
theorem YK {k:Nat}{u v:AV}{g:Ak}{st:St}(hth:Cf 0 st.h 64 u=some v)(hg:Bl v g)(hs:g.GA):AX E (k+6) 22 [u] st=.ret (.int .i64 g.Ca,st):=by
 by_cases hb:g.kinds.length<=60/\g.rules.length<=100
 ·rw[Ak.KT hb.1 hb.2]; exact gH hth hg hs hb.1 hb.2
 ·obtain⟨kv,rv,l,rfl,hk,hr,hrs⟩:=hg
  have hln:=hrs.length
  rw[Ia (fn:=C.f22) (args':=[.agg [kv,.str g.start,rv]]) rfl rfl rfl (by simp[CU,CV,hth]),Af (by simp)]
  have hbx:Gy 0 29 3 (.agg [kv,.str g.start,rv])=some (.AO 0 0,.cells 29 3 [kv,.str g.start,rv] false):=rfl
  obtain⟨h0,hh0⟩:∃h:Heap,h=[(0,.cells 29 3 [kv,.str g.start,rv] false)]:=⟨_,rfl⟩
  have hn:newObj 0 (.cells 29 3 [kv,.str g.start,rv] false) ⟨[],1,0⟩=some ⟨h0,1,0⟩:=by rw[hh0]; rfl
  have f0:AA h0 0=some (.cells 29 3 [kv,.str g.start,rv] false):=by rw[hh0]; rfl
  have rk:AP h0 (.AO 0 0)=some kv:=by rw[AL f0]; rfl
  have r2:AP h0 (.AO 0 2)=some rv:=by rw[AL f0]; rfl
  have hlr:∀S':St,Be .slice rv S'=some (.int .i64 (g.rules.length:Int),S'):=fun S'=>by have:=hr.len (st:=S'); rw[this,hln]
  have hck:=Lf (k:=k+1) (st:=⟨h0,1,0⟩) hk hs
  by_cases h6:60<g.kinds.length
  ·rw[if_pos h6] at hck
   have hfault:g.Ca=2:=by unfold Ak.Ca; rw[if_pos h6]
   simp[C.f22,hbx,hn,rk,hck,leave,results,AR,hfault,Di,AV.plain]
  ·rw[if_neg h6] at hck
   have h1:100<g.rules.length:=by omega
   have hr100:(100:Int)<(g.rules.length:Int):=by omega
   have hz':((g.rules.length:Int)==0)=false:=by simp only[beq_eq_false_iff_ne,ne_eq]; omega
   by_cases hf0:g.Cn=0
   ·rw[hf0] at hck
    have hfault:g.Ca=2:=by unfold Ak.Ca; rw[if_neg h6,if_neg (by simp[hf0]),if_neg (by omega),if_pos h1]
    simp[C.f22,hbx,hn,rk,hck,r2,hlr,hz',hr100,leave,results,AR,hfault,Di,AV.plain]
   ·have hfault:g.Ca=g.Cn:=by unfold Ak.Ca; rw[if_neg h6,if_pos hf0]
    have hne:(g.Cn !=0)=true:=by simpa using hf0
    simp[C.f22,hbx,hn,rk,hck,hne,hf0,leave,results,AR,hfault,Di,AV.plain]
theorem YJ {k:Nat}{v:AV}{g:Ak}{st:St}(hg:Bl v g)(hs:g.GA):AX E (k+6) 22 [v] st=.ret (.int .i64 g.Ca,st):=YK (Dv (n:=63) (hg.LD 0)) hg hs
theorem Zh {k:Nat}{v:AV}{g:Ak}{st:St}(hg:Bl v g)(hs:g.Small):AX E (k+6) 22 [v] st=.ret (.int .i64 g.fault,st) :=by
 have:=YJ (k:=k) (st:=st) hg hs.wide
 rwa [Ak.KT (by have:=hs.kinds; omega) (by have:=hs.many; omega)] at this
end Go.Am
