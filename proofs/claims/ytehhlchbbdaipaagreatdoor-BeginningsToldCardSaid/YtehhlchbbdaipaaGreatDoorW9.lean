/- A part of the proof of beginningsTold (merged by a program). -/
import Derived.Test.YtehhlchbbdaipaaGreatDoorKa
import Derived.Test.YtehhlchbbdaipaaGreatDoorKb
import Derived.Test.YtehhlchbbdaipaaGreatDoorKc
import Derived.Test.YtehhlchbbdaipaaGreatDoorKd
import Derived.Test.YtehhlchbbdaipaaGreatDoorV
import Derived.Test.YtehhlchbbdaipaaGreatDoorW2
import Derived.Test.YtehhlchbbdaipaaGreatDoorKe
import Derived.Test.YtehhlchbbdaipaaGreatDoorW4
namespace Go.Am
open Go
theorem ZX:AV.CL 0 [FZ,.int .i64 3]=true:=by rfl
theorem Wz:AV.CL 0 [FZ,.int .i64 1]=true:=by rfl
theorem lK (n:Nat)(hn:37=n):M.Qb (MN 0 VY) (Dj E (AU E n) C.f79 [] ⟨[],0,0⟩)=true:=hn ▸ dL
theorem iG {n:Nat}(hn:37=n)(st:St):(AU E (n+1) 79 [] st).all fun r=>VY r.1=true/\r.2=st:=by
 rw[BZ (E:=E) (n:=n) (f:=79) (args:=[]) (st:=st) (fn:=C.f79) rfl rfl rfl rfl]
 exact LA (lK n hn)
theorem gq (n:Nat)(hn:37=n):M.Qb (MN 0 PH) (Dj E (AU E n) C.f80 [FZ,.int .i64 3] ⟨[],0,0⟩)=true:=hn ▸ Yx
theorem dH {n:Nat}(hn:37=n)(st:St):(AU E (n+1) 80 [FZ,.int .i64 3] st).all fun r=>PH r.1=true/\r.2=st:=by
 rw[BZ (E:=E) (n:=n) (f:=80) (args:=[FZ,.int .i64 3]) (st:=st) (fn:=C.f80) rfl rfl rfl ZX]
 exact LA (gq n hn)
theorem lQ (n:Nat)(hn:37=n):M.Qb (MN 0 Sw) (Dj E (AU E n) C.f81 [FZ,.int .i64 1] ⟨[],0,0⟩)=true:=hn ▸ dQ
theorem iO {n:Nat}(hn:37=n)(st:St):(AU E (n+1) 81 [FZ,.int .i64 1] st).all fun r=>Sw r.1=true/\r.2=st:=by
 rw[BZ (E:=E) (n:=n) (f:=81) (args:=[FZ,.int .i64 1]) (st:=st) (fn:=C.f81) rfl rfl rfl Wz]
 exact LA (lQ n hn)
theorem ag (n:Nat)(hn:37=n):M.Qb (MN 2 LC) (Dj E (AU E n) C.f82 [FZ,.AQ 1 0 3 (some 3)] ⟨Lc,2,2⟩)=true:=hn ▸ WH
theorem Yj {n:Nat}(hn:37=n)(lo:Nat):(AU E (n+1) 82 [FZ,.AQ 1 0 3 (some 3)] ⟨Lc,2,lo⟩).all fun r=>LC r.1=true/\r.2=⟨Lc,2,lo⟩:=by
 rw[BS (E:=E) (n:=n) (f:=82) (args:=[FZ,.AQ 1 0 3 (some 3)]) (st:=⟨Lc,2,lo⟩) (fn:=C.f82) rfl rfl rfl]
 exact LA (ag n hn)
theorem YG (n:Nat)(hn:37=n):M.Qb (MN 3 KF) (Dj E (AU E n) C.f83 [FZ,.AQ 2 0 2 (some 2),.agg [.int .i64 1,.int .i64 1,.int .i64 1]] ⟨Px,3,3⟩)=true:=hn ▸ Tz
theorem Vu {n:Nat}(hn:37=n)(lo:Nat):(AU E (n+1) 83 [FZ,.AQ 2 0 2 (some 2),.agg [.int .i64 1,.int .i64 1,.int .i64 1]] ⟨Px,3,lo⟩).all fun r=>KF r.1=true/\r.2=⟨Px,3,lo⟩:=by
 rw[BS (E:=E) (n:=n) (f:=83) (args:=[FZ,.AQ 2 0 2 (some 2),.agg [.int .i64 1,.int .i64 1,.int .i64 1]]) (st:=⟨Px,3,lo⟩) (fn:=C.f83) rfl rfl rfl]
 exact LA (YG n hn)
theorem eZ {v:AV}(h:VY v=true):v=FZ:=AV.beq_eq h
theorem Zp {v:AV}(h:PH v=true):∃w,v=.tuple [w,.int .i64 0]/\Bq w=some 2:=by
 unfold PH at h
 split at h
 ·rename_i w n
  split at h
  ·rename_i l hl
   simp at h
   exact⟨w,by rw[h.2],by rw[hl,h.1]⟩
  ·simp at h
 ·cases h
theorem ed {v:AV}(h:Sw v=true):∃m,v=.tuple [.int .i64 m,.int .i64 0]/\4<m:=by
 unfold Sw at h
 split at h
 ·simp at h; exact⟨_,by rw[h.2],h.1⟩
 ·cases h
theorem VZ {v:AV}(h:LC v=true):∃m,v=.tuple [.bool true,.int .i64 m,.int .i64 0]:=by
 unfold LC at h
 split at h
 ·simp at h; exact⟨_,by rw[h.1,h.2]⟩
 ·cases h
theorem Tp {v:AV}(h:KF v=true):v=.tuple [.int .i64 1,.int .i64 0]:=by
 unfold KF at h
 split at h
 ·simp at h; rw[h.1,h.2]
 ·cases h
theorem M.OX {α β:Type}{m:M α}{f:α->M β}{R:α->Prop}{S:β->Prop}(h:m.all R)(k:∀a,R a->(f a).all S):(m.bind f).all S:=M.Jo.2 (M.Jn h k)
def SN:List Cj:=[C.g 39 38 true .move [C.t 2],C.g 40 38 true (.len .slice) [C.t 39],C.g 41 38 true (.bin .eql) [C.t 40,C.i 2],C.o 42 .pick [C.t 38,C.t 41,C.no],C.m 43 42,C.g 44 43 true .move [C.t 5],C.g 45 43 true (.bin .eql) [C.t 44,C.i 0],C.o 46 .pick [C.t 43,C.t 45,C.no],C.m 47 46,C.g 48 47 true .move [C.t 4],C.g 49 47 true (.bin .gtr) [C.t 48,C.i 4],C.o 50 .pick [C.t 47,C.t 49,C.no],C.m 51 50,C.g 52 51 true .move [C.t 8],C.g 53 51 true (.bin .eql) [C.t 52,C.i 0],C.o 54 .pick [C.t 51,C.t 53,C.no],C.m 55 54,C.g 56 55 true .move [C.t 6],C.o 57 .pick [C.t 55,C.t 56,C.no],C.m 58 57,C.g 59 58 true .move [C.t 10],C.g 60 58 true (.bin .eql) [C.t 59,C.i 0],C.o 61 .pick [C.t 58,C.t 60,C.no],C.m 62 61,C.g 63 62 true .move [C.t 9],C.g 64 62 true (.bin .eql) [C.t 63,C.i 1],C.o 65 .pick [C.t 62,C.t 64,C.no],C.m 0 65]
theorem nQ {E:Env}{call:Nat->List AV->St->M (AV × St)}{s d q:Nat}{b:Bool}{k:AK}{args:List II}{ops:List Cj}{ts:TS}{st:St}(h:ts.get q=.bool b):IY E call s (⟨some d,some (q,b),k,args⟩::ops) ts st=IY E call s (⟨some d,none,k,args⟩::ops) ts st:=by
 rw[KJ,h]; cases b <;> rfl
theorem ZN {call:Nat->List AV->St->M (AV × St)}{s:Nat}{ts:TS}{st:St}{w:AV}{m:Int}(h2:ts.get 2=w)(hw:Bq w=some 2)(h38:ts.get 38=.bool true)(h5:ts.get 5=.int .i64 0)(h4:ts.get 4=.int .i64 m)(hm:4<m)(h8:ts.get 8=.int .i64 0)(h6:ts.get 6=.bool true)(h10:ts.get 10=.int .i64 0)(h9:ts.get 9=.int .i64 1):∃ts',IY E call s SN ts st=.ret (ts',st)/\ts'.get 0=.bool true:=by
 simp[SN,nQ,h2,hw,h38,h5,h4,hm,h8,h6,h10,h9,BO]
theorem dZ {call:Nat->List AV->St->M (AV × St)}{s:Nat}{ts:TS}{st st0:St}{w:AV}{m:Int}(h2:ts.get 2=w)(hw:Bq w=some 2)(h38:ts.get 38=.bool true)(h5:ts.get 5=.int .i64 0)(h4:ts.get 4=.int .i64 m)(hm:4<m)(h8:ts.get 8=.int .i64 0)(h6:ts.get 6=.bool true)(h10:ts.get 10=.int .i64 0)(h9:ts.get 9=.int .i64 1) :
 M.all (fun r=>r=(AV.bool true,st0)) ((IY E call s SN ts st).bind fun a=>(leave [WO.tmp 0] (Hd.ret,a.1,a.2)).bind (BA 0 st0)):=by
 obtain⟨ts',e,h0⟩:=ZN (call:=call) (s:=s) (st:=st) h2 hw h38 h5 h4 hm h8 h6 h10 h9
 rw[e]
 simp[leave,results,AY,h0,M.all]
set_option maxHeartbeats 1000000 in
theorem dY {n:Nat}(hn:37=n)(st:St):True/\(AU E (n+2) 20 [] st).all fun r=>r=(.bool true,st):=by
 refine⟨trivial,?_⟩
 rw[BZ (fn:=C.f20) rfl rfl rfl rfl,Ad (by simp)]
 simp[C.f20]
 refine M.OX (iG hn _) fun a ha=>?_
 obtain⟨v,S⟩:=a
 obtain⟨h1,rfl⟩:=ha
 obtain rfl:=eZ h1
 have hr0:AZ VH (.AO 0 0) 3=some FZ.cells:=rfl
 have e1:newObj 0 (.cells 29 3 [.AJ,.str [],.AJ] false) ⟨[],1,0⟩=some ⟨[(0,.cells 29 3 [.AJ,.str [],.AJ] false)],1,0⟩:=rfl
 have e2:Bc 3 (.AO 0 0) FZ ⟨[(0,.cells 29 3 [.AJ,.str [],.AJ] false)],1,0⟩=some (.undef,⟨VH,1,0⟩):=rfl
 have e3:Option.map AV.agg (some FZ.cells)=some FZ:=rfl
 simp[e1,e2,hr0,e3]
 refine M.OX (dH hn _) fun a ha=>?_
 obtain⟨v,S⟩:=a
 obtain⟨h1,rfl⟩:=ha
 obtain⟨w,rfl,hw⟩:=Zp h1
 have ex:∀i vs st,IL i (.tuple vs) st=FJ st vs[i]?:=fun _ _ _=>rfl
 simp[ex,hr0,e3]
 refine M.OX (iO hn _) fun a ha=>?_
 obtain⟨v,S⟩:=a
 obtain⟨h1,rfl⟩:=ha
 obtain⟨m,rfl,hm⟩:=ed h1
 have b3:∀n,Ay n 9 1 3 [.str [],.str [],.str []] [0,1,2] [.str [110,117,109],.str [112,108,117,115],.str [110,117,109]]=some (.AQ n 0 3 (some 3),.cells 9 1 [.str [110,117,109],.str [112,108,117,115],.str [110,117,109]] false):=fun n=>by
  simp[Ay,blt_eq,beq_eq,ble_eq,BB,BM,AV.isTuple,AV.cells]
 have b2:∀n,Ay n 9 1 2 [.str [],.str []] [0,1] [.str [110,117,109],.str [110,117,109]]=some (.AQ n 0 2 (some 2),.cells 9 1 [.str [110,117,109],.str [110,117,109]] false):=fun n=>by
  simp[Ay,blt_eq,beq_eq,ble_eq,BB,BM,AV.isTuple,AV.cells]
 have bp:BB [.int .i64 0,.int .i64 0,.int .i64 0] [(0,1),(1,1),(2,1)] [.int .i64 1,.int .i64 1,.int .i64 1]=some [.int .i64 1,.int .i64 1,.int .i64 1]:=by
  simp[BB,BM,AV.isTuple,AV.cells,beq_eq,ble_eq]
 have e4:newObj 1 (.cells 9 1 [.str [110,117,109],.str [112,108,117,115],.str [110,117,109]] false) ⟨VH,2,0⟩=some ⟨Lc,2,0⟩:=rfl
 have e5:newObj 2 (.cells 9 1 [.str [110,117,109],.str [110,117,109]] false) ⟨Lc,3,0⟩=some ⟨Px,3,0⟩:=rfl
 have hr1:AZ Lc (.AO 0 0) 3=some FZ.cells:=rfl
 simp[ex,hr0,e3,b3,e4]
 refine M.OX (Yj hn _) fun a ha=>?_
 obtain⟨v,S⟩:=a
 obtain⟨h1,rfl⟩:=ha
 obtain⟨m2,rfl⟩:=VZ h1
 simp[ex,hr1,e3,b2,e5,bp]
 refine M.OX (Vu hn _) fun a ha=>?_
 obtain⟨v,S⟩:=a
 obtain⟨h1,rfl⟩:=ha
 have e:v=.tuple [.int .i64 1,.int .i64 0]:=Tp h1
 subst e
 simp[ex]
 generalize hts:TS.set _ 38 _=tsx
 refine dZ (w:=w) (m:=m) ?_ hw ?_ ?_ ?_ hm ?_ ?_ ?_ ?_
 all_goals (rw[← hts]; simp)
theorem jO {m:M (AV × St)}(h:VW (Ri m)=true):∃t l gs,(∀st,m.bind (BA 0 st)=.ret (.list t 3 l,st))/\LH l=some gs/\gs.length=12/\∀g∈gs,Js g=true:=by
 unfold VW at h
 split at h
 ·rename_i gs hg
  unfold Ri at hg
  split at hg
  ·rename_i r
   split at hg
   ·rename_i t l hth
    simp only[Bool.and_eq_true,decide_eq_true_eq,List.all_eq_true] at h
    refine⟨t,l,gs,fun st=>?_,hg,h.1,h.2⟩
    simp only[M.bind,BA,hth]
   ·cases hg
  ·cases hg
 ·cases h
theorem Zn (n:Nat)(hn:39=n):VW (Ri (Dj E (AU E n) C.f114 [] ⟨[],0,0⟩))=true:=hn ▸ Zm
theorem eU {n:Nat}(hn:39=n)(k:Nat):Ym (n+1+k):=by
 obtain⟨t,l,gs,h1,h2⟩:=jO (Zn n hn)
 refine⟨t,l,gs,fun st=>?_,h2⟩
 refine OY ?_ k
 rw[BZ (E:=E) (n:=n) (f:=114) (args:=[]) (st:=st) (fn:=C.f114) rfl rfl rfl rfl]
 exact h1 st
theorem dV {n:Nat}(hn:39=n)(k:Nat):Pk (n+2+k):=by
 have e:n+2+k=(n+k-3)+5:=by omega
 rw[e]
 refine dU ?_
 rw[show n+k-3+4=n+1+k by omega]
 exact eU hn k
theorem nS {n:Nat}(hn:39=n)(k:Nat){o:Nat}{vs:AV}{zs:List Int}{a:Int}{st:St}(hs:Ko st o vs a)(hv:CZ vs zs)(ha:0<=a/\a<10000)(ho:o<st.c)(hb:HB st)(hh:HO st)(hlo:st.lo<=o) :
 ∃v g m st',AU E (n+3+k) 6 [.AO o 0] st=.ret (v,st')/\st'.c=st.c/\CW st.c o vs (a+m) st st'/\BP v g/\g.Small/\0<=m/\m<=200:=by
 have h:=dV hn k
 rw[show n+2+k=(n+k-3)+5 by omega] at h
 rw[show n+3+k=(n+k-3)+6 by omega]
 exact nR h hs hv ha ho hb hh hlo
structure wH (F fa fb:Nat)(v:AV)(g:AX):Prop where
 out:∃L:List Aj,L.length<1000000/\nX F fa v g L/\(g.fault=0->∀st,HB st->st.lo<=st.c->(AU E F fb [v] st).to fun x=>Reads x.2.h x.1 L/\Ma st x.2)
structure LW (cs:List AV)(gb T:Nat)(st:St):Prop where
 hb:HB st
 lo:st.lo<=st.c
 g:AA st.h gb=some (.cells 29 3 cs false)
 t:AA st.h T=some (.cells 35 2 [.fn (.func 8) [] [],.fn (.func 9) [] [],.fn (.func 10) [] [],.fn (.func 11) [] [],.fn (.func 12) [] [],.fn (.func 13) [] [],.fn (.func 14) [] [],.fn (.func 15) [] [],.fn (.func 16) [] [],.fn (.func 17) [] []] false)
 gc:gb<st.c
 tc:T<st.c
theorem LW.over {cs:List AV}{gb T:Nat}{st st':St}(H:LW cs gb T st)(O:Ma st st'):LW cs gb T st':=
 ⟨O.hb,by have:=O.c; have:=O.lo; have:=H.lo; omega,(O.fr gb H.gc).trans H.g,(O.fr T H.tc).trans H.t,Nat.lt_of_lt_of_le H.gc O.c,Nat.lt_of_lt_of_le H.tc O.c⟩
theorem Ff {call:Nat->List AV->St->M (AV × St)}{a b:Ag}{ts:TS}{st:St}{Q R:Hd × TS × St->Prop}(ha:(Ar E call a ts st).to Q)(hb:∀x,Q x->x.1=.normal/\(Ar E call b x.2.1 x.2.2).all R):(Ar E call (.seq a b) ts st).all R:=by
 rw[Nh]
 obtain⟨x,e,hx⟩:=ha
 rw[e,M.CE]
 obtain⟨e1,ts1,st1⟩:=x
 obtain⟨h1,h2⟩:=hb _ hx
 simp only at h1 h2
 subst h1
 exact h2
theorem kL {E:Env}{n f:Nat}{args:List AV}{st:St}{Q:AV × St->Prop}(h:True/\(AU E n f args st).all Q)(k b:Nat)(hb:b=n+k):True/\(AU E b f args st).all Q:=
 ⟨trivial,by subst hb; exact TZ h.2 k⟩
theorem iU {n F:Nat}(hn:39=n)(hF:n+3=F)(st:St):True/\(AU E F 20 [] st).all fun r=>r=(.bool true,st):=
 kL (dY (n:=n-2) (by omega) st) 3 F (by omega)
end Go.Am
