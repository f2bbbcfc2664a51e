/- A part of the proof of grammarsComeBack (merged by a program). -/
import Derived.Test.YtmnlpahaihiegaaGreatDoorKa
import Derived.Test.YtmnlpahaihiegaaGreatDoorKb
import Derived.Test.YtmnlpahaihiegaaGreatDoorKc
import Derived.Test.YtmnlpahaihiegaaGreatDoorKd
import Derived.Test.YtmnlpahaihiegaaGreatDoorKe
import Derived.Test.YtmnlpahaihiegaaGreatDoorKf
import Derived.Test.YtmnlpahaihiegaaGreatDoorV
import Derived.Test.YtmnlpahaihiegaaGreatDoorW2
import Derived.Test.YtmnlpahaihiegaaGreatDoorKg
import Derived.Test.YtmnlpahaihiegaaGreatDoorT5
import Derived.Test.YtmnlpahaihiegaaGreatDoorT4
import Derived.Test.YtmnlpahaihiegaaGreatDoorT3
namespace Go.Am
open Go
theorem aG (n:Nat)(hn:37=n):M.Mv (Je 5 Lx) (Ct E (AX E n) C.f37 [rG,.int .i64 3] ⟨RP,5,5⟩)=true:=hn ▸ WH
theorem YX {n:Nat}(hn:37=n)(lo:Nat):(AX E (n+1) 37 [rG,.int .i64 3] ⟨RP,5,lo⟩).all fun r=>Lx r.1=true/\r.2=⟨RP,5,lo⟩:=by
 rw[CY (E:=E) (n:=n) (f:=37) (args:=[rG,.int .i64 3]) (st:=⟨RP,5,lo⟩) (fn:=C.f37) rfl rfl rfl]
 exact JB (aG n hn)
theorem dn (n:Nat)(hn:37=n):M.Mv (Je 5 OV) (Ct E (AX E n) C.f38 [rG,.int .i64 1] ⟨RP,5,5⟩)=true:=hn ▸ Yl
theorem aU {n:Nat}(hn:37=n)(lo:Nat):(AX E (n+1) 38 [rG,.int .i64 1] ⟨RP,5,lo⟩).all fun r=>OV r.1=true/\r.2=⟨RP,5,lo⟩:=by
 rw[CY (E:=E) (n:=n) (f:=38) (args:=[rG,.int .i64 1]) (st:=⟨RP,5,lo⟩) (fn:=C.f38) rfl rfl rfl]
 exact JB (dn n hn)
theorem Xl (n:Nat)(hn:37=n):M.Mv (Je 6 JD) (Ct E (AX E n) C.f39 [rG,.AU 5 0 3 (some 3)] ⟨aA,6,6⟩)=true:=hn ▸ Tm
theorem Vt {n:Nat}(hn:37=n)(lo:Nat):(AX E (n+1) 39 [rG,.AU 5 0 3 (some 3)] ⟨aA,6,lo⟩).all fun r=>JD r.1=true/\r.2=⟨aA,6,lo⟩:=by
 rw[CY (E:=E) (n:=n) (f:=39) (args:=[rG,.AU 5 0 3 (some 3)]) (st:=⟨aA,6,lo⟩) (fn:=C.f39) rfl rfl rfl]
 exact JB (Xl n hn)
theorem VW (n:Nat)(hn:37=n):M.Mv (Je 7 Hu) (Ct E (AX E n) C.f40 [rG,.AU 6 0 2 (some 2),.agg [.int .i64 1,.int .i64 1,.int .i64 1]] ⟨ZE,7,7⟩)=true:=hn ▸ Ri
theorem TW {n:Nat}(hn:37=n)(lo:Nat):(AX E (n+1) 40 [rG,.AU 6 0 2 (some 2),.agg [.int .i64 1,.int .i64 1,.int .i64 1]] ⟨ZE,7,lo⟩).all fun r=>Hu r.1=true/\r.2=⟨ZE,7,lo⟩:=by
 rw[CY (E:=E) (n:=n) (f:=40) (args:=[rG,.AU 6 0 2 (some 2),.agg [.int .i64 1,.int .i64 1,.int .i64 1]]) (st:=⟨ZE,7,lo⟩) (fn:=C.f40) rfl rfl rfl]
 exact JB (VW n hn)
theorem af (n:Nat)(hn:37=n):M.Mv (Je 9 Nb) (Ct E (AX E n) C.f41 [rG,.AU 7 0 1 (some 1)] ⟨YE,9,9⟩)=true:=hn ▸ Wo
theorem ZA {n:Nat}(hn:37=n)(lo:Nat):(AX E (n+1) 41 [rG,.AU 7 0 1 (some 1)] ⟨YE,9,lo⟩).all fun r=>Nb r.1=true/\r.2=⟨YE,9,lo⟩:=by
 rw[CY (E:=E) (n:=n) (f:=41) (args:=[rG,.AU 7 0 1 (some 1)]) (st:=⟨YE,9,lo⟩) (fn:=C.f41) rfl rfl rfl]
 exact JB (af n hn)
theorem aV (n:Nat)(hn:37=n):M.Mv (Je 11 Na) (Ct E (AX E n) C.f42 [rG,rT,.AU 9 0 1 (some 1)] ⟨VE,11,11⟩)=true:=hn ▸ WV
theorem Yn {n:Nat}(hn:37=n)(lo:Nat):(AX E (n+1) 42 [rG,rT,.AU 9 0 1 (some 1)] ⟨VE,11,lo⟩).all fun r=>Na r.1=true/\r.2=⟨VE,11,lo⟩:=by
 rw[CY (E:=E) (n:=n) (f:=42) (args:=[rG,rT,.AU 9 0 1 (some 1)]) (st:=⟨VE,11,lo⟩) (fn:=C.f42) rfl rfl rfl]
 exact JB (aV n hn)
theorem XI {v:AV}(h:Lx v=true):∃w,v=.tuple [w,.int .i64 0]/\Bu w=some 2:=by
 unfold Lx at h
 split at h
 ·rename_i w n
  split at h
  ·rename_i l hl
   simp at h
   exact⟨w,by rw[h.2],by rw[hl,h.1]⟩
  ·simp at h
 ·cases h
theorem ZO {v:AV}(h:OV v=true):∃m,v=.tuple [.int .i64 m,.int .i64 0]/\4<m:=by
 unfold OV at h
 split at h
 ·simp at h; exact⟨_,by rw[h.2],h.1⟩
 ·cases h
theorem TH {v:AV}(h:JD v=true):∃m,v=.tuple [.bool true,.int .i64 m,.int .i64 0]:=by
 unfold JD at h
 split at h
 ·simp at h; exact⟨_,by rw[h.1,h.2]⟩
 ·cases h
theorem RY {v:AV}(h:Hu v=true):v=.tuple [.int .i64 1,.int .i64 0]:=by
 unfold Hu at h
 split at h
 ·simp at h; rw[h.1,h.2]
 ·cases h
theorem XK {v:AV}(h:Nb v=true):v=.tuple [rT,.int .i64 0,.int .i64 0]:=AV.beq_eq h
theorem XJ {v:AV}(h:Na v=true):v=.tuple [.agg [.int .i64 1,.int .i64 1],.int .i64 0]:=AV.beq_eq h
theorem M.Kw {α β:Type}{m:M α}{f:α->M β}{R:α->Prop}{S:β->Prop}(h:m.all R)(k:∀a,R a->(f a).all S):(m.bind f).all S:=M.Oh.2 (M.Dt h k)
theorem gQ {E:Env}{call:Nat->List AV->St->M (AV × St)}{s d q:Nat}{b:Bool}{k:AK}{args:List Gl}{ops:List Bw}{ts:TS}{st:St}(h:ts.get q=.bool b):HY E call s (⟨some d,some (q,b),k,args⟩::ops) ts st=HY E call s (⟨some d,none,k,args⟩::ops) ts st:=by
 rw[JX,h]; cases b <;> rfl
theorem IP {call:Nat->List AV->St->M (AV × St)}{a b:AQ}{ts:TS}{st:St}{R:Jl × TS × St->Prop}(h:(BF E call a ts st).all fun x=>x.1=.normal/\(BF E call b x.2.1 x.2.2).all R):(BF E call (.seq a b) ts st).all R:=by
 rw[Zx]
 refine M.Kw h fun x hx=>?_
 obtain⟨e,ts1,st1⟩:=x
 obtain⟨h1,h2⟩:=hx
 simp only at h1 h2
 subst h1
 exact h2
set_option maxHeartbeats 4000000 in
theorem Wh {call:Nat->List AV->St->M (AV × St)}(hW:(call 37 [rG,.int .i64 3] ⟨RP,5,0⟩).all fun r=>Lx r.1=true/\r.2=⟨RP,5,0⟩)(hS:(call 38 [rG,.int .i64 1] ⟨RP,5,0⟩).all fun r=>OV r.1=true/\r.2=⟨RP,5,0⟩)(hA:(call 39 [rG,.AU 5 0 3 (some 3)] ⟨aA,6,0⟩).all fun r=>JD r.1=true/\r.2=⟨aA,6,0⟩)(hD:(call 40 [rG,.AU 6 0 2 (some 2),.agg [.int .i64 1,.int .i64 1,.int .i64 1]] ⟨ZE,7,0⟩).all fun r=>Hu r.1=true/\r.2=⟨ZE,7,0⟩)(hP:(call 41 [rG,.AU 7 0 1 (some 1)] ⟨YE,9,0⟩).all fun r=>Nb r.1=true/\r.2=⟨YE,9,0⟩)(hR:(call 42 [rG,rT,.AU 9 0 1 (some 1)] ⟨VE,11,0⟩).all fun r=>Na r.1=true/\r.2=⟨VE,11,0⟩) :
 True/\(BF E call C.f9.body (TS.Cm [] 0 .nil) ⟨[],0,0⟩).all fun x=>x.1=.ret/\x.2.1.get 0=.bool true:=by
 refine⟨trivial,?_⟩
 have ex:∀i vs st,Gb i (.tuple vs) st=Df st vs[i]?:=fun _ _ _=>rfl
 unfold C.f9
 simp only
 refine IP (M.Dt (R:=fun x=>x.1=.normal/\x.2.2=⟨[],0,0⟩) (by simp[M.all]) fun x hx=>?_)
 obtain⟨e,ts0,st0⟩:=x
 obtain⟨ee,hst⟩:=hx
 simp only at ee hst
 subst hst
 refine⟨ee,?_⟩
 clear ee
 have b0:Ar 0 9 1 2 [.str [],.str []] [0,1] [.str [110,117,109],.str [112,108,117,115]]=some (.AU 0 0 2 (some 2),.cells 9 1 [.str [110,117,109],.str [112,108,117,115]] false):=rfl
 have b1:Ar 1 9 1 3 [.str [],.str [],.str []] [0,1,2] [.str [101],.str [112,108,117,115],.str [110,117,109]]=some (.AU 1 0 3 (some 3),.cells 9 1 [.str [101],.str [112,108,117,115],.str [110,117,109]] false):=rfl
 have b2:Ar 2 9 1 1 [.str []] [0] [.str [110,117,109]]=some (.AU 2 0 1 (some 1),.cells 9 1 [.str [110,117,109]] false):=rfl
 have b3:Ar 3 47 3 2 [.str [],.AB,.int .i64 0,.str [],.AB,.int .i64 0] [0,1] [.agg [.str [101],.AU 1 0 3 (some 3),.int .i64 0],.agg [.str [101],.AU 2 0 1 (some 1),.int .i64 0]]=some (.AU 3 0 2 (some 2),.cells 47 3 [.str [101],.AU 1 0 3 (some 3),.int .i64 0,.str [101],.AU 2 0 1 (some 1),.int .i64 0] false):=rfl
 have f1:BA [.str [],.AB,.int .i64 0] [(0,1),(1,1)] [.str [101],.AU 1 0 3 (some 3)]=some [.str [101],.AU 1 0 3 (some 3),.int .i64 0]:=rfl
 have f2:BA [.str [],.AB,.int .i64 0] [(0,1),(1,1)] [.str [101],.AU 2 0 1 (some 1)]=some [.str [101],.AU 2 0 1 (some 1),.int .i64 0]:=rfl
 have f3:BA [.AB,.str [],.AB] [(0,1),(1,1),(2,1)] [.AU 0 0 2 (some 2),.str [101],.AU 3 0 2 (some 2)]=some [.AU 0 0 2 (some 2),.str [101],.AU 3 0 2 (some 2)]:=rfl
 obtain⟨h0,hh0⟩:∃h:Heap,h=[(0,.cells 9 1 [.str [110,117,109],.str [112,108,117,115]] false)]:=⟨_,rfl⟩
 obtain⟨h1,hh1⟩:∃h:Heap,h=(1,Al.cells 9 1 [.str [101],.str [112,108,117,115],.str [110,117,109]] false)::h0:=⟨_,rfl⟩
 obtain⟨h2,hh2⟩:∃h:Heap,h=(2,Al.cells 9 1 [.str [110,117,109]] false)::h1:=⟨_,rfl⟩
 obtain⟨h3,hh3⟩:∃h:Heap,h=(3,Al.cells 47 3 [.str [101],.AU 1 0 3 (some 3),.int .i64 0,.str [101],.AU 2 0 1 (some 1),.int .i64 0] false)::h2:=⟨_,rfl⟩
 obtain⟨h4,hh4⟩:∃h:Heap,h=(4,Al.cells 29 3 [.AB,.str [],.AB] false)::h3:=⟨_,rfl⟩
 have n0:newObj 0 (.cells 9 1 [.str [110,117,109],.str [112,108,117,115]] false) ⟨[],5,0⟩=some ⟨h0,5,0⟩:=by subst hh0; rfl
 have n1:newObj 1 (.cells 9 1 [.str [101],.str [112,108,117,115],.str [110,117,109]] false) ⟨h0,5,0⟩=some ⟨h1,5,0⟩:=by subst hh1 hh0; rfl
 have n2:newObj 2 (.cells 9 1 [.str [110,117,109]] false) ⟨h1,5,0⟩=some ⟨h2,5,0⟩:=by subst hh2 hh1 hh0; rfl
 have n3:newObj 3 (.cells 47 3 [.str [101],.AU 1 0 3 (some 3),.int .i64 0,.str [101],.AU 2 0 1 (some 1),.int .i64 0] false) ⟨h2,5,0⟩=some ⟨h3,5,0⟩:=by subst hh3 hh2 hh1 hh0; rfl
 have n4:newObj 4 (.cells 29 3 [.AB,.str [],.AB] false) ⟨h3,5,0⟩=some ⟨h4,5,0⟩:=by subst hh4 hh3 hh2 hh1 hh0; rfl
 have s4:BJ 3 (.AO 4 0) (.agg [.AU 0 0 2 (some 2),.str [101],.AU 3 0 2 (some 2)]) ⟨h4,5,0⟩=some (.undef,⟨RP,5,0⟩):=by subst hh4 hh3 hh2 hh1 hh0; rfl
 refine IP (M.Dt (R:=fun x=>x.1=.normal/\x.2.1.get 1=.AO 4 0/\x.2.2=⟨RP,5,0⟩) (by simp[b0,b1,b2,b3,f1,f2,f3,n0,n1,n2,n3,n4,s4,M.all]) fun x hx=>?_)
 obtain⟨e,ts1,st1⟩:=x
 obtain⟨ee,z1,hst⟩:=hx
 simp only at ee z1 hst
 subst hst
 refine⟨ee,?_⟩
 clear ee
 have l0:Ac RP (.AO 4 0) 3=some [.AU 0 0 2 (some 2),.str kE,.AU 3 0 2 (some 2)]:=rfl
 have l5:Ac aA (.AO 4 0) 3=some [.AU 0 0 2 (some 2),.str kE,.AU 3 0 2 (some 2)]:=rfl
 have l6:Ac ZE (.AO 4 0) 3=some [.AU 0 0 2 (some 2),.str kE,.AU 3 0 2 (some 2)]:=rfl
 have l7:Ac YE (.AO 4 0) 3=some [.AU 0 0 2 (some 2),.str kE,.AU 3 0 2 (some 2)]:=rfl
 have l8:Ac ky (.AO 4 0) 3=some [.AU 0 0 2 (some 2),.str kE,.AU 3 0 2 (some 2)]:=rfl
 have l9:Ac VE (.AO 4 0) 3=some [.AU 0 0 2 (some 2),.str kE,.AU 3 0 2 (some 2)]:=rfl
 have eG:AV.agg [.AU 0 0 2 (some 2),.str kE,.AU 3 0 2 (some 2)]=rG:=rfl
 refine IP (M.Dt (R:=fun x=>x.1=.normal/\x.2.1.get 1=.AO 4 0/\(∃w,x.2.1.get 2=w/\Bu w=some 2)/\x.2.1.get 3=.int .i64 0/\x.2.2=⟨RP,5,0⟩) ?_ fun x hx=>?_)
 ·simp[z1,l0,eG]
  refine M.Kw hW fun a ha=>?_
  obtain⟨v,S⟩:=a
  obtain⟨q1,q2⟩:=ha
  simp only at q1 q2
  subst q2
  obtain⟨w,rfl,hw⟩:=XI q1
  simp[ex,M.all,z1,hw]
 obtain⟨e,ts2,st2⟩:=x
 obtain⟨ee,z1,⟨w,z2,hw⟩,z3,hst⟩:=hx
 simp only at ee z1 z2 z3 hst
 subst hst
 refine⟨ee,?_⟩
 clear ee
 refine IP (M.Dt (R:=fun x=>x.1=.normal/\x.2.1.get 1=.AO 4 0/\x.2.1.get 2=w/\x.2.1.get 3=.int .i64 0/\(∃m,x.2.1.get 4=.int .i64 m/\4<m)/\x.2.1.get 5=.int .i64 0/\x.2.2=⟨RP,5,0⟩) ?_ fun x hx=>?_)
 ·simp[z1,l0,eG]
  refine M.Kw hS fun a ha=>?_
  obtain⟨v,S⟩:=a
  obtain⟨q1,q2⟩:=ha
  simp only at q1 q2
  subst q2
  obtain⟨m,rfl,hm⟩:=ZO q1
  simp[ex,M.all,z1,z2,z3,hm]
 obtain⟨e,ts3,st3⟩:=x
 obtain⟨ee,z1,z2,z3,⟨m,z4,hm⟩,z5,hst⟩:=hx
 simp only at ee z1 z2 z3 z4 z5 hst
 subst hst
 refine⟨ee,?_⟩
 clear ee
 have b5:Ar 5 9 1 3 [.str [],.str [],.str []] [0,1,2] [.str [110,117,109],.str [112,108,117,115],.str [110,117,109]]=some (.AU 5 0 3 (some 3),.cells 9 1 [.str [110,117,109],.str [112,108,117,115],.str [110,117,109]] false):=rfl
 have n5:newObj 5 (.cells 9 1 [.str [110,117,109],.str [112,108,117,115],.str [110,117,109]] false) ⟨RP,6,0⟩=some ⟨aA,6,0⟩:=rfl
 refine IP (M.Dt (R:=fun x=>x.1=.normal/\x.2.1.get 1=.AO 4 0/\x.2.1.get 2=w/\x.2.1.get 3=.int .i64 0/\x.2.1.get 4=.int .i64 m/\x.2.1.get 5=.int .i64 0/\x.2.1.get 6=.bool true/\x.2.1.get 8=.int .i64 0/\x.2.2=⟨aA,6,0⟩) ?_ fun x hx=>?_)
 ·simp[z1,l0,eG,b5,n5]
  refine M.Kw hA fun a ha=>?_
  obtain⟨v,S⟩:=a
  obtain⟨q1,q2⟩:=ha
  simp only at q1 q2
  subst q2
  obtain⟨m2,rfl⟩:=TH q1
  simp[ex,M.all,z1,z2,z3,z4,z5]
 obtain⟨e,ts4,st4⟩:=x
 obtain⟨ee,z1,z2,z3,z4,z5,z6,z8,hst⟩:=hx
 simp only at ee z1 z2 z3 z4 z5 z6 z8 hst
 subst hst
 refine⟨ee,?_⟩
 clear ee
 have b6:Ar 6 9 1 2 [.str [],.str []] [0,1] [.str [110,117,109],.str [110,117,109]]=some (.AU 6 0 2 (some 2),.cells 9 1 [.str [110,117,109],.str [110,117,109]] false):=rfl
 have n6:newObj 6 (.cells 9 1 [.str [110,117,109],.str [110,117,109]] false) ⟨aA,7,0⟩=some ⟨ZE,7,0⟩:=rfl
 have f6:BA [.int .i64 0,.int .i64 0,.int .i64 0] [(0,1),(1,1),(2,1)] [.int .i64 1,.int .i64 1,.int .i64 1]=some [.int .i64 1,.int .i64 1,.int .i64 1]:=rfl
 refine IP (M.Dt (R:=fun x=>x.1=.normal/\x.2.1.get 1=.AO 4 0/\x.2.1.get 2=w/\x.2.1.get 3=.int .i64 0/\x.2.1.get 4=.int .i64 m/\x.2.1.get 5=.int .i64 0/\x.2.1.get 6=.bool true/\x.2.1.get 8=.int .i64 0/\x.2.1.get 9=.int .i64 1/\x.2.1.get 10=.int .i64 0/\x.2.2=⟨ZE,7,0⟩) ?_ fun x hx=>?_)
 ·simp[z1,l5,eG,b6,n6,f6]
  refine M.Kw hD fun a ha=>?_
  obtain⟨v,S⟩:=a
  obtain⟨q1,q2⟩:=ha
  simp only at q1 q2
  subst q2
  obtain rfl:=RY q1
  simp[ex,M.all,z1,z2,z3,z4,z5,z6,z8]
 obtain⟨e,ts5,st5⟩:=x
 obtain⟨ee,z1,z2,z3,z4,z5,z6,z8,z9,z10,hst⟩:=hx
 simp only at ee z1 z2 z3 z4 z5 z6 z8 z9 z10 hst
 subst hst
 refine⟨ee,?_⟩
 clear ee
 have f7:BA [.str [],.str [],.str []] [(0,1),(2,1)] [.str [110,117,109],.str [49]]=some [.str [110,117,109],.str [],.str [49]]:=rfl
 have b7:Ar 7 84 3 1 [.str [],.str [],.str []] [0] [.agg [.str [110,117,109],.str [],.str [49]]]=some (.AU 7 0 1 (some 1),.cells 84 3 [.str [110,117,109],.str [],.str [49]] false):=rfl
 have n7:newObj 7 (.cells 84 3 [.str [110,117,109],.str [],.str [49]] false) ⟨ZE,9,0⟩=some ⟨YE,9,0⟩:=rfl
 have n8:newObj 8 (.cells 87 5 [.int .i64 0,.str [],.str [],.str [],.AB] false) ⟨YE,9,0⟩=some ⟨(8,.cells 87 5 [.int .i64 0,.str [],.str [],.str [],.AB] false)::YE,9,0⟩:=rfl
 have s8:BJ 5 (.AO 8 0) rT ⟨(8,.cells 87 5 [.int .i64 0,.str [],.str [],.str [],.AB] false)::YE,9,0⟩=some (.undef,⟨ky,9,0⟩):=rfl
 refine IP (M.Dt (R:=fun x=>x.1=.normal/\x.2.1.get 1=.AO 4 0/\x.2.1.get 2=w/\x.2.1.get 3=.int .i64 0/\x.2.1.get 4=.int .i64 m/\x.2.1.get 5=.int .i64 0/\x.2.1.get 6=.bool true/\x.2.1.get 8=.int .i64 0/\x.2.1.get 9=.int .i64 1/\x.2.1.get 10=.int .i64 0/\x.2.1.get 11=.AO 8 0/\x.2.1.get 13=.int .i64 0/\x.2.2=⟨ky,9,0⟩) ?_ fun x hx=>?_)
 ·simp[z1,l6,l7,eG,b7,n7,f7]
  refine M.Kw hP fun a ha=>?_
  obtain⟨v,S⟩:=a
  obtain⟨q1,q2⟩:=ha
  simp only at q1 q2
  subst q2
  obtain rfl:=XK q1
  simp[ex,M.all,z1,z2,z3,z4,z5,z6,z8,z9,z10,n8,s8]
 obtain⟨e,ts6,st6⟩:=x
 obtain⟨ee,z1,z2,z3,z4,z5,z6,z8,z9,z10,z11,z13,hst⟩:=hx
 simp only at ee z1 z2 z3 z4 z5 z6 z8 z9 z10 z11 z13 hst
 subst hst
 refine⟨ee,?_⟩
 clear ee
 have lt8:Ac ky (.AO 8 0) 5=some rT.cells:=rfl
 have lt9:Ac VE (.AO 8 0) 5=some rT.cells:=rfl
 have eT:AV.agg rT.cells=rT:=rfl
 have b9:Ar 9 84 3 1 [.str [],.str [],.str []] [0] [.agg [.str [110,117,109],.str [],.str [49]]]=some (.AU 9 0 1 (some 1),.cells 84 3 [.str [110,117,109],.str [],.str [49]] false):=rfl
 have n9:newObj 9 (.cells 84 3 [.str [110,117,109],.str [],.str [49]] false) ⟨ky,11,0⟩=some ⟨VE,11,0⟩:=rfl
 have n10:newObj 10 (.cells 92 2 [.int .i64 0,.int .i64 0] false) ⟨VE,11,0⟩=some ⟨(10,.cells 92 2 [.int .i64 0,.int .i64 0] false)::VE,11,0⟩:=rfl
 have s10:BJ 2 (.AO 10 0) (.agg [.int .i64 1,.int .i64 1]) ⟨(10,.cells 92 2 [.int .i64 0,.int .i64 0] false)::VE,11,0⟩=some (.undef,⟨(10,.cells 92 2 [.int .i64 1,.int .i64 1] false)::VE,11,0⟩):=rfl
 refine IP (M.Dt (R:=fun x=>x.1=.normal/\x.2.1.get 2=w/\x.2.1.get 3=.int .i64 0/\x.2.1.get 4=.int .i64 m/\x.2.1.get 5=.int .i64 0/\x.2.1.get 6=.bool true/\x.2.1.get 8=.int .i64 0/\x.2.1.get 9=.int .i64 1/\x.2.1.get 10=.int .i64 0/\x.2.1.get 13=.int .i64 0/\x.2.1.get 14=.AO 10 0/\x.2.1.get 15=.int .i64 0/\x.2.2=⟨(10,.cells 92 2 [.int .i64 1,.int .i64 1] false)::VE,11,0⟩) ?_ fun x hx=>?_)
 ·simp[z1,z11,l8,l9,lt8,lt9,eG,eT,b9,n9,f7]
  refine M.Kw hR fun a ha=>?_
  obtain⟨v,S⟩:=a
  obtain⟨q1,q2⟩:=ha
  simp only at q1 q2
  subst q2
  obtain rfl:=XJ q1
  simp[ex,M.all,z2,z3,z4,z5,z6,z8,z9,z10,z13,n10,s10]
 obtain⟨e,ts7,st7⟩:=x
 obtain⟨ee,z2,z3,z4,z5,z6,z8,z9,z10,z13,z14,z15,hst⟩:=hx
 simp only at ee z2 z3 z4 z5 z6 z8 z9 z10 z13 z14 z15 hst
 subst hst
 refine⟨ee,?_⟩
 clear ee
 have l10:Ac ((10,Al.cells 92 2 [.int .i64 1,.int .i64 1] false)::VE) (.AO 10 0) 2=some [.int .i64 1,.int .i64 1]:=rfl
 have f10:BA [.int .i64 0,.int .i64 0] [(0,1),(1,1)] [.int .i64 1,.int .i64 1]=some [.int .i64 1,.int .i64 1]:=rfl
 have e12:Rf false (.key (.many [.int,.int])) (.agg [.int .i64 1,.int .i64 1]) (.agg [.int .i64 1,.int .i64 1])=some (.bool true):=rfl
 simp[gQ,z2,hw,e12,z3,z5,z4,hm,z8,z6,z10,z9,z13,z15,z14,l10,f10,Be,M.all]
theorem We {call:Nat->List AV->St->M (AV × St)}{st:St}(h:True/\(BF E call C.f9.body (TS.Cm [] 0 .nil) ⟨[],0,0⟩).all fun x=>x.1=.ret/\x.2.1.get 0=.bool true) :
 True/\((Ct E call C.f9 [] ⟨[],0,0⟩).bind (Bn 0 st)).all fun r=>r=(.bool true,st):=by
 refine⟨trivial,?_⟩
 rw[Af (by simp)]
 have hres:C.f9.results=[.tmp 0]:=rfl
 rw[hres]
 refine M.Kw (R:=fun r=>r.1=.bool true) (M.Kw h.2 fun x hx=>?_) fun r hr=>?_
 ·obtain⟨e,ts,st'⟩:=x
  obtain⟨e1,e2⟩:=hx
  simp only at e1 e2
  subst e1
  simp[leave,results,AR,e2,M.all]
 ·obtain⟨v,st'⟩:=r
  simp only at hr
  subst hr
  rw[DT rfl]
  rfl
theorem Yv {n:Nat}(hn:37=n)(st:St):True/\(AX E (n+2) 9 [] st).all fun r=>r=(.bool true,st):=by
 have h1:=YX hn 0
 have h2:=aU hn 0
 have h3:=Vt hn 0
 have h4:=TW hn 0
 have h5:=ZA hn 0
 have h6:=Yn hn 0
 rw[DK (fn:=C.f9) rfl rfl rfl rfl]
 generalize AX E (n+1)=call at *
 exact We (Wh h1 h2 h3 h4 h5 h6)
theorem bJ {m:M (AV × St)}(h:TG (Pj m)=true):∃t l gs,(∀st,m.bind (Bn 0 st)=.ret (.list t 3 l,st))/\KV l=some gs/\gs.length=12/\∀g∈gs,JJ g=true:=by
 unfold TG at h
 split at h
 ·rename_i gs hg
  unfold Pj at hg
  split at hg
  ·rename_i r
   split at hg
   ·rename_i t l hth
    simp only[Bool.and_eq_true,decide_eq_true_eq,List.all_eq_true] at h
    refine⟨t,l,gs,fun st=>?_,hg,h.1,h.2⟩
    simp only[M.bind,Bn,hth]
   ·cases hg
  ·cases hg
 ·cases h
theorem XG (n:Nat)(hn:39=n):TG (Pj (Ct E (AX E n) C.f12 [] ⟨[],0,0⟩))=true:=hn ▸ XF
theorem ZN {n:Nat}(hn:39=n)(k:Nat):Vw (n+1+k):=by
 obtain⟨t,l,gs,h1,h2⟩:=bJ (XG n hn)
 refine⟨t,l,gs,fun st=>?_,h2⟩
 refine Xm ?_ k
 rw[DK (E:=E) (n:=n) (f:=12) (args:=[]) (st:=st) (fn:=C.f12) rfl rfl rfl rfl]
 exact h1 st
theorem Rt {n:Nat}(hn:39=n)(k:Nat):Nz (n+2+k):=by
 have e:n+2+k=(n+k-3)+5:=by omega
 rw[e]
 refine Yt ?_
 rw[show n+k-3+4=n+1+k by omega]
 exact ZN hn k
theorem gU {n:Nat}(hn:39=n)(k:Nat){o:Nat}{vs:AV}{zs:List Int}{a:Int}{st:St}(hs:Ib st o vs a)(hv:CB vs zs)(ha:0<=a/\a<10000)(ho:o<st.c)(hb:HB st)(hh:HO st)(hlo:st.lo<=o) :
 ∃v g m st',AX E (n+3+k) 19 [.AO o 0] st=.ret (v,st')/\st'.c=st.c/\Br st.c o vs (a+m) st st'/\Bl v g/\g.Small/\0<=m/\m<=200:=by
 have h:=Rt hn k
 rw[show n+2+k=(n+k-3)+5 by omega] at h
 rw[show n+3+k=(n+k-3)+6 by omega]
 exact gT h hs hv ha ho hb hh hlo
set_option maxHeartbeats 4000000 in
theorem ZM {F m:Nat}(hF:F=m+30){v:AV}{zs:List Int}(hv:CB v zs)(hvo:∀c,v.CF c=true)(hv1:v.isTuple=false/\v.cells=[v])(hRt:∀{st:St} {a:Int},Ib st 0 v a->0<=a/\a<10000->0<st.c->HB st->HO st->st.lo<=0->∃w g b st',AX E (F+1) 4 [.AO 0 0] st=.ret (w,st')/\st'.c=st.c/\Br st.c 0 v (a+b) st st'/\Bl w g/\g.Small/\0<=b/\b<=200)(hA:∀{st:St} {a:Int},Ib st 0 v a->0<=a/\a<10000->0<st.c->HB st->HO st->st.lo<=0->∃w g b st',AX E F 19 [.AO 0 0] st=.ret (w,st')/\st'.c=st.c/\Br st.c 0 v (a+b) st st'/\Bl w g/\g.Small/\0<=b/\b<=200)(hR:∀st,(AX E (F+1) 9 [] st).all fun r=>r=(.bool true,st)):(AX E (F+2) 3 [v] ⟨[],0,0⟩).all fun r=>r.1=.bool true:=by
 rw[Ai (fn:=C.f3) rfl rfl rfl,Af (by simp)]
 have hbld:BA [.AB,.int .i64 0] [(0,1)] [v]=some [v,.int .i64 0]:=by
  simp[BA,hv1.1,hv1.2,beq_eq,ble_eq,BS]
 obtain⟨h0,hh0⟩:∃h:Heap,h=[(0,Al.cells 25 2 [v,.int .i64 0] false)]:=⟨_,rfl⟩
 have hbx:Gy 0 25 2 (.agg [v,.int .i64 0])=some (.AO 0 0,.cells 25 2 [v,.int .i64 0] false):=rfl
 have n0:newObj 0 (.cells 25 2 [v,.int .i64 0] false) ⟨[],1,0⟩=some ⟨h0,1,0⟩:=by rw[hh0]; rfl
 have f0:AA h0 0=some (.cells 25 2 [v,.int .i64 0] false):=by rw[hh0]; rfl
 have tp0:top h0<=1:=by rw[hh0]; simp[top]
 have S0:Ib ⟨h0,2,0⟩ 0 v 0:=⟨f0,Nat.zero_le _⟩
 have HB0:HB ⟨h0,2,0⟩:=ig (by omega)
 have HO0:HO ⟨h0,2,0⟩:=fun p x hm=>by
  have hm:(p,x)∈h0:=hm
  rw[hh0] at hm
  simp only[List.mem_singleton,Prod.mk.injEq] at hm
  obtain⟨_,rfl⟩:=hm
  simp[Al.CF,AV.Cx,AV.CF,hvo]
 obtain⟨u,g,b,st1,a1,a2,a3,a4,a5,a6,a7⟩:=hRt S0 ⟨by omega,by omega⟩ (by show 0<2; omega) HB0 HO0 (Nat.le_refl _)
 have a2:st1.c=2:=a2
 have HO1:HO st1:=bS a3 a2 HO0 (hvo _)
 have lo1:st1.lo=0:=a3.lo
 obtain⟨u2,g2,b2,st2,c1,c2,c3,c4,c5,c6,c7⟩:=hA a3.st ⟨by omega,by omega⟩ (by omega) a3.hb HO1 (by omega)
 rw[show F=(m+26)+4 by omega] at c1
 obtain⟨s,st3,d1,d2,d3,d4,d5,d6⟩:=PX (k:=m+26) c1 c3.st hv ⟨by omega,by omega⟩ c4 c5 (by omega) (HB.top c3.hb)
 rw[show m+26+5=F+1 by omega] at d1
 obtain⟨h3,q3,l3⟩:=st3
 have lo2:st2.lo=0:=c3.lo.trans lo1
 have l30:l3=0:=d4.trans lo2
 subst l30
 have d3:2<=q3:=by have:st2.c<=q3:=d3; omega
 have d5:top h3<=q3:=d5
 have hn1:AA h3 1=none:=by
  have e1:AA h3 1=AA st2.h 1:=d6 1 (by omega) (by omega)
  have e2:AA st2.h 1=AA st1.h 1:=c3.CF 1 (by omega) (by omega)
  have e3:AA st1.h 1=AA h0 1:=a3.CF 1 (by show 1<2; omega) (by omega)
  rw[e1,e2,e3,hh0]; rfl
 have hgu:=a4
 obtain⟨kv,rv,l,rfl,k1,k2,k3⟩:=a4
 obtain⟨h4,e1,e2,e3⟩:=QS (st:=⟨h3,q3,0⟩) (o:=1) (y:=.cells 29 3 [.AB,.str [],.AB] false) hn1
 have e2:∀p,AA h4 p=if 1=p then some (.cells 29 3 [.AB,.str [],.AB] false) else AA h3 p:=e2
 have f4:AA h4 1=some (.cells 29 3 [.AB,.str [],.AB] false):=by rw[e2,if_pos rfl]
 have tp4:top h4<=q3:=OD.2 fun p x hm=>by
  rcases e3 p x hm with⟨rfl,_⟩|hm
  ·omega
  ·exact OD.1 d5 p x hm
 have s4:BJ 3 (.AO 1 0) (.agg [kv,.str g.start,rv]) ⟨h4,q3,0⟩=some (.undef,⟨Aa h4 1 (.cells 29 3 [kv,.str g.start,rv] false),q3,0⟩):=by
  rw[Fs,f4,Db]; simp[AV.isTuple,AV.cells]
 obtain⟨h5,hh5⟩:∃h5,h5=Aa h4 1 (Al.cells 29 3 [kv,.str g.start,rv] false):=⟨_,rfl⟩
 rw[← hh5] at s4
 have f5:AA h5 1=some (.cells 29 3 [kv,.str g.start,rv] false):=by rw[hh5,OE rfl,f4]; rfl
 have tp5:top h5<=q3:=by rw[hh5,Gm]; exact tp4
 have ld5:Ac h5 (.AO 1 0) 3=some [kv,.str g.start,rv]:=by rw[DN,f5]; simp
 have r36:=Ra (k:=m+24) (st:=⟨h5,q3,0⟩) hgu a5
 rw[show m+24+7=F+1 by omega] at r36
 unfold Mc at r36
 obtain⟨X,hX⟩:∃X,X=(if g.fault=0 then Bh g else []):=⟨_,rfl⟩
 have hXl:X.length<=20000:=by
  rw[hX]; split
  ·exact Py a5
  ·simp
 rw[← hX] at r36
 obtain⟨y,r38,ru,rfl,hru⟩:=Nf (k:=m+24) (t:=X) (st:=⟨h5,q3+1,0⟩) (by omega)
 rw[show m+24+7=F+1 by omega] at r38
 have hru':=hru
 obtain⟨kv6,rv6,l6,rfl,k61,k62,k63⟩:=hru
 have n6:newObj q3 (.cells 29 3 [.AB,.str [],.AB] false) ⟨h5,q3+1,0⟩=some ⟨(q3,.cells 29 3 [.AB,.str [],.AB] false)::h5,q3+1,0⟩:=BP tp5
 have s6:=DY (h:=h5) (c:=q3) (c':=q3+1) (lo:=0) (ty:=29) (n:=3) (zs:=[.AB,.str [],.AB]) (vs:=[kv6,.str (BU X).1.start,rv6]) (by omega) rfl rfl
 obtain⟨h6,hh6⟩:∃h6,h6=(q3,Al.cells 29 3 [kv6,.str (BU X).1.start,rv6] false)::h5:=⟨_,rfl⟩
 rw[← hh6] at s6
 have tp6:top h6<=q3+1:=by rw[hh6,BD]; omega
 have f6:AA h6 q3=some (.cells 29 3 [kv6,.str (BU X).1.start,rv6] false):=by rw[hh6,Bv rfl]
 have f61:AA h6 1=some (.cells 29 3 [kv,.str g.start,rv] false):=by rw[hh6,Bb (by omega)]; exact f5
 have ld6:Ac h6 (.AO q3 0) 3=some [kv6,.str (BU X).1.start,rv6]:=by rw[DN,f6]; simp
 have ld61:Ac h6 (.AO 1 0) 3=some [kv,.str g.start,rv]:=by rw[DN,f61]; simp
 have r7:=Rc (k:=m+24) (st:=⟨h6,q3+1,0⟩) hgu a5
 rw[show m+24+7=F+1 by omega] at r7
 by_cases hz:g.fault=0
 ·rw[if_pos hz] at hX
  rw[hz] at r36 r7
  have hW:g.Ca=0:=by rw[Ak.KT (by have:=a5.kinds; omega) (by have:=a5.many; omega)]; exact hz
  have hread:BU X=(g,0,0):=by rw[hX]; exact Yx hW (hX ▸ hXl)
  rw[hread] at r38 hru' s6 ld6
  obtain⟨y2,r39,ru2,rfl,hru2⟩:=Nf (k:=m+24) (t:=s) (st:=⟨h6,q3+1+1,0⟩) (by omega)
  rw[show m+24+7=F+1 by omega] at r39
  have hru2':=hru2
  obtain⟨kv7,rv7,l7,rfl,k71,k72,k73⟩:=hru2
  have n7:newObj (q3+1) (.cells 29 3 [.AB,.str [],.AB] false) ⟨h6,q3+1+1,0⟩=some ⟨(q3+1,.cells 29 3 [.AB,.str [],.AB] false)::h6,q3+1+1,0⟩:=BP tp6
  have s7:=DY (h:=h6) (c:=q3+1) (c':=q3+1+1) (lo:=0) (ty:=29) (n:=3) (zs:=[.AB,.str [],.AB]) (vs:=[kv7,.str (BU s).1.start,rv7]) (by omega) rfl rfl
  obtain⟨h7,hh7⟩:∃h7,h7=(q3+1,Al.cells 29 3 [kv7,.str (BU s).1.start,rv7] false)::h6:=⟨_,rfl⟩
  rw[← hh7] at s7
  have f77:AA h7 (q3+1)=some (.cells 29 3 [kv7,.str (BU s).1.start,rv7] false):=by rw[hh7,Bv rfl]
  have ld7:Ac h7 (.AO (q3+1) 0) 3=some [kv7,.str (BU s).1.start,rv7]:=by rw[DN,f77]; simp
  have r34:=PT (k:=m+27) (st:=⟨h6,q3+1,0⟩) hru' hgu a5.wide
  rw[show m+27+4=F+1 by omega] at r34
  have r20:=hR ⟨h7,q3+1+1,0⟩
  by_cases hs0:(BU s).2.2=0
  ·obtain⟨t1,t2,t3⟩:=Yb (t:=s) (z:=(BU s).1) (a:=(BU s).2.1) (by rw[← hs0])
   have r36b:=VG (k:=m+24) (st:=⟨h7,q3+1+1,0⟩) hru2' (RO s) t2 (by rw[t1]; exact t3)
   rw[show m+24+7=F+1 by omega,t1] at r36b
   rw[hs0] at r39
   simp[C.f3,hbld,hbx,n0,a1,d1,e1,s4,ld5,r36,r38,n6,s6,ld61,r7,r39,n7,s7,Ap,Aj,CW,ld6,ld7,r34,r36b,-M.bind_assoc]
   simp only[M.bind_assoc]
   refine M.Tj r20 fun r hr=>?_
   subst hr
   simp[leave,results,AR]
  ·have hs0b:((BU s).2.2==0)=false:=by simpa using hs0
   simp[C.f3,hbld,hbx,n0,a1,d1,e1,s4,ld5,r36,r38,n6,s6,ld61,r7,r39,n7,s7,Ap,Aj,CW,ld6,ld7,r34,hs0b,-M.bind_assoc]
   simp only[M.bind_assoc]
   refine M.Tj r20 fun r hr=>?_
   subst hr
   simp[leave,results,AR]
 ·have hzb:(g.fault==0)=false:=by simpa using hz
  have hzn:(g.fault !=0)=true:=by simpa using hz
  have r20:=hR ⟨h6,q3+1,0⟩
  simp[C.f3,hbld,hbx,n0,a1,d1,e1,s4,ld5,r36,r38,n6,s6,ld61,r7,hzb,hzn,Ap,Aj,CW,-M.bind_assoc]
  simp only[M.bind_assoc]
  refine M.Tj r20 fun r hr=>?_
  subst hr
  simp[leave,results,AR]
theorem Wq {c:Nat}{l:List AV}(h:∀x∈l,AV.CF c x=true):AV.Cx c l=true:=by
 induction l with
 |nil=>rfl
 |cons x l ih=>simp only[AV.Cx,Bool.and_eq_true]; exact⟨h x (by simp),ih fun y hy=>h y (List.mem_cons_of_mem _ hy)⟩
theorem Zv {E:Env}{n f:Nat}{args:List AV}{st:St}{Q:AV × St->Prop}(h:True/\(AX E n f args st).all Q)(k b:Nat)(hb:b=n+k):True/\(AX E b f args st).all Q:=
 ⟨trivial,by subst hb; exact RF h.2 k⟩
theorem Yw {n F:Nat}(hn:39=n)(hF:n+4=F)(st:St):True/\(AX E F 9 [] st).all fun r=>r=(.bool true,st):=
 Zv (Yv (n:=n-2) (by omega) st) 4 F (by omega)
theorem fQ {v:AV}{zs:List Int}(hv:CB v zs):∃n,(AX E n 3 [v] ⟨[],0,0⟩).all fun r=>r.1=.bool true:=by
 obtain⟨n,hn⟩:∃n,39=n:=⟨39,rfl⟩
 obtain⟨F,hF⟩:∃F,n+3=F:=⟨_,rfl⟩
 obtain⟨m,hm⟩:∃m,F=m+30:=⟨F-30,by omega⟩
 have hvo:∀c,v.CF c=true:=fun c=>by
  rcases hv.sl.out with⟨rfl,_⟩|⟨t,rfl⟩
  ·rfl
  ·refine Wq fun x hx=>?_
   obtain⟨z,_,rfl⟩:=List.mem_map.1 hx; rfl
 have hv1:v.isTuple=false/\v.cells=[v]:=by rcases hv.sl.out with⟨rfl,_⟩|⟨t,rfl⟩ <;> exact⟨rfl,rfl⟩
 have hRt:∀{st:St} {a:Int},Ib st 0 v a->0<=a/\a<10000->0<st.c->HB st->HO st->st.lo<=0->∃w g b st',AX E (F+1) 4 [.AO 0 0] st=.ret (w,st')/\st'.c=st.c/\Br st.c 0 v (a+b) st st'/\Bl w g/\g.Small/\0<=b/\b<=200:=fun {st a} h1 ha h2 h3 h4 h5=>by
  obtain⟨w,g,b,st',e1,e2,e3,e4,e5,e6,e7⟩:=Rt hn 2 st 0 v zs a h1 hv ha.1 ha.2 h2 h5 h3 h4
  rw[show n+2+2=F+1 by omega] at e1
  exact⟨w,g,b,st',e1,e2,e3,e4,e5.small,e6,by omega⟩
 have hA:∀{st:St} {a:Int},Ib st 0 v a->0<=a/\a<10000->0<st.c->HB st->HO st->st.lo<=0->∃w g b st',AX E F 19 [.AO 0 0] st=.ret (w,st')/\st'.c=st.c/\Br st.c 0 v (a+b) st st'/\Bl w g/\g.Small/\0<=b/\b<=200:=fun {st a} h1 ha h2 h3 h4 h5=>by
  have h:=gU hn 0 h1 hv ha h2 h3 h4 h5
  rw[show n+3+0=F by omega] at h
  exact h
 have hR:∀st,(AX E (F+1) 9 [] st).all fun r=>r=(.bool true,st):=fun st=>(Yw hn (by omega) st).2
 exact⟨F+2,ZM hm hv hvo hv1 hRt hA hR⟩
end Go.Am
