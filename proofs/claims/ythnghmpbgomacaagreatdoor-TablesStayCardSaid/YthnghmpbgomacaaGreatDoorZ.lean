/- tablesStay: Make, Conflicts and Access leave the grammars that are passed as they are, and overwriting what they give changes nothing else, for every list of numbers; conditions: those of the card. -/
import Derived.Test.YthnghmpbgomacaaGreatDoorKa
import Derived.Test.YthnghmpbgomacaaGreatDoorKb
import Derived.Test.YthnghmpbgomacaaGreatDoorKc
import Derived.Test.YthnghmpbgomacaaGreatDoorKd
import Derived.Test.YthnghmpbgomacaaGreatDoorKe
import Derived.Test.YthnghmpbgomacaaGreatDoorKf
import Derived.Test.YthnghmpbgomacaaGreatDoorKg
import Derived.Test.YthnghmpbgomacaaGreatDoorQB
import Derived.Test.YthnghmpbgomacaaGreatDoorP
import Derived.Test.YthnghmpbgomacaaGreatDoorY
set_option maxHeartbeats 4000000
namespace Go.Am
open Go
theorem vY(n:Nat)(a:37=n):M.UH (PK 5 Sr) (Gt E (Ab E n) C.f32 [rG,.int .i64 3] ⟨Zj,5,5⟩)=true:=a▸lG
theorem qz{n:Nat}(b:37=n)(a:Nat):(Ab E (n+1) 32 [rG,.int .i64 3] ⟨Zj,5,a⟩).all fun r=>Sr r.1=true/\r.2=⟨Zj,5,a⟩:=by rw[FD (E:=E) (n:=n) (f:=32) (args:=[rG,.int .i64 3]) (st:=⟨Zj,5,a⟩) (fn:=C.f32) rfl rfl rfl];exact Nz (vY n b)
theorem AAB(n:Nat)(a:37=n):M.UH (PK 5 Vx) (Gt E (Ab E n) C.f33 [rG,.int .i64 1] ⟨Zj,5,5⟩)=true:=a▸rQ
theorem wJ{n:Nat}(b:37=n)(a:Nat):(Ab E (n+1) 33 [rG,.int .i64 1] ⟨Zj,5,a⟩).all fun r=>Vx r.1=true/\r.2=⟨Zj,5,a⟩:=by rw[FD (E:=E) (n:=n) (f:=33) (args:=[rG,.int .i64 1]) (st:=⟨Zj,5,a⟩) (fn:=C.f33) rfl rfl rfl];exact Nz (AAB n b)
theorem pG(n:Nat)(a:37=n):M.UH (PK 6 OA) (Gt E (Ab E n) C.f34 [rG,.AU 5 0 3 (some 3)] ⟨vP,6,6⟩)=true:=a▸eX
theorem kL{n:Nat}(b:37=n)(a:Nat):(Ab E (n+1) 34 [rG,.AU 5 0 3 (some 3)] ⟨vP,6,a⟩).all fun r=>OA r.1=true/\r.2=⟨vP,6,a⟩:=by rw[FD (E:=E) (n:=n) (f:=34) (args:=[rG,.AU 5 0 3 (some 3)]) (st:=⟨vP,6,a⟩) (fn:=C.f34) rfl rfl rfl];exact Nz (pG n b)
theorem jT(n:Nat)(a:37=n):M.UH (PK 7 Ml) (Gt E (Ab E n) C.f35 [rG,.AU 6 0 2 (some 2),.agg [.int .i64 1,.int .i64 1,.int .i64 1]] ⟨vO,7,7⟩)=true:=a▸Zw
theorem df{n:Nat}(b:37=n)(a:Nat):(Ab E (n+1) 35 [rG,.AU 6 0 2 (some 2),.agg [.int .i64 1,.int .i64 1,.int .i64 1]] ⟨vO,7,a⟩).all fun r=>Ml r.1=true/\r.2=⟨vO,7,a⟩:=by rw[FD (E:=E) (n:=n) (f:=35) (args:=[rG,.AU 6 0 2 (some 2),.agg [.int .i64 1,.int .i64 1,.int .i64 1]]) (st:=⟨vO,7,a⟩) (fn:=C.f35) rfl rfl rfl];exact Nz (jT n b)
theorem wU(n:Nat)(a:37=n):M.UH (PK 9 Us) (Gt E (Ab E n) C.f36 [rG,.AU 7 0 1 (some 1)] ⟨rE,9,9⟩)=true:=a▸mW
theorem sD{n:Nat}(b:37=n)(a:Nat):(Ab E (n+1) 36 [rG,.AU 7 0 1 (some 1)] ⟨rE,9,a⟩).all fun r=>Us r.1=true/\r.2=⟨rE,9,a⟩:=by rw[FD (E:=E) (n:=n) (f:=36) (args:=[rG,.AU 7 0 1 (some 1)]) (st:=⟨rE,9,a⟩) (fn:=C.f36) rfl rfl rfl];exact Nz (wU n b)
theorem wK(n:Nat)(a:37=n):M.UH (PK 11 Ur) (Gt E (Ab E n) C.f37 [rG,rT,.AU 9 0 1 (some 1)] ⟨kz,11,11⟩)=true:=a▸mG
theorem rR{n:Nat}(b:37=n)(a:Nat):(Ab E (n+1) 37 [rG,rT,.AU 9 0 1 (some 1)] ⟨kz,11,a⟩).all fun r=>Ur r.1=true/\r.2=⟨kz,11,a⟩:=by rw[FD (E:=E) (n:=n) (f:=37) (args:=[rG,rT,.AU 9 0 1 (some 1)]) (st:=⟨kz,11,a⟩) (fn:=C.f37) rfl rfl rfl];exact Nz (wK n b)
theorem nR{v:AV}(h:Sr v=true):∃w,v=.tuple [w,.int .i64 0]/\CV w=some 2:=by
 unfold Sr at h;split at h
 ·rename_i w n;split at h
  ·rename_i l a;simp at h;exact⟨w,by rw[h.2],by rw[a,h.1]⟩
  ·simp at h
 ·cases h
theorem uB{v:AV}(h:Vx v=true):∃m,v=.tuple [.int .i64 m,.int .i64 0]/\4<m:=by
 unfold Vx at h;split at h
 ·simp at h;exact⟨_,by rw[h.2],h.1⟩
 ·cases h
theorem dH{v:AV}(h:OA v=true):∃m,v=.tuple [.bool true,.int .i64 m,.int .i64 0]:=by
 unfold OA at h;split at h
 ·simp at h;exact⟨_,by rw[h.1,h.2]⟩
 ·cases h
theorem Zr{v:AV}(h:Ml v=true):v=.tuple [.int .i64 1,.int .i64 0]:=by
 unfold Ml at h;split at h
 ·simp at h;rw[h.1,h.2]
 ·cases h
theorem nT{v:AV}(h:Us v=true):v=.tuple [rT,.int .i64 0,.int .i64 0]:=AV.beq_eq h
theorem nS{v:AV}(h:Ur v=true):v=.tuple [.agg [.int .i64 1,.int .i64 1],.int .i64 0]:=AV.beq_eq h
theorem M.RJ{α β:Type}{m:M α}{f:α->M β}{R:α->Prop}{S:β->Prop}(h:m.all R)(k:∀a,R a->(f a).all S):(m.bind f).all S:=M.Jo.2 (M.GU h k)
theorem ABT{E:Env}{call:Nat->List AV->St->M (AV×St)}{s d q:Nat}{b:Bool}{k:AK}{args:List Ki}{a:List Dr}{c:TS}{e:St}(h:c.get q=.bool b):MV E call s (⟨some d,some (q,b),k,args⟩::a) c e=MV E call s (⟨some d,none,k,args⟩::a) c e:=by rw[RH,h];cases b<;>rfl
theorem NL{call:Nat->List AV->St->M (AV×St)}{a b:BD}{c:TS}{g:St}{R:KN×TS×St->Prop}(h:(Bc E call a c g).all fun x=>x.1=.normal/\(Bc E call b x.2.1 x.2.2).all R):(Bc E call (.seq a b) c g).all R:=by rw[TI];refine M.RJ h fun x k=>?_;obtain⟨e,i,j⟩:=x;obtain⟨f,d⟩:=k;simp only at f d;subst f;exact d
theorem mO{call:Nat->List AV->St->M (AV×St)}(hW:(call 32 [rG,.int .i64 3] ⟨Zj,5,0⟩).all fun r=>Sr r.1=true/\r.2=⟨Zj,5,0⟩)(hS:(call 33 [rG,.int .i64 1] ⟨Zj,5,0⟩).all fun r=>Vx r.1=true/\r.2=⟨Zj,5,0⟩)(hA:(call 34 [rG,.AU 5 0 3 (some 3)] ⟨vP,6,0⟩).all fun r=>OA r.1=true/\r.2=⟨vP,6,0⟩)(hD:(call 35 [rG,.AU 6 0 2 (some 2),.agg [.int .i64 1,.int .i64 1,.int .i64 1]] ⟨vO,7,0⟩).all fun r=>Ml r.1=true/\r.2=⟨vO,7,0⟩)(hP:(call 36 [rG,.AU 7 0 1 (some 1)] ⟨rE,9,0⟩).all fun r=>Us r.1=true/\r.2=⟨rE,9,0⟩)(hR:(call 37 [rG,rT,.AU 9 0 1 (some 1)] ⟨kz,11,0⟩).all fun r=>Ur r.1=true/\r.2=⟨kz,11,0⟩) :
 True/\(Bc E call C.f13.body (TS.FK [] 0 .nil) ⟨[],0,0⟩).all fun x=>x.1=.ret/\x.2.1.get 0=.bool true:=by
 refine⟨trivial,?_⟩;have H:∀i vs st,LP i (.tuple vs) st=Ia st vs[i]?:=fun _ _ _=>rfl;unfold C.f13;simp only;refine NL (M.GU (R:=fun x=>x.1=.normal/\x.2.2=⟨[],0,0⟩) (by simp) fun x n=>?_);obtain⟨e,a9,c3⟩:=x;obtain⟨c,b⟩:=n;simp only at c b;subst b;refine⟨c,?_⟩;clear c;have b0:BC 0 9 1 2 [.str [],.str []] [0,1] [.str [110,117,109],.str [112,108,117,115]]=some (.AU 0 0 2 (some 2),.cells 9 1 [.str [110,117,109],.str [112,108,117,115]] false):=rfl;have b1:BC 1 9 1 3 [.str [],.str [],.str []] [0,1,2] [.str [101],.str [112,108,117,115],.str [110,117,109]]=some (.AU 1 0 3 (some 3),.cells 9 1 [.str [101],.str [112,108,117,115],.str [110,117,109]] false):=rfl;have b2:BC 2 9 1 1 [.str []] [0] [.str [110,117,109]]=some (.AU 2 0 1 (some 1),.cells 9 1 [.str [110,117,109]] false):=rfl;have b3:BC 3 63 3 2 [.str [],.AO,.int .i64 0,.str [],.AO,.int .i64 0] [0,1] [.agg [.str [101],.AU 1 0 3 (some 3),.int .i64 0],.agg [.str [101],.AU 2 0 1 (some 1),.int .i64 0]]=some (.AU 3 0 2 (some 2),.cells 63 3 [.str [101],.AU 1 0 3 (some 3),.int .i64 0,.str [101],.AU 2 0 1 (some 1),.int .i64 0] false):=rfl;have f1:Bp [.str [],.AO,.int .i64 0] [(0,1),(1,1)] [.str [101],.AU 1 0 3 (some 3)]=some [.str [101],.AU 1 0 3 (some 3),.int .i64 0]:=rfl;have f2:Bp [.str [],.AO,.int .i64 0] [(0,1),(1,1)] [.str [101],.AU 2 0 1 (some 1)]=some [.str [101],.AU 2 0 1 (some 1),.int .i64 0]:=rfl;have f3:Bp [.AO,.str [],.AO] [(0,1),(1,1),(2,1)] [.AU 0 0 2 (some 2),.str [101],.AU 3 0 2 (some 2)]=some [.AU 0 0 2 (some 2),.str [101],.AU 3 0 2 (some 2)]:=rfl;obtain⟨Z,q⟩:∃h:Aa,h=[(0,.cells 9 1 [.str [110,117,109],.str [112,108,117,115]] false)]:=⟨_,rfl⟩;obtain⟨h1,t⟩:∃h:Aa,h=(1,BJ.cells 9 1 [.str [101],.str [112,108,117,115],.str [110,117,109]] false)::Z:=⟨_,rfl⟩;obtain⟨V,A⟩:∃h:Aa,h=(2,BJ.cells 9 1 [.str [110,117,109]] false)::h1:=⟨_,rfl⟩;obtain⟨P,D⟩:∃h:Aa,h=(3,BJ.cells 63 3 [.str [101],.AU 1 0 3 (some 3),.int .i64 0,.str [101],.AU 2 0 1 (some 1),.int .i64 0] false)::V:=⟨_,rfl⟩;obtain⟨h4,K⟩:∃h:Aa,h=(4,BJ.cells 29 3 [.AO,.str [],.AO] false)::P:=⟨_,rfl⟩;have n0:BA 0 (.cells 9 1 [.str [110,117,109],.str [112,108,117,115]] false) ⟨[],5,0⟩=some ⟨Z,5,0⟩:=by subst q;rfl
 have n1:BA 1 (.cells 9 1 [.str [101],.str [112,108,117,115],.str [110,117,109]] false) ⟨Z,5,0⟩=some ⟨h1,5,0⟩:=by subst t q;rfl
 have n2:BA 2 (.cells 9 1 [.str [110,117,109]] false) ⟨h1,5,0⟩=some ⟨V,5,0⟩:=by subst A t q;rfl
 have n3:BA 3 (.cells 63 3 [.str [101],.AU 1 0 3 (some 3),.int .i64 0,.str [101],.AU 2 0 1 (some 1),.int .i64 0] false) ⟨V,5,0⟩=some ⟨P,5,0⟩:=by subst D A t q;rfl
 have n4:BA 4 (.cells 29 3 [.AO,.str [],.AO] false) ⟨P,5,0⟩=some ⟨h4,5,0⟩:=by subst K D A t q;rfl
 have s4:BM 3 (.AL 4 0) (.agg [.AU 0 0 2 (some 2),.str [101],.AU 3 0 2 (some 2)]) ⟨h4,5,0⟩=some (.undef,⟨Zj,5,0⟩):=by subst K D A t q;rfl
 refine NL (M.GU (R:=fun x=>x.1=.normal/\x.2.1.get 1=.AL 4 0/\x.2.2=⟨Zj,5,0⟩) (by simp[b0,b1,b2,b3,f1,f2,f3,n0,n1,n2,n3,n4,s4]) fun x n=>?_);obtain⟨e,c5,b8⟩:=x;obtain⟨c,d,b⟩:=n;simp only at c d b;subst b;refine⟨c,?_⟩;clear c;have O:Ak Zj (.AL 4 0) 3=some [.AU 0 0 2 (some 2),.str kE,.AU 3 0 2 (some 2)]:=rfl;have l5:Ak vP (.AL 4 0) 3=some [.AU 0 0 2 (some 2),.str kE,.AU 3 0 2 (some 2)]:=rfl;have l6:Ak vO (.AL 4 0) 3=some [.AU 0 0 2 (some 2),.str kE,.AU 3 0 2 (some 2)]:=rfl;have l7:Ak rE (.AL 4 0) 3=some [.AU 0 0 2 (some 2),.str kE,.AU 3 0 2 (some 2)]:=rfl;have l8:Ak rH8 (.AL 4 0) 3=some [.AU 0 0 2 (some 2),.str kE,.AU 3 0 2 (some 2)]:=rfl;have l9:Ak kz (.AL 4 0) 3=some [.AU 0 0 2 (some 2),.str kE,.AU 3 0 2 (some 2)]:=rfl;have F:AV.agg [.AU 0 0 2 (some 2),.str kE,.AU 3 0 2 (some 2)]=rG:=rfl;refine NL (M.GU (R:=fun x=>x.1=.normal/\x.2.1.get 1=.AL 4 0/\(∃w,x.2.1.get 2=w/\CV w=some 2)/\x.2.1.get 3=.int .i64 0/\x.2.2=⟨Zj,5,0⟩) ?_ fun x n=>?_)
 ·simp[d,O,F];refine M.RJ hW fun a y=>?_;obtain⟨v,S⟩:=a;obtain⟨l,j⟩:=y;simp only at l j;subst j;obtain⟨w,rfl,W⟩:=nR l;simp[H,d,W]
 obtain⟨e,c6,c0⟩:=x;obtain⟨c,d,⟨w,k,W⟩,g,b⟩:=n;simp only at c d k g b;subst b;refine⟨c,?_⟩;clear c;refine NL (M.GU (R:=fun x=>x.1=.normal/\x.2.1.get 1=.AL 4 0/\x.2.1.get 2=w/\x.2.1.get 3=.int .i64 0/\(∃m,x.2.1.get 4=.int .i64 m/\4<m)/\x.2.1.get 5=.int .i64 0/\x.2.2=⟨Zj,5,0⟩) ?_ fun x n=>?_)
 ·simp[d,O,F];refine M.RJ hS fun a y=>?_;obtain⟨v,S⟩:=a;obtain⟨l,j⟩:=y;simp only at l j;subst j;obtain⟨m,rfl,T⟩:=uB l;simp[H,d,k,g,T]
 obtain⟨e,a8,a6⟩:=x;obtain⟨c,d,k,g,⟨m,o,T⟩,p,b⟩:=n;simp only at c d k g o p b;subst b;refine⟨c,?_⟩;clear c;have b5:BC 5 9 1 3 [.str [],.str [],.str []] [0,1,2] [.str [110,117,109],.str [112,108,117,115],.str [110,117,109]]=some (.AU 5 0 3 (some 3),.cells 9 1 [.str [110,117,109],.str [112,108,117,115],.str [110,117,109]] false):=rfl;have n5:BA 5 (.cells 9 1 [.str [110,117,109],.str [112,108,117,115],.str [110,117,109]] false) ⟨Zj,6,0⟩=some ⟨vP,6,0⟩:=rfl;refine NL (M.GU (R:=fun x=>x.1=.normal/\x.2.1.get 1=.AL 4 0/\x.2.1.get 2=w/\x.2.1.get 3=.int .i64 0/\x.2.1.get 4=.int .i64 m/\x.2.1.get 5=.int .i64 0/\x.2.1.get 6=.bool true/\x.2.1.get 8=.int .i64 0/\x.2.2=⟨vP,6,0⟩) ?_ fun x n=>?_)
 ·simp[d,O,F,b5,n5];refine M.RJ hA fun a y=>?_;obtain⟨v,S⟩:=a;obtain⟨l,j⟩:=y;simp only at l j;subst j;obtain⟨m2,rfl⟩:=dH l;simp[H,d,k,g,o,p]
 obtain⟨e,c4,a3⟩:=x;obtain⟨c,d,k,g,o,p,z,u,b⟩:=n;simp only at c d k g o p z u b;subst b;refine⟨c,?_⟩;clear c;have b6:BC 6 9 1 2 [.str [],.str []] [0,1] [.str [110,117,109],.str [110,117,109]]=some (.AU 6 0 2 (some 2),.cells 9 1 [.str [110,117,109],.str [110,117,109]] false):=rfl;have n6:BA 6 (.cells 9 1 [.str [110,117,109],.str [110,117,109]] false) ⟨vP,7,0⟩=some ⟨vO,7,0⟩:=rfl;have f6:Bp [.int .i64 0,.int .i64 0,.int .i64 0] [(0,1),(1,1),(2,1)] [.int .i64 1,.int .i64 1,.int .i64 1]=some [.int .i64 1,.int .i64 1,.int .i64 1]:=rfl;refine NL (M.GU (R:=fun x=>x.1=.normal/\x.2.1.get 1=.AL 4 0/\x.2.1.get 2=w/\x.2.1.get 3=.int .i64 0/\x.2.1.get 4=.int .i64 m/\x.2.1.get 5=.int .i64 0/\x.2.1.get 6=.bool true/\x.2.1.get 8=.int .i64 0/\x.2.1.get 9=.int .i64 1/\x.2.1.get 10=.int .i64 0/\x.2.2=⟨vO,7,0⟩) ?_ fun x n=>?_)
 ·simp[d,l5,F,b6,n6,f6];refine M.RJ hD fun a y=>?_;obtain⟨v,S⟩:=a;obtain⟨l,j⟩:=y;simp only at l j;subst j;obtain rfl:=Zr l;simp[H,d,k,g,o,p,z,u]
 obtain⟨e,a5,a2⟩:=x;obtain⟨c,d,k,g,o,p,z,u,B,f,b⟩:=n;simp only at c d k g o p z u B f b;subst b;refine⟨c,?_⟩;clear c;have f7:Bp [.str [],.str [],.str []] [(0,1),(2,1)] [.str [110,117,109],.str [49]]=some [.str [110,117,109],.str [],.str [49]]:=rfl;have b7:BC 7 99 3 1 [.str [],.str [],.str []] [0] [.agg [.str [110,117,109],.str [],.str [49]]]=some (.AU 7 0 1 (some 1),.cells 99 3 [.str [110,117,109],.str [],.str [49]] false):=rfl;have n7:BA 7 (.cells 99 3 [.str [110,117,109],.str [],.str [49]] false) ⟨vO,9,0⟩=some ⟨rE,9,0⟩:=rfl;have n8:BA 8 (.cells 102 5 [.int .i64 0,.str [],.str [],.str [],.AO] false) ⟨rE,9,0⟩=some ⟨(8,.cells 102 5 [.int .i64 0,.str [],.str [],.str [],.AO] false)::rE,9,0⟩:=rfl;have s8:BM 5 (.AL 8 0) rT ⟨(8,.cells 102 5 [.int .i64 0,.str [],.str [],.str [],.AO] false)::rE,9,0⟩=some (.undef,⟨rH8,9,0⟩):=rfl;refine NL (M.GU (R:=fun x=>x.1=.normal/\x.2.1.get 1=.AL 4 0/\x.2.1.get 2=w/\x.2.1.get 3=.int .i64 0/\x.2.1.get 4=.int .i64 m/\x.2.1.get 5=.int .i64 0/\x.2.1.get 6=.bool true/\x.2.1.get 8=.int .i64 0/\x.2.1.get 9=.int .i64 1/\x.2.1.get 10=.int .i64 0/\x.2.1.get 11=.AL 8 0/\x.2.1.get 13=.int .i64 0/\x.2.2=⟨rH8,9,0⟩) ?_ fun x n=>?_)
 ·simp[d,l6,F,b7,n7,f7];refine M.RJ hP fun a y=>?_;obtain⟨v,S⟩:=a;obtain⟨l,j⟩:=y;simp only at l j;subst j;obtain rfl:=nT l;simp[H,d,k,g,o,p,z,u,B,f,n8,s8]
 obtain⟨e,c2,a7⟩:=x;obtain⟨c,d,k,g,o,p,z,u,B,f,L,s,b⟩:=n;simp only at c d k g o p z u B f L s b;subst b;refine⟨c,?_⟩;clear c;have a1:Ak rH8 (.AL 8 0) 5=some rT.cells:=rfl;have c1:Ak kz (.AL 8 0) 5=some rT.cells:=rfl;have eT:AV.agg rT.cells=rT:=rfl;have b9:BC 9 99 3 1 [.str [],.str [],.str []] [0] [.agg [.str [110,117,109],.str [],.str [49]]]=some (.AU 9 0 1 (some 1),.cells 99 3 [.str [110,117,109],.str [],.str [49]] false):=rfl;have n9:BA 9 (.cells 99 3 [.str [110,117,109],.str [],.str [49]] false) ⟨rH8,11,0⟩=some ⟨kz,11,0⟩:=rfl;have U:BA 10 (.cells 107 2 [.int .i64 0,.int .i64 0] false) ⟨kz,11,0⟩=some ⟨(10,.cells 107 2 [.int .i64 0,.int .i64 0] false)::kz,11,0⟩:=rfl;have Q:BM 2 (.AL 10 0) (.agg [.int .i64 1,.int .i64 1]) ⟨(10,.cells 107 2 [.int .i64 0,.int .i64 0] false)::kz,11,0⟩=some (.undef,⟨(10,.cells 107 2 [.int .i64 1,.int .i64 1] false)::kz,11,0⟩):=rfl;refine NL (M.GU (R:=fun x=>x.1=.normal/\x.2.1.get 2=w/\x.2.1.get 3=.int .i64 0/\x.2.1.get 4=.int .i64 m/\x.2.1.get 5=.int .i64 0/\x.2.1.get 6=.bool true/\x.2.1.get 8=.int .i64 0/\x.2.1.get 9=.int .i64 1/\x.2.1.get 10=.int .i64 0/\x.2.1.get 13=.int .i64 0/\x.2.1.get 14=.AL 10 0/\x.2.1.get 15=.int .i64 0/\x.2.2=⟨(10,.cells 107 2 [.int .i64 1,.int .i64 1] false)::kz,11,0⟩) ?_ fun x n=>?_)
 ·simp[d,L,l8,a1,F,eT,b9,n9,f7];refine M.RJ hR fun a y=>?_;obtain⟨v,S⟩:=a;obtain⟨l,j⟩:=y;simp only at l j;subst j;obtain rfl:=nS l;simp[H,k,g,o,p,z,u,B,f,s,U,Q]
 obtain⟨e,a4,b4⟩:=x;obtain⟨c,k,g,o,p,z,u,B,f,s,I,J,b⟩:=n;simp only at c k g o p z u B f s I J b;subst b;refine⟨c,?_⟩;clear c;have N:Ak ((10,BJ.cells 107 2 [.int .i64 1,.int .i64 1] false)::kz) (.AL 10 0) 2=some [.int .i64 1,.int .i64 1]:=rfl;have a0:Bp [.int .i64 0,.int .i64 0] [(0,1),(1,1)] [.int .i64 1,.int .i64 1]=some [.int .i64 1,.int .i64 1]:=rfl;have Y:Uz false (.key (.many [.int,.int])) (.agg [.int .i64 1,.int .i64 1]) (.agg [.int .i64 1,.int .i64 1])=some (.bool true):=rfl;simp[ABT,k,W,Y,g,p,o,T,u,z,f,B,s,J,I,N,a0,BZ]
theorem mM{call:Nat->List AV->St->M (AV×St)}{g:St}(h:True/\(Bc E call C.f13.body (TS.FK [] 0 .nil) ⟨[],0,0⟩).all fun x=>x.1=.ret/\x.2.1.get 0=.bool true) :
 True/\((Gt E call C.f13 [] ⟨[],0,0⟩).bind (BU 0 g)).all fun r=>r=(.bool true,g):=by
 refine⟨trivial,?_⟩;rw[Ap (by simp)];have a:C.f13.results=[.tmp 0]:=rfl;rw[a];refine M.RJ (R:=fun r=>r.1=.bool true) (M.RJ h.2 fun x i=>?_) fun r d=>?_
 ·obtain⟨e,j,b⟩:=x;obtain⟨c,f⟩:=i;simp only at c f;subst c;simp[Al,results,Af,f]
 ·obtain⟨v,b⟩:=r;simp only at d;subst d;rw[Jk rfl];rfl
theorem rq{n:Nat}(a:37=n)(b:St):True/\(Ab E (n+2) 13 [] b).all fun r=>r=(.bool true,b):=by
 have f:=qz a 0;have d:=wJ a 0;have h:=kL a 0;have e:=df a 0;have g:=sD a 0;have c:=rR a 0;rw[GH (fn:=C.f13) rfl rfl rfl rfl];generalize Ab E (n+1)=call at *
 exact mM (mO f d h e g c)
theorem xq{m:M (AV×St)}(h:dB (Xf m)=true):∃t l b,(∀d,m.bind (BU 0 d)=.ret (.list t 3 l,d))/\Oj l=some b/\b.length=12/\∀g∈b,OZ g=true:=by
 unfold dB at h;split at h
 ·rename_i b a;unfold Xf at a;split at a
  ·rename_i r;split at a
   ·rename_i t l c;simp only[Aq,Aw,Fj]at h;refine⟨t,l,b,fun d=>?_,a,h.1,h.2⟩;simp only[M.bind,BU,c]
   ·cases a
  ·cases a
 ·cases h
theorem nN(n:Nat)(a:39=n):dB (Xf (Gt E (Ab E n) C.f40 [] ⟨[],0,0⟩))=true:=a▸nM
theorem tZ{n:Nat}(d:39=n)(k:Nat):kV (n+1+k):=by obtain⟨t,l,b,c,a⟩:=xq (nN n d);refine⟨t,l,b,fun st=>?_,a⟩;refine pJ ?_ k;rw[GH (E:=E) (n:=n) (f:=40) (args:=[]) (st:=st) (fn:=C.f40) rfl rfl rfl rfl];exact c st
theorem rX{n:Nat}(b:39=n)(k:Nat):VR (Pj (n+1+k)) (n+2+k):=by
 have e:n+2+k=(n+k-3)+5:=by omega
 have a:n+1+k=(n+k-3)+4:=by omega
 rw[e,a];refine rW ?_;rw[show n+k-3+4=n+1+k by omega];exact tZ b k
theorem ABV{n o:Nat}(r:39=n)(k:Nat){e:AV}{i:List Int}{a:Int}{b:St}(q:RO b o e a)(s:GI e i)(t:0<=a/\a<10000)(j:o<b.c)(p:HB b)(l:HO b)(f:b.lo<=o) :
 ∃v g m d,Ab E (n+3+k) 4 [.AL o 0] b=.ret (v,d)/\d.c=b.c/\Fa b.c o e (a+m) b d/\GD v g/\XW (Pj (n+1+k)) i a g/\g.Small/\0<=m/\m<=200:=by
 have h:=rX r k;rw[show n+2+k=(n+k-3)+5 by omega]at h;rw[show n+3+k=(n+k-3)+6 by omega];exact ABU h q s t j p l f
end Go.Am
namespace Go.Am
 attribute [local irreducible] bigK
open Go
theorem ma{c:Nat}{l:List AV}(h:∀x∈l,AV.CY c x=true):AV.Dq c l=true:=by
 induction l with
 |nil=>rfl
 |cons x l a=>simp only[AV.Dq,Aq];exact⟨h x (by simp),a fun y b=>h y (Cu _ b)⟩
theorem pF{E:Env}{n f:Nat}{args:List AV}{a:St}{Q:AV×St->Prop}(h:True/\(Ab E n f args a).all Q)(k b:Nat)(c:b=n+k):True/\(Ab E b f args a).all Q:=
 ⟨trivial,by subst c;exact ZY h.2 k⟩
theorem mP{n F:Nat}(b:39=n)(c:n+3=F)(a:St):True/\(Ab E F 13 [] a).all fun r=>r=(.bool true,a):=
 pF (rq (n:=n-2) (by omega) a) 3 F (by omega)
theorem AAo{v:AV}{i:List Int}(e:GI v i):∃n,(Ab E n 3 [v] ⟨[],0,0⟩).all fun r=>r.1=.bool true:=by
 obtain⟨n,l⟩:∃n,39=n:=⟨39,rfl⟩;obtain⟨F,O⟩:∃F,n+3=F:=⟨_,rfl⟩;obtain⟨m,I⟩:∃m,F=m+30:=⟨F-30,by omega⟩;have k:∀c,v.CY c=true:=fun c=>by
  rcases e.sl.out with⟨rfl,_⟩|⟨t,rfl⟩
  ·rfl
  ·refine ma fun x H=>?_;obtain⟨z,_,rfl⟩:=BP.1 H;rfl
 have h:v.isTuple=false/\v.cells=[v]:=by rcases e.sl.out with⟨rfl,_⟩|⟨t,rfl⟩<;>exact⟨rfl,rfl⟩
 have A:∀{a:St} {o:Nat},RO a o v 0->o<a.c->HB a->HO a->a.lo<=o->∃w g b d,Ab E F 4 [.AL o 0] a=.ret (w,d)/\d.c=a.c/\Fa a.c o v (0+b) a d/\GD w g/\XW (Pj (n+1+0)) i 0 g/\g.Small:=fun {a o} j f D u y=>by obtain⟨w,g,b,d,p,B,J,L,q,s,_⟩:=ABV l 0 j e ⟨by omega,by omega⟩ f D u y;rw[show n+3+0=F by omega]at p;exact⟨w,g,b,d,p,B,J,L,q,s⟩
 have K:∀a,(Ab E F 13 [] a).all fun r=>r=(.bool true,a):=fun a=>(mP l (by omega) a).2;exact⟨F+1,tY (P:=fun g=>XW (Pj (n+1+0)) i 0 g) I e k h (fun Q N j f=>XW.one Pj.one j f) A K⟩
end Go.Am
namespace Go.Am
open Go Go.Proofs
theorem sound:Sound G:=⟨fol,fun f fn h=>ADI h,fun f g h=>AFq h⟩
theorem AFr:qo 3:=fun v a h=>by
 have b:GI v a:=by
  rcases h with⟨rfl,rfl⟩|⟨t,rfl⟩
  ·exact⟨⟨.inl ⟨rfl,rfl⟩⟩⟩
  ·exact⟨⟨.inr ⟨t,rfl⟩⟩⟩
 exact AAo b
end Go.Am
namespace Go.Proofs.YthnghmpbgomacaaGreatDoor
open Go Go.Proofs
theorem tablesStay_holds:Rows.TablesStayCardSaid:=Go.Am.XI Go.Am.sound Go.Am.AFr
end Go.Proofs.YthnghmpbgomacaaGreatDoor
#print axioms Go.Proofs.YthnghmpbgomacaaGreatDoor.tablesStay_holds
