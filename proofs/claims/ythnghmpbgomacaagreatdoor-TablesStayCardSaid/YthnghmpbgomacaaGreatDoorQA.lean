/- A part of tablesStay. -/
import Derived.Test.YthnghmpbgomacaaGreatDoorQ9
set_option maxHeartbeats 4000000
section
set_option exponentiation.threshold 20000
namespace Go.Am
 attribute [local irreducible] bigK
open Go
theorem Xv{f:AV->Option AV}:∀{us:List AV},(∀u∈us,∃v,f u=some v)->∃a,DD f us=some a/\a.length=us.length/\∀i (h:i<us.length),∃v,a[i]? =some v/\f us[i]=some v
 |[],_=>⟨[],rfl,rfl,fun i h=>by simp at h⟩
 |u::us,H=>by
  obtain⟨v,b⟩:=H u DN;obtain⟨a,j,c,d⟩:=Xv (us:=us) fun x e=>H x (Cu _ e);refine⟨v::a,by simp[DD,b,j],by simp[c],fun i h=>?_⟩;cases i with
  |zero=>exact⟨v,rfl,b⟩
  |succ i=>obtain⟨x,g,k⟩:=d i (by simpa using h);exact⟨x,by simpa using g,by simpa using k⟩
theorem ACP{B:List Nat}{m:Nat}(a:∀x∈B,x<=m):B.sum<=B.length*m:=by
 induction B with
 |nil=>simp
 |cons x B b=>have d:=a x DN;have:=b fun y c=>a y (Cu _ c);rw[List.sum_cons,FV,Il];omega
theorem ABN{m:Nat}(h:m<2^9000):m<E.k:=Nat.lt_trans h (by show 2^9000<bigK;unfold bigK;exact MN (by omega) (by omega))
section
variable {cv lw:AV}{g:Ac}{L:List Nat}
theorem SV.mu{n:Nat}{W:kQ}{q:List AV}{p:St}(S:SV cv lw n L W q p)(r:n<=12):tC W+1<2^9000:=by
 have g:tC W<=W.length*2^8001:=by
  unfold tC;have:=ACP (B:=W.map lI) (m:=2^8001) fun x d=>by
   obtain⟨o,k,rfl⟩:=BP.1 d;cases o with
   |none=>exact Ao _
   |some l=>
    obtain⟨i,c,e⟩:=Du k;have a:=S.lens i l (by rw[Bu c,e]);have b:=(S.UB i (by rw[S.ul,←S.wl];exact c)).2.2;have h:Ma W i=l:=by unfold Ma;simp[List.getD,c,e]
    rw[h]at b;exact Nat.le_of_lt (pz (fun x d=>by have:=b x d;omega) a.2)
  simpa using this
 have a:W.length*2^8001<=2^4*2^8001:=Im _ (by rw[S.wl];omega);have b:(2:Nat)^4*2^8001=2^8005:=by rw[←Nat.pow_add]
 have f:(2:Nat)^8005<2^8006:=MN (by omega) (by omega);have j:(2:Nat)^8006<2^9000:=MN (by omega) (by omega);rw[b]at a;exact SE (Nat.succ_le_succ (DV g a)) (SE f j)
def SPy(cv lw:AV)(n:Nat)(L:List Nat)(st:St):Prop:=∃W us,SV cv lw n L W us st
theorem Zh{k:Nat}(n:Gu cv g)(D:g.Small)(d:g.Ok)(l:Co lw 1 (BI L))(b:L.length=g.AB.length)(i:∀s,s<L.length->L.getD s 0<=2199023255552){m:kQ}{c:List AV}{st:St}(H:SV cv lw g.AB.length L m c st) :
 (Ab E (k+4) 107 [.AL 0 0,.AL 1 0,.AL 5 0,.AL 3 0] st).to fun x=>SPx cv lw g.AB.length L m x.1 x.2:=by
 obtain⟨P,p,Q,J,S,w,K,o,t,A,O,R,N⟩:=n.out;rw[Av (fn:=C.f107) rfl rfl rfl,Ap (by simp)];have r:AQ st.h (.AL 0 0)=some cv:=by rw[AR H.b0];rfl
 have f:∀a:St,BZ .slice p a=some (.int .i64 (g.AP.length:Int),a):=fun a=>by have:=o.len (st:=a);rw[this,t]
 rw[w]at r;simp[-Bool.exists_bool,-List.getD_eq_getElem?_getD,C.f107,r,f];refine M.BG (YG (k:=k) n D d l b i p J o t A H _ (by simp) (by simp) (by simp) (by simp) (by simp) (by simp) (by simp) (by simp)) fun x F=>?_;obtain⟨e,B,z⟩:=x;obtain⟨q,W,I,more,v,u,j,y⟩:=F;simp only at q v u;subst q;simp[-Bool.exists_bool,-List.getD_eq_getElem?_getD,v,Al,results,Af];exact⟨W,I,more,rfl,u,j,y⟩
theorem YH{k:Nat}(z:Gu cv g)(t:g.Small)(p:g.Ok)(r:Co lw 1 (BI L))(m:L.length=g.AB.length)(q:∀s,s<L.length->L.getD s 0<=2199023255552){j:kQ}{d:List AV}{b:St}(H:SV cv lw g.AB.length L j d b) :
 (Ab E (k+5) 104 [.fn (.func 107) [] [.AL 0 0,.AL 1 0,.AL 5 0,.AL 3 0]] b).to fun x=>SPy cv lw g.AB.length L x.2:=by
 rw[Av (fn:=C.f104) rfl rfl rfl,Ap (by simp)];simp[-Bool.exists_bool,-List.getD_eq_getElem?_getD,C.f104];refine M.BG (Df (fun (n:Nat) i b=>i.get 0=.fn (.func 107) [] [.AL 0 0,.AL 1 0,.AL 5 0,.AL 3 0]/\∃W w,SV cv lw g.AB.length L W w b/\tC W<n)
  (fun n=>n) (fun e i b=>e=.exit 0/\SPy cv lw g.AB.length L b) ?step _ (tC j+1) _ _ ?_ ?_) ?_
 case step=>
  rintro n i b ⟨u,W,w,H,l⟩;have pass:=Zh (k:=k) z t p r m q H;simp[-Bool.exists_bool,-List.getD_eq_getElem?_getD,C.f104L0,u];refine M.BG pass fun x B=>?_;obtain⟨v,o⟩:=x;obtain⟨y,f,a,h,c,D,A⟩:=B;simp only at h c;subst h;cases a with
  |true=>simp[-Bool.exists_bool,-List.getD_eq_getElem?_getD,u];exact⟨tC W,l,y,⟨f,c⟩,A rfl⟩
  |false=>simp[-Bool.exists_bool,-List.getD_eq_getElem?_getD];exact⟨y,f,c⟩
 ·exact ABN (H.mu (Ue t))
 ·exact⟨by simp,j,d,H,Nat.lt_succ_self _⟩
 ·rintro⟨e,i,o⟩ ⟨h,c⟩;simp only at h c;subst h;simp[-List.getD_eq_getElem?_getD,Al,results,Af];exact c
theorem tH{o n:Nat}(b:n<=1000):Dy o 22 1 24 [.AO] (.int .i64 (n:Int)) (.int .i64 (n:Int))=some (.AU o 0 n (some n),.cells 22 1 (List.replicate n .AO) false):=by
 have a:n*24<=room/\n<=room:=by unfold room;constructor<;>omega
 simp[Dy,Bg,ble_eq,blt_eq,a.1,a.2,Iq]
theorem bS{k:Nat}{st:St}(hC:Gu cv g)(F:g.Small)(b4:g.Ok)(K:Co lw 1 (BI L))(c9:L.length=g.AB.length)(d1:∀s,s<L.length->L.getD s 0<=2199023255552)(c3:∀s,s<g.Ae.length->L.getD s 0=1) :
 ∃w xs,Ab E (k+6) 58 [cv,lw] st=.ret (w,st)/\Co w 1 xs/\xs.length=g.AB.length/\∀s,s<g.AB.length->∃u l,xs[s]? =some u/\Co u 1 (BI l)/\(∀x∈l,x<g.AB.length)/\l.length<=L.getD s 0:=by
 have a5:=hC.Ow 0;have Z:=K.wh 0;have d2:=Ue F;obtain⟨nv,rv,ov,lr,d6,e0,j,_⟩:=hC.out;rw[GH (fn:=C.f58) rfl rfl rfl (by simp[AV.Dq,a5,Z]),Ap (by simp)];obtain⟨n,hn⟩:∃n,n=g.AB.length:=⟨_,rfl⟩;have b1:∀S':St,BZ .slice nv S'=some (.int .i64 (n:Int),S'):=fun S'=>by have:=j.len (st:=S');rw[hn];simpa using this
 have bx:Ls 0 76 1 cv=some (.AL 0 0,.cells 76 1 [cv] false):=by rw[e0];rfl
 have c0:Ls 1 22 1 lw=some (.AL 1 0,.cells 22 1 [lw] false):=by rcases K.out with⟨rfl,_⟩|⟨t,rfl⟩<;>rfl
 have mk:=tH (o:=2) (n:=n) (by omega);have d0:=Ye (o:=4) (n:=n) (by omega);obtain⟨H0,B⟩:∃H0:Aa,H0=[(0,.cells 76 1 [cv] false)]:=⟨_,rfl⟩;have t0:CL H0<=1:=by rw[B,Ay];exact⟨by omega,by simp[CL]⟩
 have n0:∀c,BA 0 (.cells 76 1 [cv] false) ⟨[],c,0⟩=some ⟨H0,c,0⟩:=fun c=>by rw[B];rfl
 obtain⟨H1,q⟩:∃H1:Aa,H1=(1,.cells 22 1 [lw] false)::H0:=⟨_,rfl⟩;have t1:CL H1<=2:=by rw[q,Ay];omega
 have n1:∀c,BA 1 (.cells 22 1 [lw] false) ⟨H0,c,0⟩=some ⟨H1,c,0⟩:=fun c=>by rw[q];exact BF t0
 obtain⟨Y,r⟩:∃Y:Aa,Y=(2,.cells 22 1 (List.replicate n .AO) false)::H1:=⟨_,rfl⟩;have t2:CL Y<=3:=by rw[r,Ay];omega
 have n2:∀c,BA 2 (.cells 22 1 (List.replicate n .AO) false) ⟨H1,c,0⟩=some ⟨Y,c,0⟩:=fun c=>by rw[r];exact BF t1
 obtain⟨V,R⟩:∃V:Aa,V=(3,.cells 83 1 [.AO] false)::Y:=⟨_,rfl⟩;have n3:∀c,BA 3 (.cells 83 1 [.AO] false) ⟨Y,c,0⟩=some ⟨V,c,0⟩:=fun c=>by rw[R];exact BF t2
 obtain⟨J,b⟩:∃J:Aa,J=(3,.cells 83 1 [.AU 2 0 n (some n)] false)::Y:=⟨_,rfl⟩;have t4:CL J<=4:=by rw[b,Ay];omega
 have s3:∀c,BM 1 (.AL 3 0) (.AU 2 0 n (some n)) ⟨V,c,0⟩=some (.undef,⟨J,c,0⟩):=fun c=>by
  have f3:AA V 3=some (.cells 83 1 [.AO] false):=by rw[R];exact BV rfl
  rw[Oz (c:=c) (lo:=0) f3 (CZ _) (i:=0) (by simp) (x:=.AU 2 0 n (some n)) rfl rfl,R,b];simp[Ah]
 obtain⟨P,d⟩:∃P:Aa,P=(4,.cells 4 1 (Cj (List.replicate n false)) false)::J:=⟨_,rfl⟩;have t5:CL P<=5:=by rw[d,Ay];omega
 have n5:∀c,BA 4 (.cells 4 1 (Cj (List.replicate n false)) false) ⟨J,c,0⟩=some ⟨P,c,0⟩:=fun c=>by rw[d];exact BF t4
 obtain⟨H6,O⟩:∃H6:Aa,H6=(5,.cells 77 1 [.AO] false)::P:=⟨_,rfl⟩;have n6:∀c,BA 5 (.cells 77 1 [.AO] false) ⟨P,c,0⟩=some ⟨H6,c,0⟩:=fun c=>by rw[O];exact BF t5
 obtain⟨y,a⟩:∃y:Aa,y=(5,.cells 77 1 [.AU 4 0 n (some n)] false)::P:=⟨_,rfl⟩;have t7:CL y<=6:=by rw[a,Ay];omega
 have s7:∀c,BM 1 (.AL 5 0) (.AU 4 0 n (some n)) ⟨H6,c,0⟩=some (.undef,⟨y,c,0⟩):=fun c=>by
  have f3:AA H6 5=some (.cells 77 1 [.AO] false):=by rw[O];exact BV rfl
  rw[Oz (c:=c) (lo:=0) f3 (CZ _) (i:=0) (by simp) (x:=.AU 4 0 n (some n)) rfl rfl,O,a];simp[Ah]
 have c5:∀x,Ma (List.replicate n none) x=[]:=fun x=>by unfold Ma;simp only[List.getD,NW];split<;>rfl
 have S0:SV cv lw n L (List.replicate n none) (List.replicate n .AO) ⟨y,6,0⟩:=by
  refine⟨rfl,Ao _,t7,?_,?_,?_,?_,?_,?_,by simp,by simp,fun s F=>?_,fun s l h=>?_⟩
  ·show AA y 0=_;rw[a,Ar (by omega),d,Ar (by omega),b,Ar (by omega),r,Ar (by omega),q,Ar (by omega),B];exact BV rfl
  ·show AA y 1=_;rw[a,Ar (by omega),d,Ar (by omega),b,Ar (by omega),r,Ar (by omega),q];exact BV rfl
  ·show AA y 2=_;rw[a,Ar (by omega),d,Ar (by omega),b,Ar (by omega),r];exact BV rfl
  ·show AA y 3=_;rw[a,Ar (by omega),d,Ar (by omega),b];exact BV rfl
  ·show AA y 4=_;rw[a,Ar (by omega),d,BV rfl];simp
  ·show AA y 5=_;rw[a];exact BV rfl
  ·rw[c5];simp only[List.getElem_replicate];exact⟨Gq.nl,fun (p:Nat) (hp:Az AV.AO=some p)=>by (simp[Az]at hp),fun (x:Nat) (Q:x∈([]:List Nat))=>by (simp at Q)⟩
  ·rw[NW]at h;split at h<;>cases h
 have goal:((Bc E (Ab E (k+5)) C.f58.body (TS.FK [cv,lw] 0 .nil) ⟨[],0,0⟩).bind (Al C.f58.results)).to fun x=>x.1=.AU 2 0 n (some n)/\SPy cv lw n L x.2:=by
  have T:∀h:Aa,AA h 0=some (.cells 76 1 [cv] false)->AQ h (.AL 0 0)=some cv:=fun h hf=>by rw[AR hf];rfl
  have b6:AQ H1 (.AL 0 0)=some cv:=T _ (by rw[q,Ar (by omega),B];exact BV rfl);have c7:AQ J (.AL 0 0)=some cv:=T _ (by rw[b,Ar (by omega),r,Ar (by omega),q,Ar (by omega),B];exact BV rfl);have b8:AQ y (.AL 0 0)=some cv:=T _ S0.b0;have a4:∀st:St,DT cv st=some (cv,st):=fun st=>by rw[e0];rfl
  have b7:∀st:St,Cx 0 cv st=some (.CB [nv,.int .i64 (g.Ae.length:Nat),.int .i64 (g.ix g.Ai:Nat),rv,ov,.CR (Bf g.AB) (BI (List.range g.AB.length))],st):=fun st=>by rw[e0];rfl
  have a2:∀st:St,Cx 1 cv st=some (.CB [.int .i64 (g.Ae.length:Nat),.int .i64 (g.ix g.Ai:Nat),rv,ov,.CR (Bf g.AB) (BI (List.range g.AB.length))],st):=fun st=>by rw[e0];rfl
  simp[C.f58,bx,c0,n0,n1,b6,a4,b7,b1,mk,n2,n3,s3,c7,d0,n5,n6,s7,b8,a2];refine M.BG (Df (fun (i:Nat) ts st=>i<=g.Ae.length/\Has ts [(2,.AL 0 0),(3,.AL 1 0),(5,.AL 3 0),(6,.AL 5 0),(23,.int .i64 (g.Ae.length:Int)),(24,.int .i64 (i:Int))]/\SPy cv lw n L st) (fun i=>g.Ae.length-i) (fun e ts st=>e=.exit 0/\Has ts [(2,.AL 0 0),(3,.AL 1 0),(5,.AL 3 0),(6,.AL 5 0)]/\SPy cv lw n L st) ?_ _ 0 _ _ ?_ ?_) ?_
  ·rintro i ts ⟨h,c,lo⟩ ⟨hi,A,W,us,H⟩;have a1:=H.lo;simp only at a1;subst a1;simp only[Be,CG,BX]at A;obtain⟨z2,z3,z5,z6,a3,a6⟩:=A;by_cases Bi:i<g.Ae.length
   ·have d3:g.AB.length=g.Ae.length+g.Km.length:=by simp[Ac.AB]
    have N:i<n:=by omega
    have c6:6<=c:=H.c6;have tp:CL h<=c:=H.tp;have lit:BC c 3 1 1 [.int .i64 0] [0] [.int .i64 (i:Int)]=some (.AU c 0 1 (some 1),.cells 3 1 [.int .i64 (i:Int)] false):=rfl;obtain⟨j,D⟩:∃j:Aa,j=(c,.cells 3 1 [.int .i64 (i:Int)] false)::h:=⟨_,rfl⟩;have nn:BA c (.cells 3 1 [.int .i64 (i:Int)] false) ⟨h,c+1,0⟩=some ⟨j,c+1,0⟩:=by rw[D];exact BF tp
    have c1:CL j<=c+1:=by rw[D,Ay];omega
    have I:SV cv lw n L W us ⟨j,c+1,0⟩:=H.grow (by omega) c1 fun p hp=>by rw[D,Ar (by omega)]
    have G:Gq j 3 1 Fx (.AU c 0 1 (some 1)) [i]:=by
     have f:AA j c=some (.cells 3 1 (([i]:List Nat).flatMap Fx++[]) false):=by rw[D];exact BV rfl
     exact Gq.ob (enc:=Fx) c [i] [] false (some (1+0)) f (.inr ⟨0,rfl,rfl⟩)
    obtain⟨h2,h3,p1,p2,fr,V⟩:=I.put (s:=i) (w:=.AU c 0 1 (some 1)) (l:=[i]) N G (fun p hp=>by simp[Az]at hp;omega) (fun x Q=>by simp at Q;omega) (by rw[c3 i Bi];rfl) (by simp);have b3:AA h 3=some (.cells 83 1 [.AU 2 0 n (some n)] false):=H.b3;have b5:AA h 5=some (.cells 77 1 [.AU 4 0 n (some n)] false):=H.b5;have d7:AA j 3=some (.cells 83 1 [.AU 2 0 n (some n)] false):=I.b3;have a0:AA j 5=some (.cells 77 1 [.AU 4 0 n (some n)] false):=I.b5;have a8:AA j 2=some (.cells 22 1 us false):=I.Pv;have c8:AA j 4=some (.cells 4 1 (Cj (W.map Option.isSome)) false):=I.kf;have r3:AQ h (.AL 3 0)=some (.AU 2 0 n (some n)):=by rw[AR b3];rfl
    have r5:AQ h (.AL 5 0)=some (.AU 4 0 n (some n)):=by rw[AR b5];rfl
    have d4:AQ j (.AL 5 0)=some (.AU 4 0 n (some n)):=by rw[AR a0];rfl
    have a9:AQ h2 (.AL 5 0)=some (.AU 4 0 n (some n)):=by rw[AR ((fr 5 (by omega)).trans a0)];rfl
    have b2:=fun cc=>KQ (c:=cc) (lo:=0) a8 N;have c4:=fun cc=>KQ (c:=cc) (lo:=0) ((fr 4 (by omega)).trans c8) N;simp[-Bool.exists_bool,C.f58L0,z2,z3,z5,z6,a3,a6,Bi,r3,r5,lit,nn,b2,p1,a9,c4,p2,Dp,DX,Dl,Cc,Ci,DK,beq_eq,AV.DU,wi i];exact⟨i+1,by omega,by omega,by simp,_,_,V⟩
   ·have:i=g.Ae.length:=by omega
    subst this;simp[C.f58L0,z2,z3,z5,z6,a3,a6];exact⟨W,us,H⟩
  ·exact FX (by show g.Ae.length-0<1000000;have:=F.Ae;omega)
  ·exact⟨by omega,by simp,_,_,S0⟩
  ·rintro⟨e,ts,z⟩ ⟨rfl,A,W,us,H⟩;simp only[Be,CG,BX]at A;obtain⟨z2,z3,z5,z6⟩:=A;have gr:=YH (k:=k) hC F b4 K c9 d1 (hn▸H);rw[←hn]at gr;simp[z2,z3,z5,z6];refine M.BG gr fun x Q=>?_;obtain⟨v,b9⟩:=x;obtain⟨W',c2,I⟩:=Q;simp only at I;have ri:AQ b9.h (.AL 3 0)=some (.AU 2 0 n (some n)):=by rw[AR I.b3];rfl
   simp[ri,Al,results,Af];exact⟨W',c2,I⟩
 obtain⟨⟨v,z⟩,e,e1,W,us,S⟩:=goal;simp only at e1 S;subst e1;have each:∀s (F:s<us.length),∃v,(∀m,Ce 0 z.h (m+2) us[s]=some v)/\Co v 1 (BI (Ma W s)):=fun s F=>by
  obtain⟨g1,g2,g3⟩:=S.UB s F;have e:(Ma W s).flatMap Fx=BI (Ma W s):=by show (Ma W s).flatMap (fun n:Nat=>[AV.int .i64 (n:Int)])=_;simp[BI,MM]
  exact pW (c:=0) (el:=fun n:Nat=>AV.int .i64 (n:Int)) g1 (fun _=>rfl) (by omega) (fun _ _=>CZ _) (by rw[e];exact Tq 0 _) (by
   rw[e]
   have:=Jw (BI (Ma W s))
   rwa [PL]at this)
 obtain⟨vs,v1,v2,v3⟩:=Xv (f:=Ce 0 z.h 63) (us:=us) fun u hu=>by obtain⟨s,F,rfl⟩:=Du hu;obtain⟨v,e1,_⟩:=each s F;exact⟨v,e1 61⟩
 have a7:us.length=n:=S.ul;have th:Ce 0 z.h Ck (.AU 2 0 n (some n))=some (.list (tight (some n) n) 1 vs):=by show Ce 0 z.h (63+1) _=_;rw[Gh (CZ _) S.Pv (by omega) (by omega) (cs':=vs) (by rw[FB,Fe,←a7,FQ];exact v1)];rw[←a7,←v2,Jw];rfl
 refine⟨.list (tight (some n) n) 1 vs,vs,?_,⟨.inr ⟨_,rfl⟩⟩,by omega,fun s d5=>?_⟩
 ·rw[e];simp[BU,th]
 ·have U:s<us.length:=by omega
  obtain⟨v,e1,e2⟩:=each s U;obtain⟨v',e3,e4⟩:=v3 s U;rw[e1 61,Ct]at e4;subst e4;obtain⟨g1,g2,g3⟩:=S.UB s U;refine⟨v,Ma W s,e3,e2,fun x Q=>by have:=g3 x Q;omega,?_⟩;have hW:s<W.length:=by rw[S.wl];omega
  cases hk:W[s] with
  |none=>
   have:Ma W s=[]:=by unfold Ma;simp[List.getD,hW,hk]
   rw[this];simp
  |some l=>
   have:Ma W s=l:=by unfold Ma;simp[List.getD,hW,hk]
   rw[this];exact Nat.le_of_eq (S.lens s l (by rw[Bu hW,hk])).1
end
end Go.Am
end
namespace Go.Am
 attribute [local irreducible] bigK
open Go
theorem yQ:∀N:List Nat,(BI N).flatMap AV.cells=BI N
 |[]=>rfl
 |x::N=>by show (AV.int .i64 (x:Int)).cells++(BI N).flatMap AV.cells=_;rw[yQ N];rfl
theorem AAg{y:AV}{N:List Nat}(H:Co y 1 (BI N)):lenOf y=some N.length/\∀h,BS h 1 N.length y=some (N.flatMap Fx):=by
 have e:N.flatMap Fx=BI N:=by show N.flatMap (fun n:Nat=>[AV.int .i64 (n:Int)])=_;simp[BI,MM]
 rcases H.out with⟨rfl,h⟩|⟨t,rfl⟩
 ·have:N=[]:=Qv.1 h;subst this;exact⟨rfl,fun _=>rfl⟩
 ·refine⟨by simp[lenOf],fun h=>?_⟩;have a:(BI N).take N.length=BI N:=by rw[Gx (by simp)]
  simp[BS,ble_eq,a,yQ N,e]
theorem GL.AHT{α:Type}{j b bytes c a lo:Nat}{enc:α->List AV}{l h:Aa}{w y:AV}{L N:List α}(H:GL j b enc c l w L ⟨h,a,lo⟩)(o:∀x,(enc x).length=b)(t:0<b)(A:lenOf y=some N.length)(r:BS h b N.length y=some (N.flatMap enc))(u:L.length+N.length<=2^20)(n:bytes<=1024) :
 ∃f i,Bq a j b bytes w y ⟨h,a+1,lo⟩=some (f,⟨i,a+1,lo⟩)/\GL j b enc c l f (L++N) ⟨i,a+1,lo⟩:=by
 have D:c<=a:=H.c1;have k:lo<=c:=H.lo;have z:CL h<=a:=H.tp;have g:Gq h j b enc w L:=H.g;obtain⟨f,i,e,v,m,s,B,_⟩:=g.push (lo:=lo) (c:=a+1) (bytes:=bytes) o t z (fun p d=>by have:=H.own p d;omega) N u n;refine⟨f,i,by rw[Gq.app (enc:=enc) (N:=N) A r];exact e,⟨k,by show c<=a+1;omega,m,fun p d=>?_,v,fun p d=>?_⟩⟩
 ·have q:p<c:=d;exact (s p (by omega) fun e=>by have:=H.own p e;omega).trans (H.CY p d)
 ·rcases B p d with e|e
  ·omega
  ·exact H.own p e
theorem GL.low{α:Type}{m k c d:Nat}{a:α->List AV}{l h:Aa}{w:AV}{L:List α}{j:St}(H:GL m k a c h w L j)(i:d<=c)(f:j.lo<=d)(e:∀p,p<d->AA h p=AA l p):GL m k a d l w L j:=
 ⟨f,DV i H.c1,H.tp,fun p b=>(H.CY p (Bt b i)).trans (e p b),H.g,fun p b=>DV i (H.own p b)⟩
theorem Za.low{c a b:Nat}{d h:Aa}{w:AV}{f:St}(H:Za 9 c b h w f)(k:a<=c)(g:b<=a)(e:∀p,p<a->AA h p=AA d p):Za 9 a b d w f:=by obtain⟨L,G,i,j⟩:=H;exact⟨L,G.low k (by omega) e,i,j⟩
def zC(c lo:Nat)(h0:Aa)(x:AV×St):Prop:=∃w e,x.1=.tuple [w,.int .i64 e]/\Za 9 c lo h0 w x.2
theorem dG{a:AV}{L:List Nat}(H:Co a 1 (BI L)){i:Nat}(c:i<L.length)(b:St):AY 1 a (.int .i64 (i:Int)) b=some (.CB [.int .i64 (L[i]:Int)],b):=by rw[H.idx (by simpa using c)];simp[BI,AV.cells]
theorem lH{k c lo:Nat}{h:Aa}{v Q lw Y:AV}{g:Ac}{F O L l:List Nat}{N:List Bool}{Z:List VZ}{xs:List AV}(A:JN v g F N O Z)(hu:Co Q 1 (BI l))(b2:Co lw 1 (BI L))(b4:Co Y 1 xs)(hl:∀s∈l,s<g.AB.length)(c5:l.length<=2000)(hL:L.length=g.AB.length)(b9:∀s,s<L.length->L.getD s 0<=2199023255552)(c4:xs.length=g.AB.length)(B:∀s,s<g.AB.length->∃u m,xs[s]? =some u/\Co u 1 (BI m)/\(∀x∈m,x<g.AB.length)/\m.length<=L.getD s 0)(ht:CL h<=c)(U:lo<=c) :
 ∃x,Ab E (k+2) 59 [v,Q,lw,Y] ⟨h,c,lo⟩=.ret x/\zC c lo h x:=by
 rw[Av (fn:=C.f59) rfl rfl rfl,Ap (by simp)];obtain⟨cv,nv,fv,sv,ov,ss,zs,hv,hC,_⟩:=A.out;have b7:∀a:St,DT v a=some (v,a):=fun a=>by rw[hv];rfl
 have b8:∀a:St,Cx 0 v a=some (.CB [cv,nv,fv,sv,ov,ss],a):=fun a=>by rw[hv];rfl
 have ul:∀a:St,BZ .slice Q a=some (.int .i64 (l.length:Int),a):=fun a=>by have:=(Ku (h:=h) hu).len;simp[BZ,this]
 have g0:GL 3 1 Fx c h .AO [] ⟨h,c,lo⟩:=⟨U,Ao _,ht,fun _ _=>rfl,.nl,fun p hp=>by simp[Az]at hp⟩;have b0:Za 9 c lo h .AO ⟨h,c,lo⟩:=⟨[],⟨U,Ao _,ht,fun _ _=>rfl,.nl,fun p hp=>by simp[Az]at hp⟩,by simp,rfl⟩;have bad:∀e:Int,zC c lo h (.tuple [.AO,.int .i64 e],⟨h,c,lo⟩):=fun e=>⟨.AO,e,rfl,b0⟩;obtain⟨n,r⟩:∃n:Nat->Nat,∀i,n i=((l.take i).map fun s=>L.getD s 0).sum:=⟨_,fun _=>rfl⟩;have a3:∀i (hi:i<l.length),n (i+1)=n i+L.getD l[i] 0:=fun i hi=>by rw[r,r,Gy hi,Hf,List.sum_append];simp
 show ((Bc E (Ab E (k+1)) C.f59.body (TS.FK [v,Q,lw,Y] 0 .nil) ⟨h,c,lo⟩).bind (Al C.f59.results)).to (zC c lo h);simp[C.f59,ul];refine M.BG (Df (fun (i:Nat) j a=>i<=l.length/\Has j [(0,v),(1,Q),(2,lw),(3,Y),(10,.int .i64 (n i:Nat)),(11,.AO),(16,Q),(17,.int .i64 (l.length:Int)),(18,.int .i64 (i:Int))]/\n i<=2000*i/\a=⟨h,c,lo⟩) (fun i=>l.length-i) (fun e j a=>a=⟨h,c,lo⟩/\((e=.exit 0/\Has j [(0,v),(1,Q),(3,Y),(11,.AO),(10,.int .i64 (n l.length:Nat))])∨(e=.ret/\j.get 8=.AO/\∃e:Int,j.get 9=.int .i64 e))) ?_ _ 0 _ _ ?_ ?_) ?_
 ·rintro i j a ⟨hi,b,c3,rfl⟩;simp only[Be,CG,BX]at b;obtain⟨y,R,z2,P,d,q,T,H,I⟩:=b;by_cases Bi:i<l.length
  ·have a2:=hl _ (BH Bi);have z:=dG hu Bi;have V:l[i]<L.length:=by omega
   have J:=dG b2 V;have e1:L.getD l[i] 0=L[l[i]]:=by simp[List.getD,V]
   have a6:=b9 _ V;have e2:=a3 i Bi;rw[e1]at a6 e2;obtain⟨D,a9⟩:∃D,D=L[l[i]]:=⟨_,rfl⟩;rw[←a9]at a6 e2 J;by_cases hnev:D=2199023255552
   ·have hb:((D:Int)==2199023255552)=true:=by rw[hnev];rfl
    simp[C.f59L0,y,R,z2,P,d,q,T,H,I,Bi,z,J,hb]
   ·have hb:((D:Int)==2199023255552)=false:=by rw[Gm];omega
    by_cases hbig:2000<D
    ·have o:(2000:Int)<(D:Int):=by omega
     simp[C.f59L0,y,R,z2,P,d,q,T,H,I,Bi,z,J,hb,o]
    ·have o:¬(2000:Int)<(D:Int):=by omega
     simp[C.f59L0,y,R,z2,P,d,q,T,H,I,Bi,z,J,hb,o,ABh (x:=(n i:Int)+D) (by omega) (by omega),wi i];exact⟨i+1,by omega,by omega,by simp[e2],by omega⟩
  ·have:i=l.length:=by omega
   subst this;simp[C.f59L0,y,R,P,d,q,H,I]
 ·exact FX (by show l.length-0<1000000;omega)
 ·exact⟨by omega,by simp[r],by simp[r],rfl⟩
 ·rintro⟨e,j,a⟩ ⟨rfl,a8⟩;rcases a8 with⟨rfl,b⟩|⟨rfl,z8,e,z9⟩
  ·simp only[Be,CG,BX]at b;obtain⟨y,R,P,q,d⟩:=b;by_cases hbig:2000<n l.length
   ·have o:(2000:Int)<(n l.length:Int):=by omega
    simp[d,o,Al,results,Af];exact bad 12
   ·have o:¬(2000:Int)<(n l.length:Int):=by omega
    simp[R,d,o,ul];refine M.BG (Df (fun (i:Nat) j a=>i<=l.length/\Has j [(0,v),(3,Y),(43,Q),(44,.int .i64 (l.length:Int)),(45,.int .i64 (i:Int))]/\a.lo=lo/\∃W:List Nat,GL 3 1 Fx c h (j.get 11) W a/\W.length<=n i/\∀x∈W,x<g.AB.length) (fun i=>l.length-i) (fun e j a=>e=.exit 3/\Has j [(0,v)]/\a.lo=lo/\∃W:List Nat,GL 3 1 Fx c h (j.get 11) W a/\W.length<=n l.length/\∀x∈W,x<g.AB.length) ?_ _ 0 _ _ ?_ ?_) ?_
    ·clear y R P d q;rintro i j ⟨h1,c1,a0⟩ ⟨hi,b,f,W,G,hW,K⟩;simp only at f;subst f;simp only[Be,CG,BX]at b;obtain⟨y,P,b6,a7,a5⟩:=b;generalize hw:j.get 11=w at G;by_cases Bi:i<l.length
     ·have a2:=hl _ (BH Bi);have z:=dG hu Bi;obtain⟨u,m,q1,q2,q3,q4⟩:=B _ a2;have a4:l[i]<xs.length:=by omega
      have b3:∀a:St,AY 1 Y (.int .i64 (l[i]:Int)) a=some (.CB [u],a):=fun a=>by
       rw[b4.idx a4];rw[Bu a4,Ct]at q1;rw[q1];have:u.cells=[u]:=by rcases q2.out with⟨rfl,_⟩|⟨t,rfl⟩<;>rfl
       rw[this]
      have e2:=a3 i Bi;obtain⟨s1,s2⟩:=AAg q2;have b1:n (i+1)<=n l.length:=by
       rw[r,r,FQ];conv=>rhs;rw[←Kq (i+1) l]
       rw[Hf,List.sum_append];omega
      obtain⟨w',h2,ap,G2⟩:=G.AHT (bytes:=8) (fun _=>rfl) (by omega) s1 (s2 h1) (by omega) (by omega);simp[C.f59L1,y,P,b6,a7,a5,hw,Bi,z,b3,ap,wi i];refine⟨i+1,by omega,by omega,by simp,W++m,G2,by rw[Bd];omega,fun x B=>?_⟩;rcases Ca.1 B with B|B
      ·exact K x B
      ·exact q3 x B
     ·have:i=l.length:=by omega
      subst this;simp[C.f59L1,y,a7,a5,hw];exact⟨W,G,hW,K⟩
    ·exact FX (by show l.length-0<1000000;omega)
    ·exact⟨by omega,by simp[y,P],rfl,[],by simpa [q]using g0,by simp,fun x B=>by simp at B⟩
    ·rintro⟨e,j,⟨h1,c1,a0⟩⟩ ⟨rfl,b,f,W,G,hW,K⟩;simp only at f G;subst f;simp only[Be,CG,BX]at b;have y:=b;generalize hw:j.get 11=w at G;have a1:CL h1<=c1:=G.tp;have c0:c<=c1:=G.c1;have g1:Gq h1 3 1 Fx w W:=G.g;obtain⟨w2,c2,b5,S⟩:=ZQ (k:=k) (c:=c1) (lo:=a0) (h:=h1) hC K (by omega) a1 (by omega) (qi.gs g1 (fun _=>rfl) fun p hp=>Bt (g1.lt hp) a1);simp[y,hw,b7,b8,b5,Al,results,Af];exact⟨w2,0,rfl,S.low c0 U G.CY⟩
  ·simp only at z8 z9;simp[z8,z9,Al,results,Af];exact bad e
theorem uS{k c m lo:Nat}{h:Aa}{w:AV}{could one shift conf:Bool}{FJ:Int}(u:WS h m 3 1 w)(z:m<=c)(t:CL h<=c)(F:lo<=c) :
 ∃j l q,Ab E (k+1) 26 [.agg (RD w could one FJ shift conf)] ⟨h,c,lo⟩=.ret (.tuple [j,.bool could,.bool conf],⟨l,q,lo⟩)/\WS l m 3 1 j/\c<=q/\CL l<=q/\∀p,p<c->AA l p=AA h p:=by
 rw[Av (fn:=C.f26) rfl rfl rfl,Ap (by simp)];have r:Ls c 74 6 (.agg (RD w could one FJ shift conf))=some (.AL c 0,.cells 74 6 (RD w could one FJ shift conf) false):=rfl;obtain⟨a,d⟩:∃a:Aa,a=(c,.cells 74 6 (RD w could one FJ shift conf) false)::h:=⟨_,rfl⟩;have y:BA c (.cells 74 6 (RD w could one FJ shift conf) false) ⟨h,c+1,lo⟩=some ⟨a,c+1,lo⟩:=by rw[d];exact BF t
 have v:CL a<=c+1:=by rw[d,Ay];omega
 have g:AA a c=some (.cells 74 6 (RD w could one FJ shift conf) false):=by rw[d];exact BV rfl
 have f:∀p,p<c->AA a p=AA h p:=fun p n=>by rw[d,Ar (by omega)]
 have o:WS a m 3 1 w:=u.heap fun p n=>f p (Bt (u.lt n) t);have A:AQ a (.AL c 0)=some w:=by rw[AR g];rfl
 have H:AQ a (.AL c 1)=some (.bool could):=by rw[AR g];rfl
 have x:AQ a (.AL c 2)=some (.bool one):=by rw[AR g];rfl
 have s:AQ a (.AL c 3)=some (.int .i64 FJ):=by rw[AR g];rfl
 have J:AQ a (.AL c 5)=some (.bool conf):=by rw[AR g];rfl
 cases one with
 |false=>refine⟨w,a,c+1,?_,o,by omega,v,f⟩;simp[-Bool.exists_bool,C.f26,r,y,A,H,x,s,J,DX,Cc,Al,results,Af]
 |true=>
  have lit:BC (c+1) 3 1 1 [.int .i64 0] [0] [.int .i64 FJ]=some (.AU (c+1) 0 1 (some 1),.cells 3 1 [.int .i64 FJ] false):=rfl;obtain⟨e,b⟩:∃e:Aa,e=(c+1,.cells 3 1 [.int .i64 FJ] false)::a:=⟨_,rfl⟩;have K:BA (c+1) (.cells 3 1 [.int .i64 FJ] false) ⟨a,c+2,lo⟩=some ⟨e,c+2,lo⟩:=by rw[b];exact BF v
  have D:AA e (c+1)=some (.cells 3 1 [.int .i64 FJ] false):=by rw[b];exact BV rfl
  have i:AA e c=some (.cells 74 6 (RD w could true FJ shift conf) false):=by rw[b,Ar (by omega)];exact g
  have I:AQ e (.AL c 1)=some (.bool could):=by rw[AR i];rfl
  have B:AQ e (.AL c 5)=some (.bool conf):=by rw[AR i];rfl
  refine⟨.AU (c+1) 0 1 (some 1),e,c+2,?_,.inr ⟨c+1,1,some 1,_,_,rfl,D,by simp,by omega,by omega⟩,by omega,by rw[b,Ay];omega,fun p n=>by rw[b,Ar (by omega)];exact f p n⟩;simp[-Bool.exists_bool,C.f26,r,y,x,s,lit,K,I,B,DX,Cc,Al,results,Af]
structure Cf where
 s:Nat
 a:Bz
 b:Bool
 r:AV
 w:AV
def Rh(y:Cf):List AV:=[.int .i64 (y.s:Int),.str y.a,.bool y.b,y.r,y.w]
def Rb(c lo m:Nat)(h0:Aa)(w:AV)(st:St):Prop:=∃L:List Cf,GL 49 5 Rh c h0 w L st/\st.lo=lo/\L.length<=5001/\∀y∈L,y.s<m/\WS st.h c 3 1 y.r/\WS st.h c 9 1 y.w
theorem Rb.nil{c lo m b:Nat}{h0 h:Aa}(a:lo<=c)(i:c<=b)(g:CL h<=b)(e:∀p,p<c->AA h p=AA h0 p):Rb c lo m h0 .AO ⟨h,b,lo⟩:=
 ⟨[],⟨a,i,g,e,.nl,fun p d=>by simp[Az]at d⟩,rfl,by simp,fun y f=>by simp at f⟩
theorem Gq.apart{α:Type}{f:α->List AV}{h:Aa}{k l a c p:Nat}{w:AV}{L:List α}{X:List AV}{ext:Bool}(G:Gq h k l f w L)(i:AA h p=some (.cells a c X ext))(b:a≠k):Az w≠some p:=fun g=>by
 cases G with
 |nl=>simp[Az]at g
 |ob id _ rest j cap d m=>
  have e:id=p:=by simpa [Az]using g
  subst e;rw[d]at i;cases i;exact b rfl
theorem Rb.grow{c lo m a b:Nat}{g h f:Aa}{w:AV}(H:Rb c lo m g w ⟨h,a,lo⟩)(s:a<=b)(o:CL f<=b)(e:∀p,p<a->AA f p=AA h p):Rb c lo m g w ⟨f,b,lo⟩:=by obtain⟨L,G,_,l,r⟩:=H;have i:CL h<=a:=G.tp;refine⟨L,G.grow s o e,rfl,l,fun y n=>?_⟩;obtain⟨q,j,k⟩:=r y n;exact⟨q,j.heap fun p d=>e p (Bt (j.lt d) i),k.heap fun p d=>e p (Bt (k.lt d) i)⟩
theorem Rb.push{c lo m c1 s:Nat}{t h:Aa}{w r:AV}(H:Rb c lo m t w ⟨h,c1,lo⟩)(J:∀L:List Cf,CV w=some L.length->L.length<=5000)(N:s<m)(a:Bz)(b:Bool)(o:WS h c 3 1 r) :
 ∃u l k f,BC c1 49 5 1 [.int .i64 0,.str [],.bool false,.AO,.AO] [0] [.agg [.int .i64 (s:Int),.str a,.bool b,r,.AO]]=some (.AU c1 0 1 (some 1),u)/\BA c1 u ⟨h,c1+2,lo⟩=some ⟨l,c1+2,lo⟩/\Bq (c1+1) 49 5 80 w (.AU c1 0 1 (some 1)) ⟨l,c1+2,lo⟩=some (k,⟨f,c1+2,lo⟩)/\Rb c lo m t k ⟨f,c1+2,lo⟩/\∀p,p<c1->Az w≠some p->AA f p=AA h p:=by
 obtain⟨L,G,_,B,F⟩:=H;have D:=J L G.g.len;have q:CL h<=c1:=G.tp;obtain⟨I,l,k,f,A,z,K,n,_⟩:=G.push (bytes:=80) (v:=.agg [.int .i64 (s:Int),.str a,.bool b,r,.AO]) (x:=⟨s,a,b,r,.AO⟩) (zero:=[.int .i64 0,.str [],.bool false,.AO,.AO]) (fun _=>rfl) (by omega) rfl rfl rfl (by omega) (by omega);refine⟨_,l,k,f,I,A,z,⟨L++[⟨s,a,b,r,.AO⟩],K,rfl,by simp;omega,fun y e=>?_⟩,n⟩;rcases Ca.1 e with e|e
 ·obtain⟨O,j,i⟩:=F y e;have j:WS h c 3 1 y.r:=j;have i:WS h c 9 1 y.w:=i;exact⟨O,j.heap fun p d=>n p (Bt (j.lt d) q) (j.ne G.g (by decide) d),i.heap fun p d=>n p (Bt (i.lt d) q) (i.ne G.g (by decide) d)⟩
 ·simp only[Di]at e;subst e;exact⟨N,o.heap fun p d=>n p (Bt (o.lt d) q) (o.ne G.g (by decide) d),.inl rfl⟩
def CfT(c lo m:Nat)(h0:Aa)(w:AV)(st:St):Prop:=Rb c lo m h0 w st/\∀n,CV w=some n->n<=5000
def AGG(c lo m:Nat)(h0:Aa)(Bo:TS->Prop)(x:KN×TS×St):Prop:=
 (x.1=.ret/\x.2.1.get 6=.AO/\(∃e:Int,x.2.1.get 7=.int .i64 e)/\FrD c lo h0 x.2.2)∨(x.1=.exit 2/\Bo x.2.1/\CfT c lo m h0 (x.2.1.get 10) x.2.2)
theorem Rb.ng{c lo m:Nat}{b:Aa}{w:AV}{d:St}(H:Rb c lo m b w d):FrD c lo b d:=by obtain⟨L,G,a,_⟩:=H;exact⟨a,G.tp,G.c1,G.CY⟩
theorem Rb.len{c lo m:Nat}{d:Aa}{w:AV}{st:St}(H:Rb c lo m d w st):∃n,CV w=some n/\n<=5001/\∀st:St,BZ .slice w st=some (.int .i64 (n:Int),st):=by obtain⟨L,G,a,b,_⟩:=H;exact⟨L.length,G.g.len,b,fun st=>G.g.BZ st⟩
theorem Rb.ACf{c i m d:Nat}{f:Aa}{w:AV}{a:St}(H:Rb c i m f w a){e:List AV}(b:AA a.h d=some (.cells 137 3 e false)):Az w≠some d:=by obtain⟨L,G,_⟩:=H;exact G.g.apart b (by decide)
theorem AAu{h:Aa}{c:Nat}{r:AV}(H:WS h c 3 1 r)(s:Int)(a:Bz)(b:Bool):Bp [.int .i64 0,.str [],.bool false,.AO,.AO] [(0,1),(1,1),(2,1),(3,1)] [.int .i64 s,.str a,.bool b,r]=some [.int .i64 s,.str a,.bool b,r,.AO]:=by rcases H with rfl|⟨id,len,cap,X,ext,rfl,_⟩<;>rfl
theorem tO{k c d lo si:Nat}{h0:Aa}{v bw ss w0:AV}{g:Ac}{F O:List Nat}{N:List Bool}{Z:List VZ}(A:JN v g F N O Z){z:VZ}(hz:ZOk g Z.length z){tp ta tt:Bool}(a8:Co bw 1 (BI (bitsOf g)))(b0:si<Z.length)(c6:lo<=c){R:St}(C0:CfT c lo Z.length h0 w0 R)(I:AA R.h d=some (.cells 137 3 [.list tp 2 (z.P.map FR),.list ta 1 (z.A.map JQ),.list tt 1 (DC z.row)] false))(a:TS)(K:a.get 2=.fn (.func 26) [] [])(Q:a.get 8=v)(V:a.get 10=w0)(u:a.get 11=.int .i64 (si:Int))(t:a.get 12=.AL d 0)(m:a.get 34=ss)(r:a.get 35=.int .i64 (Z.length:Int))(l:a.get 36=.int .i64 (si:Int))(o:a.get 42=bw)(f:a.get 43=.int .i64 ((bitsOf g).length:Int))(j:a.get 44=.int .i64 0) :
 (Dm (Bc E (Ab E (k+3)) C.f25L1) E.k a R).to (AGG c lo Z.length h0 fun a7=>Has a7 [(2,.fn (.func 26) [] []),(8,v),(34,ss),(35,.int .i64 (Z.length:Int)),(36,.int .i64 (si:Int))]):=by
 have hs:=A.TK.Nf.small;have b7:=hs.Ae;have b9:(bitsOf g).length=g.Ae.length+1:=by simp[bitsOf]
 generalize W:[AV.list tp 2 (z.P.map FR),.list ta 1 (z.A.map JQ),.list tt 1 (DC z.row)]=sv at *
 refine Cy (fun (i:Nat) a R=>i<=(bitsOf g).length/\Has a [(2,.fn (.func 26) [] []),(8,v),(11,.int .i64 (si:Int)),(12,.AL d 0),(34,ss),(35,.int .i64 (Z.length:Int)),(36,.int .i64 (si:Int)),(42,bw),(43,.int .i64 ((bitsOf g).length:Int)),(44,.int .i64 (i:Int))]/\AA R.h d=some (.cells 137 3 sv false)/\CfT c lo Z.length h0 (a.get 10) R)
  (fun i=>(bitsOf g).length-i) ?_ _ 0 _ _ ?_ ?_
 ·clear K Q V u t m r l o f j C0 I;rintro i a ⟨h,S,d0⟩ ⟨hi,a3,I,T,x⟩;have D:=T.ng.1.symm;simp only at D I;subst D;simp only[Be,CG,BX]at a3;obtain⟨K,Q,u,t,m,r,l,o,f,j⟩:=a3;generalize hw:a.get 10=w at T x;have Y:CL h<=S:=T.ng.2.1;have c7:c<=S:=T.ng.2.2.1;have b4:d<S:=Bt (Fb I) Y;by_cases Bi:i<(bitsOf g).length
  ·obtain⟨q,a1,b1⟩:=(RL.sl (h:=h) a8).rs.rd Bi;have J:∀cc,AY 1 bw (.int .i64 (i:Int)) ⟨h,cc,lo⟩=some (q,⟨h,cc,lo⟩):=fun cc=>a1 _ rfl;obtain⟨b,hb⟩:∃b,b=(bitsOf g)[i]:=⟨_,rfl⟩;have b3:b∈bitsOf g:=hb▸BH Bi;rw[←hb]at b1;have rs:Ak h (.AL d 0) 3=some sv:=by rw[Bv,I,←W];rfl
   have Ch:=ZN (k:=k) (c:=S) (lo:=lo) (b:=b) (h:=h) A hz (tp:=tp) (ta:=ta) (to:=.list tt 1 (DC z.row)) Y (by omega) ⟨rfl,rfl⟩;rw[W]at Ch;obtain⟨⟨c4,c0⟩,eC,a9,could,one,FJ,shift,conf,Lc,h2,c2,hx,Gc,c5,a5,t2,a6,B⟩:=Ch;cases hx;have B:∀p,p<S->AA h2 p=AA h p:=B;have t2:CL h2<=c2:=t2;have a6:S<=c2:=a6;have a2:WS h2 c 3 1 a9:=Gq.ws (c:=c) Gc (fun _=>rfl) (fun p hp=>by have:=a5 p hp;omega) (by omega);obtain⟨c9,h3,c3,eT,a0,d2,t3,U⟩:=uS (k:=k+2) (could:=could) (one:=one) (shift:=shift) (conf:=conf) (FJ:=FJ) (lo:=lo) a2 (by omega) t2 (by omega);have C3:Rb c lo Z.length h0 w ⟨h3,c3,lo⟩:=T.grow (by omega) t3 fun p hp=>(U p (by omega)).trans (B p hp);have H:AA h3 d=some (.cells 137 3 sv false):=((U d (by omega)).trans (B d b4)).trans I;obtain⟨n0,l0,l1,l2⟩:=C3.len;have d1:=x n0 l0;cases conf with
   |false=>
    have y:¬(5000:Int)<(n0:Int):=by omega
    have b8:¬5000<n0:=by omega
    simp[C.f25L1,K,Q,u,t,m,r,l,o,f,j,hw,Bi,J,b1,rs,eC,eT,l2,y,wi i];exact⟨i+1,by omega,by omega,by simp,H,C3,x⟩
   |true=>
    obtain⟨s,eN⟩:=aN (k:=k+2) (c:=c3+2) (lo:=lo) (h:=h3) A b3;have bd:=AAu a0 (si:Int) s could;obtain⟨cs,h4,w',h5,p1,p2,p3,C5,b5⟩:=C3.push (fun L e=>x _ e) b0 s could a0;have b2:AA h5 d=some (.cells 137 3 sv false):=(b5 d (by omega) (C3.ACf H)).trans H;obtain⟨n5,b6,c8,a4⟩:=C5.len;by_cases hbig:5000<n5
    ·have y:(5000:Int)<(n5:Int):=by omega
     simp[C.f25L1,K,Q,u,t,o,f,j,hw,Bi,J,b1,rs,eC,eT,eN,bd,p1,p2,p3,a4,y];exact .inl ⟨rfl,by simp,⟨12,by simp⟩,C5.ng⟩
    ·have y:¬(5000:Int)<(n5:Int):=by omega
     simp[C.f25L1,K,Q,u,t,m,r,l,o,f,j,hw,Bi,J,b1,rs,eC,eT,eN,bd,p1,p2,p3,a4,y,wi i];exact⟨i+1,by omega,by omega,by simp,b2,C5,fun n e=>by rw[b6,Ct]at e;omega⟩
  ·have:i=(bitsOf g).length:=by omega
   subst this;simp[C.f25L1,f,j];exact .inr ⟨rfl,by simp[K,Q,m,r,l],by simpa [hw]using ⟨T,x⟩⟩
 ·exact FX (by show (bitsOf g).length-0<1000000;omega)
 ·exact⟨by omega,by simp[K,Q,u,t,m,r,l,o,f,j],I,by rw[V];exact C0⟩
end Go.Am
