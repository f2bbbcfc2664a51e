/- A part of tablesStay. -/
import Derived.Test.YthnghmpbgomacaaGreatDoorQ8
set_option exponentiation.threshold 99999
set_option maxHeartbeats 4000000
namespace Go.Am
 attribute [local irreducible] bigK
open Go
theorem rF{h:Aa}{A n c:Nat}{L:List Nat}(a:AA h A=some (.cells c 1 (BI L) false))(d:L.length=n):Ce 0 h 64 (.AU A 0 n (some n))=some (.list true 1 (BI L)):=by
 have b:DD (Ce 0 h 63) (((BI L).drop 0).take (n*1))=some (BI L):=by rw[FB,Fe,Gx (by simp;omega)];exact Hu (Pw 0 _)
 rw[Gh (CZ _) a (by omega) (by simp;omega) b];have:rows 1 n (BI L)=BI L:=by have:=Jw (BI L);rwa [PL,d]at this
 simp[this]
theorem AAS{o n:Nat}(b:n<=1000):Dy o 3 1 8 [.int .i64 0] (.int .i64 (n:Int)) (.int .i64 (n:Int))=some (.AU o 0 n (some n),.cells 3 1 (BI (List.replicate n 0)) false):=by
 have a:n*8<=room/\n<=room:=by unfold room;constructor<;>omega
 simp[Dy,Bg,ble_eq,blt_eq,a.1,a.2,Iq,BI]
structure LI (cv:AV)(g:Ac)(m:Nat)(L:List Nat)(st:St):Prop where
 tp:CL st.h<=3
 c:st.c=3
 lo:st.lo=0
 a:AA st.h 1=some (.cells 3 1 (BI L) false)
 len:L.length=g.AB.length
 i:AA st.h 2=some (.cells 22 1 [.AU 1 0 g.AB.length (some g.AB.length)] false)
 gf:AA st.h 0=some (.cells 76 1 [cv] false)
 le:∀s,s<L.length->L.getD s 0<=2199023255552
 one:∀s,s<m->s<g.Ae.length->L.getD s 0=1
variable {cv:AV}{g:Ac}
theorem LI.set{m s n:Nat}{L:List Nat}{st:St}(H:LI cv g m L st)(r:s<g.AB.length)(l:n<=2199023255552)(t:m<=s) :
 ∃b,BM 1 (.AL 1 s) (.int .i64 (n:Int)) st=some (.undef,b)/\LI cv g m (L.set s n) b:=by
 obtain⟨h,c,o⟩:=st;have q:=H.len;have e:=DZ (st:=⟨h,c,o⟩) (off:=s) (v:=.int .i64 (n:Int)) H.a (by rw[H.lo];omega) (by simp;omega) rfl rfl;rw[ints_set]at e;have F:∀p,p≠1->AA (Ah h 1 (.cells 3 1 (BI (L.set s n)) false)) p=AA h p:=fun p j=>by rw[Ag H.a,AJ (Aj j)]
 have k:CL h<=3:=H.tp;refine⟨_,e,?_,H.c,H.lo,?_,by simpa using H.len,(F 2 (by omega)).trans H.i,(F 0 (by omega)).trans H.gf,fun x d=>?_,fun x d f=>?_⟩
 ·show CL (Ah h 1 _)<=3;rw[Cg];exact k
 ·show AA (Ah h 1 _) 1=_;rw[Ag H.a,AX rfl]
 ·rw[Ru (by omega)];split
  ·exact l
  ·exact H.le x (by simpa using d)
 ·rw[Ru (by omega),AJ (by omega)];exact H.one x d f
theorem iJ{k:Nat}{st:St}(Y:Gu cv g)(hs:g.Small)(a6:g.Ok) :
 ∃w L,Ab E (k+6) 57 [cv] st=.ret (w,st)/\Co w 1 (BI L)/\L.length=g.AB.length/\(∀s,s<L.length->L.getD s 0<=2199023255552)/\∀s,s<g.Ae.length->L.getD s 0=1:=by
 have R:=Y.Ow 0;have b7:=Ac.JP hs;obtain⟨nv,rv,ov,lr,b6,Z,S,_⟩:=Y.out;rw[GH (fn:=C.f57) rfl rfl rfl (by simp[AV.Dq,R]),Ap (by simp)];have a5:∀W:St,BZ .slice nv W=some (.int .i64 (g.AB.length:Int),W):=fun W=>by have:=S.len (st:=W);simpa using this
 have bx:Ls 0 76 1 cv=some (.AL 0 0,.cells 76 1 [cv] false):=by rw[Z];rfl
 have mk:=AAS (o:=1) (n:=g.AB.length) (by omega);obtain⟨A,f⟩:∃A:Aa,A=[(0,.cells 76 1 [cv] false)]:=⟨_,rfl⟩;have n0:∀c,BA 0 (.cells 76 1 [cv] false) ⟨[],c,0⟩=some ⟨A,c,0⟩:=fun c=>by rw[f];rfl
 obtain⟨H1,j⟩:∃H1:Aa,H1=(1,.cells 3 1 (BI (List.replicate g.AB.length 0)) false)::A:=⟨_,rfl⟩;have n1:∀c,BA 1 (.cells 3 1 (BI (List.replicate g.AB.length 0)) false) ⟨A,c,0⟩=some ⟨H1,c,0⟩:=fun c=>by rw[j];exact BF (by rw[f,Ay];exact⟨by omega,by simp[CL]⟩)
 obtain⟨b,l⟩:∃b:Aa,b=(2,.cells 22 1 [.AO] false)::H1:=⟨_,rfl⟩;have n2:∀c,BA 2 (.cells 22 1 [.AO] false) ⟨H1,c,0⟩=some ⟨b,c,0⟩:=fun c=>by rw[l];exact BF (by rw[j,Ay,f,Ay];exact⟨by omega,by omega,by simp[CL]⟩)
 have f2:AA b 2=some (.cells 22 1 [.AO] false):=by rw[l];exact BV rfl
 have s2:=fun c=>DZ (st:=⟨b,c,0⟩) (off:=0) (v:=.AU 1 0 g.AB.length (some g.AB.length)) f2 (CZ _) (by simp) rfl rfl;obtain⟨r,y⟩:∃r:Aa,r=Ah b 2 (.cells 22 1 [.AU 1 0 g.AB.length (some g.AB.length)] false):=⟨_,rfl⟩;have a4:∀c,BM 1 (.AL 2 0) (.AU 1 0 g.AB.length (some g.AB.length)) ⟨b,c,0⟩=some (.undef,⟨r,c,0⟩):=fun c=>by rw[s2,y];rfl
 have F3:∀p,AA r p=if p=2 then some (.cells 22 1 [.AU 1 0 g.AB.length (some g.AB.length)] false) else AA b p:=fun p=>by
  rw[y,Ag f2];by_cases hp:p=2
  ·subst hp;simp
  ·rw[AJ (Aj hp),AJ hp]
 have L0:LI cv g 0 (List.replicate g.AB.length 0) ⟨r,3,0⟩:=by
  refine⟨?_,rfl,rfl,?_,by simp,?_,?_,fun s N=>?_,fun s h=>by omega⟩
  ·show CL r<=3;rw[y,Cg,l,Ay,j,Ay,f,Ay];exact⟨by omega,by omega,by omega,by simp[CL]⟩
  ·show AA r 1=_;rw[F3,AJ (by omega),l,Ar (by omega),j];exact BV rfl
  ·show AA r 2=_;rw[F3,AX rfl]
  ·show AA r 0=_;rw[F3,AJ (by omega),l,Ar (by omega),j,Ar (by omega),f];exact BV rfl
  ·simp only[List.getD,NW];split<;>simp
 have r2:AQ r (.AL 2 0)=some (.AU 1 0 g.AB.length (some g.AB.length)):=by rw[AR L0.i];rfl
 have goal:((Bc E (Ab E (k+5)) C.f57.body (TS.FK [cv] 0 .nil) ⟨[],0,0⟩).bind (Al C.f57.results)).to fun x=>x.1=.AU 1 0 g.AB.length (some g.AB.length)/\∃L,LV cv g 1 2 0 L x.2:=by
  have rg:∀h:Aa,AA h 0=some (.cells 76 1 [cv] false)->AQ h (.AL 0 0)=some cv:=fun h hf=>by rw[AR hf];rfl
  have b4:AQ A (.AL 0 0)=some cv:=rg _ (by rw[f];exact BV rfl);have Q:∀st:St,DT cv st=some (cv,st):=fun st=>by rw[Z];rfl
  have a8:∀st:St,Cx 0 cv st=some (.CB [nv,.int .i64 (g.Ae.length:Nat),.int .i64 (g.ix g.Ai:Nat),rv,ov,.CR (Bf g.AB) (BI (List.range g.AB.length))],st):=fun st=>by rw[Z];rfl
  have sl:∀st:St,BZ .slice (.AU 1 0 g.AB.length (some g.AB.length)) st=some (.int .i64 (g.AB.length:Int),st):=fun st=>rfl;simp[C.f57,bx,n0,b4,Q,a8,a5,mk,n1,n2,a4,r2,sl];refine M.BG (Df (fun (i:Nat) F st=>i<=g.AB.length/\Has F [(1,.AL 0 0),(3,.AL 2 0),(12,.int .i64 (g.AB.length:Int)),(13,.int .i64 (i:Int))]/\∃L,LI cv g i L st) (fun i=>g.AB.length-i) (fun e F st=>e=.exit 0/\Has F [(1,.AL 0 0),(3,.AL 2 0)]/\∃L,LI cv g g.AB.length L st) ?_ _ 0 _ _ ?_ ?_) ?_
  ·rintro i F st ⟨hi,q,L,H⟩;simp only[Be,CG,BX]at q;obtain⟨P,J,z,u⟩:=q;by_cases Bi:i<g.AB.length
   ·obtain⟨d,U,H1⟩:=H.set (s:=i) (n:=2199023255552) Bi (by omega) (Ao _);have T:BM 1 (.AL 1 i) (.int .i64 2199023255552) st=some (.undef,d):=U;have ra:∀{L:List Nat} {st:St},LI cv g i L st->AQ st.h (.AL 2 0)=some (.AU 1 0 g.AB.length (some g.AB.length))/\(∀t:St,t.h=st.h->AY 1 (.AU 1 0 g.AB.length (some g.AB.length)) (.int .i64 (i:Int)) t=some (.AL 1 i,t))/\AQ st.h (.AL 0 0)=some cv:=fun {L st} H=>⟨by rw[AR H.i];rfl,fun t e=>PZ (by rw[e];exact H.a) Bi,rg _ H.gf⟩;obtain⟨a1,a2,a3⟩:=ra H;obtain⟨b1,b2,b3⟩:=ra H1;have D:=a2 st rfl;have I:=b2 d rfl;have eK:=TE (k:=k+4) (st:=d) Y i;by_cases hk:i<g.Ae.length
    ·obtain⟨b0,e2,b⟩:=H1.set (s:=i) (n:=1) Bi (by omega) (Ao _);have a0:BM 1 (.AL 1 i) (.int .i64 1) d=some (.undef,b0):=e2;simp[C.f57L0,P,J,z,u,Bi,a1,D,T,b1,I,b3,eK,hk,a0,wi i];have b5:L.length=g.AB.length:=H.len;refine⟨i+1,by omega,by omega,by simp,(L.set i 2199023255552).set i 1,b.tp,b.c,b.lo,b.a,b.len,b.i,b.gf,b.le,fun s S K=>?_⟩;rcases FU s i with h|h
     ·exact b.one s h K
     ·have:s=i:=by omega
      subst this;rw[Ru (by simp;omega),AX rfl]
    ·simp[C.f57L0,P,J,z,u,Bi,a1,D,T,b1,I,b3,eK,hk,wi i];refine⟨i+1,by omega,by omega,by simp,L.set i 2199023255552,H1.tp,H1.c,H1.lo,H1.a,H1.len,H1.i,H1.gf,H1.le,fun s S K=>H1.one s (by omega) K⟩
   ·have:i=g.AB.length:=by omega
    subst this;simp[C.f57L0,P,J,z,u];exact⟨L,H⟩
  ·exact FX (by show g.AB.length-0<1000000;omega)
  ·exact⟨by omega,by simp,_,L0⟩
  ·rintro⟨e,F,⟨h,c,lo⟩⟩ ⟨rfl,q,L,H⟩;simp only[Be,CG,BX]at q;obtain⟨P,J⟩:=q;have a9:c=3:=H.c;have a7:lo=0:=H.lo;subst a9 a7;have V:LV cv g 1 2 0 L ⟨h,3,0⟩:=⟨OW.1 H.tp,CZ _,H.a,H.len,H.i,H.gf,⟨by show 1<3;omega,by show 2<3;omega,by show 0<3;omega,by omega,by omega,by show 0<=3;omega⟩,H.le,fun s N=>H.one s (by
    have:g.AB.length=g.Ae.length+g.Km.length:=by simp[Ac.AB]
    omega) N⟩
   have O:∀(B:List Nat) (m:Nat),(∀s,s<B.length->B.getD s 0<=m)->B.sum<=B.length*m:=by
    intro B m;induction B with
    |nil=>intro _;simp
    |cons x B ih=>
     intro hB;have h0:=hB 0 (by simp);have:=ih fun s hs=>by have:=hB (s+1) (by simp;omega);simpa using this
     simp only[List.getD_cons_zero]at h0;rw[List.sum_cons,FV,Il];omega
   have hL:L.sum<2^900:=by
    have S:=O L _ H.le;have K:L.length*2199023255552<=1000*2199023255552:=Im _ (by rw[H.len];omega);have h3:1000*2199023255552<2^60:=by decide
    exact Nat.lt_trans (SE (DV S K) h3) (MN (by omega) (by omega))
   have gr:=Zp (k:=k) Y hs a6 L ⟨h,3,0⟩ V hL;simp[P,J];refine M.BG gr fun x hx=>?_;obtain⟨v,d⟩:=x;obtain⟨L',V'⟩:=hx;simp only at V';have ri:AQ d.h (.AL 2 0)=some (.AU 1 0 g.AB.length (some g.AB.length)):=by rw[AR V'.i];rfl
   simp[ri,Al,results,Af];exact⟨L',V'⟩
 obtain⟨⟨v,d⟩,e,U,L,V⟩:=goal;simp only at U V;subst U;refine⟨.list true 1 (BI L),L,?_,⟨.inr ⟨_,rfl⟩⟩,V.len,V.le,V.one⟩;rw[e];simp[BU,Ck,rF V.a V.len]
end Go.Am
namespace Go.Am
 attribute [local irreducible] bigK
open Go
theorem aZ{k:Nat}{x:Int}{st:St}:Ab E (k+1) 119 [.int .i64 x] st=.ret (.bool false,st):=by rw[Av (fn:=C.f119) rfl rfl rfl,Ap (by simp)];simp[C.f119,Al,results,Af]
theorem oM{k:Nat}{x y:Int}{st:St}:∃r:Int,Ab E (k+2) 66 [.int .i64 x,.int .i64 y] st=.ret (.int .i64 r,st)/\(r<0->x<y)/\(r=0->x=y):=by
 rw[Av (fn:=C.f66) rfl rfl rfl,Ap (by simp)];have a:=aZ (k:=k) (x:=x) (st:=st);have b:=aZ (k:=k) (x:=y) (st:=st);by_cases h1:x<y
 ·refine⟨-1,?_,fun _=>h1,fun h=>by omega⟩;simp[C.f66,a,b,h1,Al,results,Af]
 ·by_cases h2:y<x
  ·refine⟨1,?_,fun h=>by omega,fun h=>by omega⟩;simp[C.f66,a,b,h1,h2,Al,results,Af]
  ·refine⟨0,?_,fun h=>by omega,fun _=>by omega⟩;simp[C.f66,a,b,h1,h2,Al,results,Af]
def LtL(U V:List Nat):Prop:=∃i,∃h1:i<U.length,∃h2:i<V.length,U.take i=V.take i/\U[i]<V[i]
theorem jX{k c lo:Nat}{h:Aa}{f j:AV}{U V:List Nat}(I:RS h 1 Fx f U)(L:RS h 1 Fx j V)(Z:U.length<=100000) :
 ∃r:Int,Ab E (k+3) 110 [f,j] ⟨h,c,lo⟩=.ret (.int .i64 r,⟨h,c,lo⟩)/\(r<0->U.length=V.length->LtL U V):=by
 rw[Av (fn:=C.f110) rfl rfl rfl,Ap (by simp)];have B:∀st:St,BZ .slice f st=some (.int .i64 (U.length:Int),st):=fun st=>by have:=I.len;simp[BZ,this]
 have v:∀st:St,BZ .slice j st=some (.int .i64 (V.length:Int),st):=fun st=>by have:=L.len;simp[BZ,this]
 have goal:((Bc E (Ab E (k+2)) C.f110.body (TS.FK [f,j] 0 .nil) ⟨h,c,lo⟩).bind (Al C.f110.results)).to fun x=>∃r:Int,x=(.int .i64 r,⟨h,c,lo⟩)/\(r<0->U.length=V.length->LtL U V):=by
  simp[C.f110,B];refine M.BG (Df (fun (i:Nat) o st=>i<=U.length/\i<=V.length/\U.take i=V.take i/\Has o [(0,f),(1,j),(9,f),(10,.int .i64 (U.length:Int)),(11,.int .i64 (i:Int))]/\st=⟨h,c,lo⟩) (fun i=>U.length-i) (fun e o st=>st=⟨h,c,lo⟩/\((e=.exit 0/\Has o [(0,f),(1,j)])∨(e=.ret/\∃r:Int,o.get 4=.int .i64 r/\(r<0->LtL U V)))) ?_ _ 0 _ _ ?_ ?_) ?_
  ·rintro i o st ⟨hi,P,p,a,rfl⟩;simp only[Be,CG,BX]at a;obtain⟨n,m,D,b,d⟩:=a;by_cases Bi:i<U.length
   ·obtain⟨q,S,w⟩:=I.rd Bi;have l:∀g,AY 1 f (.int .i64 (i:Int)) ⟨h,g,lo⟩=some (q,⟨h,g,lo⟩):=fun g=>S _ rfl;by_cases hge:V.length<=i
    ·simp[C.f110L0,n,m,D,b,d,Bi,l,w,v,hge]
    ·obtain⟨W,T,J⟩:=L.rd (show i<V.length by omega);have t:∀g,AY 1 j (.int .i64 (i:Int)) ⟨h,g,lo⟩=some (W,⟨h,g,lo⟩):=fun g=>T _ rfl;have s:i<V.length:=by omega
     obtain⟨r,K,O,R⟩:=oM (k:=k) (x:=(U[i]:Int)) (y:=(V[i]:Int)) (st:=⟨h,c,lo⟩);by_cases u:r=0
     ·subst u;have e:=R rfl;simp[C.f110L0,n,m,D,b,d,Bi,l,w,v,hge,t,J,K,wi i];refine⟨i+1,by omega,by omega,by omega,?_,by simp⟩;rw[Gy Bi,Gy s,p];have z:U[i]=V[i]:=by omega
      rw[z]
     ·have Y:(r==0)=false:=by rw[Gm];exact u
      have F:(r !=0)=true:=Ho.2 u;simp[C.f110L0,n,m,D,b,d,Bi,l,w,v,hge,t,J,K,F];intro A;have:=O A;exact⟨i,Bi,s,p,by omega⟩
   ·simp[C.f110L0,n,m,b,d,Bi]
  ·exact FX (by show U.length-0<1000000;omega)
  ·exact⟨by omega,by omega,by simp,by simp,rfl⟩
  ·rintro⟨e,o,st⟩ ⟨rfl,Q⟩;rcases Q with⟨rfl,a⟩|⟨rfl,r,H,u⟩
   ·simp only[Be,CG,BX]at a;obtain⟨n,m⟩:=a;by_cases Bi:U.length<V.length
    ·simp[n,m,B,v,Bi,Al,results,Af];intro h;omega
    ·simp[n,m,B,v,Bi,Al,results,Af]
   ·simp only at H;simp[H,Al,results,Af];exact fun A _=>u A
 obtain⟨x,e,r,rfl,N⟩:=goal;exact⟨r,e,N⟩
def RV:List Nat->Nat
 |[]=>0
 |x::l=>x*16^l.length+RV l
theorem Ya:∀{l:List Nat},(∀x∈l,x<16)->RV l<16^l.length
 |[],_=>by simp[RV]
 |x::l,h=>by have c:=Ya (l:=l) fun y a=>h y (Cu _ a);have b:=h x DN;have d:x*16^l.length<=15*16^l.length:=Im _ (by omega);simp only[RV,FV,Nat.pow_succ];omega
theorem Yb:∀{U V:List Nat},(∀x∈U,x<16)->U.length=V.length->LtL U V->RV U<RV V
 |[],_,_,_,⟨i,f,_⟩=>by simp at f
 |_::_,[],_,e,_=>by simp at e
 |x::U,y::V,k,e,⟨i,f,h,c,g⟩=>by
  have a:U.length=V.length:=by simpa using e
  have b:∀z∈U,z<16:=fun z l=>k z (Cu _ l);cases i with
  |zero=>have d:x<y:=g;have:=Ya b;have j:(x+1)*16^U.length<=y*16^U.length:=Im _ d;rw[Il]at j;simp only[RV];rw[←a];omega
  |succ i=>simp only[List.take_succ_cons,Lg]at c;obtain⟨rfl,c⟩:=c;have:=Yb b a ⟨i,by simpa using f,by simpa using h,c,by simpa using g⟩;simp only[RV];rw[←a];omega
theorem Gq.src{α:Type}{enc:α->List AV}{h:Aa}{f a:Nat}{y:AV}{N:List α}(G:Gq h f a enc y N)(g:∀x,(enc x).length=a)(j:0<a):lenOf y=some N.length/\BS h a N.length y=some (N.flatMap enc):=by
 cases G with
 |nl=>exact⟨rfl,by simp[BS]⟩
 |ob id _ rest ext cap c i=>
  refine⟨rfl,?_⟩;have b:(N.flatMap enc).length=N.length*a:=Ib g N;have d:((N.flatMap enc++rest).drop 0).take (N.length*a)=N.flatMap enc:=by rw[FB,←b,Je]
  have e:0+N.length*a<=(N.flatMap enc++rest).length:=by rw[Bd,b];omega
  simp only[BS,c,beq_eq,ble_eq,d,Bw e,Ff,FN,Ba,Ao]
theorem GL.app{α:Type}{j l b bytes c a lo:Nat}{enc:α->List AV}{n h:Aa}{w y:AV}{L N:List α}(H:GL j b enc c n w L ⟨h,a,lo⟩)(o:∀x,(enc x).length=b)(m:0<b)(A:Gq h l b enc y N)(t:L.length+N.length<=2^20)(r:bytes<=1024) :
 ∃i f,Bq a j b bytes w y ⟨h,a+1,lo⟩=some (i,⟨f,a+1,lo⟩)/\GL j b enc c n i (L++N) ⟨f,a+1,lo⟩/\∀p,p<a->Az w≠some p->AA f p=AA h p:=by
 have J:c<=a:=H.c1;have k:lo<=c:=H.lo;have D:CL h<=a:=H.tp;have g:Gq h j b enc w L:=H.g;obtain⟨u,z⟩:=A.src o m;obtain⟨i,f,e,B,v,q,F,_⟩:=g.push (lo:=lo) (c:=a+1) (bytes:=bytes) o m D (fun p d=>by have:=H.own p d;omega) N t r;refine⟨i,f,by rw[Gq.app (enc:=enc) (N:=N) u z];exact e,⟨k,by show c<=a+1;omega,v,fun p d=>?_,B,fun p d=>?_⟩,fun p d I=>q p (by omega) I⟩
 ·have s:p<c:=d;exact (q p (by omega) fun e=>by have:=H.own p e;omega).trans (H.CY p d)
 ·rcases F p d with e|e
  ·omega
  ·exact H.own p e
abbrev kQ:=List (Option (List Nat))
def Ma(W:kQ)(s:Nat):List Nat:=(W.getD s none).getD []
structure SV (cv lw:AV)(n:Nat)(L:List Nat)(W:kQ)(us:List AV)(st:St):Prop where
 lo:st.lo=0
 c6:6<=st.c
 tp:CL st.h<=st.c
 b0:AA st.h 0=some (.cells 76 1 [cv] false)
 b1:AA st.h 1=some (.cells 22 1 [lw] false)
 Pv:AA st.h 2=some (.cells 22 1 us false)
 b3:AA st.h 3=some (.cells 83 1 [.AU 2 0 n (some n)] false)
 kf:AA st.h 4=some (.cells 4 1 (Cj (W.map Option.isSome)) false)
 b5:AA st.h 5=some (.cells 77 1 [.AU 4 0 n (some n)] false)
 ul:us.length=n
 wl:W.length=n
 UB:∀s (hs:s<us.length),Gq st.h 3 1 Fx us[s] (Ma W s)/\(∀p,Az us[s]=some p->6<=p)/\∀x∈Ma W s,x<n
 lens:∀s l,W[s]? =some (some l)->l.length=L.getD s 0/\l.length<=2000
theorem SV.grow{d g:AV}{n c a:Nat}{L:List Nat}{W:kQ}{f:List AV}{h b:Aa}(H:SV d g n L W f ⟨h,c,0⟩)(t:c<=a)(m:CL b<=a)(e:∀p,p<c->AA b p=AA h p):SV d g n L W f ⟨b,a,0⟩:=by have r:6<=c:=H.c6;have l:CL h<=c:=H.tp;refine⟨rfl,by show 6<=a;omega,m,(e 0 (by omega)).trans H.b0,(e 1 (by omega)).trans H.b1,(e 2 (by omega)).trans H.Pv,(e 3 (by omega)).trans H.b3,(e 4 (by omega)).trans H.kf,(e 5 (by omega)).trans H.b5,H.ul,H.wl,fun s q=>?_,H.lens⟩;obtain⟨i,k,o⟩:=H.UB s q;exact⟨i.heap fun p j=>e p (Bt (i.lt j) l),k,o⟩
theorem vZ{W:kQ}{s:Nat}{l:List Nat}(a:s<W.length)(x:Nat):Ma (W.set s (some l)) x=if x=s then l else Ma W x:=by
 unfold Ma;simp only[List.getD,FW];by_cases h:s=x
 ·subst h;simp[a]
 ·rw[AJ h,AJ (fun e=>h e.symm)]
theorem SV.put{J D w:AV}{n c s:Nat}{L l:List Nat}{W:kQ}{i:List AV}{h:Aa}(H:SV J D n L W i ⟨h,c,0⟩)(r:s<n)(G:Gq h 3 1 Fx w l)(F:∀p,Az w=some p->6<=p)(O:∀x∈l,x<n)(z:l.length=L.getD s 0)(B:l.length<=2000) :
 ∃e u,(∀o,BM 1 (.AL 2 s) w ⟨h,o,0⟩=some (.undef,⟨e,o,0⟩))/\(∀o,BM 1 (.AL 4 s) (.bool true) ⟨e,o,0⟩=some (.undef,⟨u,o,0⟩))/\(∀p,p≠2->AA e p=AA h p)/\SV J D n L (W.set s (some l)) (i.set s w) ⟨u,c,0⟩:=by
 have V:6<=c:=H.c6;have U:CL h<=c:=H.tp;have k:AA h 2=some (.cells 22 1 i false):=H.Pv;have S:AA h 4=some (.cells 4 1 (Cj (W.map Option.isSome)) false):=H.kf;obtain⟨T,Q⟩:=G.one;have y:s<i.length:=by rw[H.ul];exact r
 have A:s<W.length:=by rw[H.wl];exact r
 obtain⟨e,f⟩:∃e,e=Ah h 2 (.cells 22 1 (i.set s w) false):=⟨_,rfl⟩;have a:∀p,p≠2->AA e p=AA h p:=fun p j=>by rw[f,Bn (Aj j)]
 have t:AA e 4=some (.cells 4 1 (Cj (W.map Option.isSome)) false):=(a 4 (by omega)).trans S;obtain⟨b,g⟩:∃u,u=Ah e 4 (.cells 4 1 ((Cj (W.map Option.isSome)).set s (.bool true)) false):=⟨_,rfl⟩;have d:∀p,p≠4->AA b p=AA e p:=fun p j=>by rw[g,Bn (Aj j)]
 have K:∀p,6<=p->AA b p=AA h p:=fun p j=>(d p (by omega)).trans (a p (by omega));have Y:∀s (r:s<i.length) p,Az i[s]=some p->6<=p:=fun s r=>(H.UB s r).2.1;refine⟨e,b,fun o=>by rw[f];exact Oz k (CZ _) y T Q,fun o=>by rw[g];exact Oz t (CZ _) (by simpa [Cj]using A) rfl rfl,a,rfl,V,?_,?_,?_,?_,?_,?_,?_,by simpa using H.ul,by simpa using H.wl,fun x P=>?_,fun x m q=>?_⟩
 ·show CL b<=c;rw[g,Cg,f,Cg];exact U
 ·exact (d 0 (by omega)).trans ((a 0 (by omega)).trans H.b0)
 ·exact (d 1 (by omega)).trans ((a 1 (by omega)).trans H.b1)
 ·show AA b 2=_;rw[d 2 (by omega),f,Fy rfl,k];rfl
 ·exact (d 3 (by omega)).trans ((a 3 (by omega)).trans H.b3)
 ·show AA b 4=_;rw[g,Fy rfl,t];simp[Cj,GX]
 ·exact (d 5 (by omega)).trans ((a 5 (by omega)).trans H.b5)
 ·have v:x<i.length:=by simpa using P
  rw[vZ A];by_cases hxs:x=s
  ·subst hxs;rw[AX rfl];simp only[QY];exact⟨G.heap fun p j=>K p (F p j),F,O⟩
  ·rw[AJ hxs];rw[ML (Aj hxs)];obtain⟨R,I,N⟩:=H.UB x v;exact⟨R.heap fun p j=>K p (I p j),I,N⟩
 ·rw[FW]at q;by_cases hxs:s=x
  ·subst hxs;rw[AX rfl,AX A]at q;simp only[Ct]at q;subst q;exact⟨z,B⟩
  ·rw[AJ hxs]at q;exact H.lens x m q
def RF(W:kQ)(l:List Nat):List Nat:=l.flatMap (Ma W)
theorem fU{k c n Q j m:Nat}{cv lw w u X R:AV}{L l:List Nat}{W:kQ}{A:List AV}{h a:Aa}{ts:TS}(S:SV cv lw n L W A ⟨h,c,0⟩)(hl:Co u 1 (BI l))(hs:∀s∈l,s<n)(a2:l.length<=1000)(a0:(RF W l).length<=2000)(Z:GL 3 1 Fx c h w [] ⟨a,Q,0⟩)(K:ts.get 3=.AL 3 0)(z9:ts.get 9=w)(t:ts.get 45=u)(o:ts.get 46=.int .i64 (l.length:Int))(d:ts.get 47=.int .i64 0)(z:ts.get 0=.AL 0 0)(N:ts.get 1=.AL 1 0)(P:ts.get 2=.AL 5 0)(H:ts.get 7=X){B:Bool}(I:ts.get 5=.bool B)(g:ts.get 15=R)(b:ts.get 16=.int .i64 (m:Int))(f:ts.get 17=.int .i64 (j:Int)) :
 (Dm (Bc E (Ab E k) C.f107L1) E.k ts ⟨a,Q,0⟩).to fun x=>x.1=.exit 2/\Has x.2.1 [(0,.AL 0 0),(1,.AL 1 0),(2,.AL 5 0),(3,.AL 3 0),(5,.bool B),(7,X),(15,R),(16,.int .i64 (m:Int)),(17,.int .i64 (j:Int))]/\GL 3 1 Fx c h (x.2.1.get 9) (RF W l) x.2.2/\x.2.2.lo=0:=by
 refine Cy (fun (i:Nat) ts st=>i<=l.length/\Has ts [(0,.AL 0 0),(1,.AL 1 0),(2,.AL 5 0),(3,.AL 3 0),(5,.bool B),(7,X),(15,R),(16,.int .i64 (m:Int)),(17,.int .i64 (j:Int)),(45,u),(46,.int .i64 (l.length:Int)),(47,.int .i64 (i:Int))]/\GL 3 1 Fx c h (ts.get 9) (RF W (l.take i)) st/\st.lo=0) (fun i=>l.length-i) ?_ _ 0 _ _ ?_ ?_
 ·clear z N P K I H z9 g b f t o d Z a Q;rintro i ts ⟨a,Q,lo⟩ ⟨hi,O,G,D⟩;simp only at D;subst D;simp only[Be,CG,BX]at O;obtain⟨z,N,P,K,I,H,g,b,f,t,o,d⟩:=O;generalize hw:ts.get 9=w at G;by_cases Bi:i<l.length
  ·obtain⟨q,a1,b1⟩:=(Ku (h:=a) hl).rd Bi;have V:∀F,AY 1 u (.int .i64 (i:Int)) ⟨a,F,0⟩=some (q,⟨a,F,0⟩):=fun F=>a1 _ rfl;have J:=hs _ (BH Bi);have c6:6<=c:=S.c6;have y:∀p,p<c->AA a p=AA h p:=G.CY;have b3:AA a 3=some (.cells 83 1 [.AU 2 0 n (some n)] false):=(y 3 (by omega)).trans S.b3;have v:AA a 2=some (.cells 22 1 A false):=(y 2 (by omega)).trans S.Pv;have r3:AQ a (.AL 3 0)=some (.AU 2 0 n (some n)):=by rw[AR b3];rfl
   have T:=fun F=>KQ (c:=F) (lo:=0) v J;have hu:l[i]<A.length:=by rw[S.ul];exact J
   have ru:AQ a (.AL 2 l[i])=some A[l[i]]:=by rw[AR v];simp[hu]
   obtain⟨g1,g2,g3⟩:=S.UB l[i] hu;have Y:CL h<=c:=S.tp;have gY:Gq a 3 1 Fx A[l[i]] (Ma W l[i]):=g1.heap fun p hp=>y p (Bt (g1.lt hp) Y);have r:RF W (l.take (i+1))=RF W (l.take i)++Ma W l[i]:=by unfold RF;rw[Gy Bi,KH];simp
   have U:(RF W (l.take (i+1))).length<=(RF W l).length:=by
    have e:l=l.take (i+1)++l.drop (i+1):=(Kq _ _).symm;have:RF W l=RF W (l.take (i+1))++RF W (l.drop (i+1)):=by unfold RF;rw[←KH,Kq]
    rw[this,Bd];omega
   rw[r,Bd]at U;obtain⟨w',h2,e1,G2,_⟩:=G.app (bytes:=8) (fun _=>rfl) (by omega) gY (by omega) (by omega);rw[←r]at G2;simp[C.f107L1,z,N,P,K,I,H,g,b,f,t,o,d,hw,Bi,V,b1,r3,T,ru,e1,wi i];exact⟨i+1,by omega,by omega,by simp,G2⟩
  ·have:i=l.length:=by omega
   subst this;rw[FQ]at G;simp[C.f107L1,z,N,P,K,I,H,g,b,f,o,d,hw];exact G
 ·exact FX (by show l.length-0<1000000;omega)
 ·exact⟨by omega,by simp[z,N,P,K,I,H,g,b,f,t,o,d],by rw[z9];exact Z,rfl⟩
theorem jf{i j:AV}{n:Nat}{L:List Nat}{W:kQ}{q:List AV}{p:St}(S:SV i j n L W q p):∀{l:List Nat},(∀s∈l,s<n)->(∀s∈l,(W.getD s none).isSome=true)->(RF W l).length=(l.map fun s=>L.getD s 0).sum
 |[],_,_=>rfl
 |x::l,f,d=>by
  have h:=jf S (l:=l) (fun s c=>f s (Cu _ c)) (fun s c=>d s (Cu _ c));have o:=d x DN;obtain⟨m,g⟩:=Option.isSome_iff_exists.1 o;have a:x<W.length:=by rw[S.wl];exact f x DN
  have b:W[x]? =some (some m):=by
   have:W.getD x none=W[x]:=by simp[List.getD,a]
   rw[Bu a,←this,g]
  have e:=(S.lens x m b).1;have k:Ma W x=m:=by unfold Ma;rw[g];rfl
  unfold RF at h⊢;rw[Cn,Bd,h,Dh,List.sum_cons,k,e]
theorem yf{f d:AV}{n:Nat}{L l:List Nat}{W:kQ}{b:List AV}{g:St}(S:SV f d n L W b g)(c:∀s∈l,s<n):∀x∈RF W l,x<n:=fun x a=>by obtain⟨s,e,a⟩:=Ka.1 a;exact (S.UB s (by rw[S.ul];exact c s e)).2.2 x a
def lI(o:Option (List Nat)):Nat:=match o with|none=>2^8001|some l=>RV l
def tC(W:kQ):Nat:=(W.map lI).sum
theorem AAR{W:kQ}{s:Nat}{l:List Nat}(a:s<W.length)(h:RV l<lI W[s]):tC (W.set s (some l))<tC W:=by
 unfold tC;rw[GX];refine bN (by simpa using a) ?_;have:(W.map lI).getD s 0=lI W[s]:=by simp[List.getD,a]
 rw[this];exact h
theorem bz{k n c s:Nat}{f i:AV}{L:List Nat}{W:kQ}{o:List AV}{h:Aa}(S:SV f i n L W o ⟨h,c,0⟩)(d:s<n)(a:Nat) :
 Ab E (k+1) 109 [.int .i64 (s:Int),.AL 5 0] ⟨h,a,0⟩=.ret (.bool !(W.getD s none).isSome,⟨h,a,0⟩):=by
 rw[Av (fn:=C.f109) rfl rfl rfl,Ap (by simp)];have e:AA h 5=some (.cells 77 1 [.AU 4 0 n (some n)] false):=S.b5;have b:AA h 4=some (.cells 4 1 (Cj (W.map Option.isSome)) false):=S.kf;have l:AQ h (.AL 5 0)=some (.AU 4 0 n (some n)):=by rw[AR e];rfl
 have m:=fun a=>KQ (c:=a) (lo:=0) b d;have g:s<W.length:=by rw[S.wl];exact d
 have j:AQ h (.AL 4 s)=some (.bool (W.getD s none).isSome):=by rw[AR b];simp[Cj,g,List.getD]
 simp[-Bool.exists_bool,-List.getD_eq_getElem?_getD,C.f109,l,m,j,Al,results,Af]
theorem pz{l:List Nat}(h:∀x∈l,x<16)(a:l.length<=2000):RV l<lI none:=by
 have c:=Ya h;have b:(16:Nat)^l.length<=16^2000:=TB (by omega) a;have d:(16:Nat)^2000<2^8001:=by rw[show (16:Nat)=2^4 from rfl,←Nat.pow_mul];exact MN (by omega) (by omega)
 exact Bt c (DV b (Nat.le_of_lt d))
def SPx(cv lw:AV)(n:Nat)(L:List Nat)(W0:kQ)(v:AV)(st:St):Prop:=∃W us more,v=.bool more/\SV cv lw n L W us st/\tC W<=tC W0/\(more=true->tC W<tC W0)
section
variable {cv lw:AV}{g:Ac}{L:List Nat}
theorem YG{k:Nat}(hC:Gu cv g)(hs:g.Small)(f6:g.Ok)(d7:Co lw 1 (BI L))(f2:L.length=g.AB.length)(i0:∀s,s<L.length->L.getD s 0<=2199023255552)(rv:AV)(lr:List AV)(h2:Co rv 3 lr)(h3:lr.length=g.AP.length)(h4:∀j (hj:j<g.AP.length),∃w,lr[j]? =some (.agg [.int .i64 (g.ix g.AP[j].left:Nat),w,.int .i64 g.AP[j].level])/\Co w 1 (BI (g.AP[j].right.map g.ix))){W0:kQ}{d5:List AV}{st:St}(H:SV cv lw g.AB.length L W0 d5 st)(D:TS)(z0:D.get 0=.AL 0 0)(z1:D.get 1=.AL 1 0)(z2:D.get 2=.AL 5 0)(z3:D.get 3=.AL 3 0)(z5:D.get 5=.bool false)(u:D.get 15=rv)(d:D.get 16=.int .i64 (g.AP.length:Int))(o:D.get 17=.int .i64 ((0:Nat):Int)) :
 (Dm (Bc E (Ab E (k+3)) C.f107L0) E.k D st).to fun x=>x.1=.exit 0/\SPx cv lw g.AB.length L W0 (x.2.1.get 5) x.2.2:=by
 have g6:=hs.many;refine Cy (fun (i:Nat) ts st=>i<=g.AP.length/\Has ts [(0,.AL 0 0),(1,.AL 1 0),(2,.AL 5 0),(3,.AL 3 0),(15,rv),(16,.int .i64 (g.AP.length:Int)),(17,.int .i64 (i:Int))]/\SPx cv lw g.AB.length L W0 (ts.get 5) st)
  (fun i=>g.AP.length-i) ?_ _ 0 _ _ ?_ ?_
 ·clear z0 z1 z2 z3 z5 u d o H;rintro i ts ⟨h,c,lo⟩ ⟨hi,e4,W,Q,more,z5,H,a5,hM⟩;have I:=H.lo;simp only at I;subst I;simp only[Be,CG,BX]at e4;obtain⟨z0,z1,z2,z3,u,d,o⟩:=e4;by_cases Bi:i<g.AP.length
  ·have e6:i<lr.length:=by omega
   obtain⟨w,e1,e2⟩:=h4 i Bi;rw[Bu e6,Ct]at e1;have V:=BH Bi;have j0:=(hs.AP _ V).right;have c6:6<=c:=H.c6;have tp:CL h<=c:=H.tp;obtain⟨z,d6⟩:∃s,s=g.ix g.AP[i].left:=⟨_,rfl⟩;have K:z<g.AB.length:=d6▸vU (Ac.Iu V);rw[←d6]at e1;obtain⟨l,hl⟩:∃l,l=g.AP[i].right.map g.ix:=⟨_,rfl⟩;rw[←hl]at e2;have a7:∀s∈l,s<g.AB.length:=fun s hs=>by rw[hl]at hs;obtain⟨y,hy,rfl⟩:=BP.1 hs;exact vU (Ac.NF f6 V hy)
   have g4:l.length<=1000:=by rw[hl,Fz];omega
   obtain⟨rc,Y⟩:∃rc:List AV,rc=[.int .i64 (z:Int),w,.int .i64 g.AP[i].level]:=⟨_,rfl⟩;obtain⟨v,b2⟩:∃v:Aa,v=(c,BJ.cells 218 3 rc false)::h:=⟨_,rfl⟩;have fr:∀p,p<c->AA v p=AA h p:=fun p hp=>by rw[b2,Dt hp]
   have d4:CL v<=c+1:=by rw[b2,Ay];omega
   have H':SV cv lw g.AB.length L W Q ⟨v,c+1,0⟩:=H.grow (by omega) d4 fr;have O:AY 3 rv (.int .i64 (i:Int)) ⟨h,c+1,0⟩=some (.CB lr[i].cells,⟨h,c+1,0⟩):=h2.idx e6;have b0:lr[i].cells=rc:=by rw[e1,Y];rfl
   rw[b0]at O;have hn:BA c (.cells 218 3 [.int .i64 0,.AO,.int .i64 0] false) ⟨h,c+1,0⟩=some ⟨(c,.cells 218 3 [.int .i64 0,.AO,.int .i64 0] false)::h,c+1,0⟩:=BF tp;have T:=Ic (h:=h) (c:=c) (c':=c+1) (lo:=0) (ty:=218) (n:=3) (zs:=[.int .i64 0,.AO,.int .i64 0]) (vs:=rc) (by omega) (by rw[Y];rfl) rfl;rw[←b2]at T;have N:Ak h (.CB rc) 3=some rc:=by rw[Y];rfl
   have a8:∀F:Aa,(∀p,p<c+1->p≠2->AA F p=AA v p)->AQ F (.AL c 0)=some (.int .i64 (z:Int))/\AQ F (.AL c 1)=some w/\AQ F (.AL 1 0)=some lw/\AQ F (.AL 3 0)=some (.AU 2 0 g.AB.length (some g.AB.length))/\AQ F (.AL 5 0)=some (.AU 4 0 g.AB.length (some g.AB.length)):=fun F e=>by
    have fc:AA F c=some (.cells 218 3 rc false):=by rw[e c (by omega) (by omega),b2,AZ,AX rfl]
    have f1:=(e 1 (by omega) (by omega)).trans H'.b1;have f3:=(e 3 (by omega) (by omega)).trans H'.b3;have f5:=(e 5 (by omega) (by omega)).trans H'.b5;refine⟨by rw[AR fc,Y];rfl,by rw[AR fc,Y];rfl,by rw[AR f1];rfl,by rw[AR f3];rfl,by rw[AR f5];rfl⟩
   obtain⟨a9,d1,rl,ro,rk⟩:=a8 v fun _ _ _=>rfl;obtain⟨t,f9⟩:∃t,t=L.getD z 0:=⟨_,rfl⟩;have e0:z<L.length:=by rw[f2];exact K
   have b4:∀st:St,AY 1 lw (.int .i64 (z:Int)) st=some (.CB [.int .i64 (t:Int)],st):=fun st=>by rw[d7.idx (by simpa using e0)];simp[BI,AV.cells,f9,List.getD,e0]
   have skip:∀{ts:TS},True:=trivial;by_cases hbig:2000<t
   ·have S:(2000:Int)<(t:Int):=by omega
    simp[-Bool.exists_bool,-List.getD_eq_getElem?_getD,C.f107L0,z0,z1,z2,z3,z5,u,d,o,Bi,O,-Cw,N,hn,T,a9,rl,b4,S,Da,wi i];exact⟨i+1,by omega,by omega,by simp,W,Q,more,rfl,H',a5,hM⟩
   ·have S:¬(2000:Int)<(t:Int):=by omega
    have I:=Uk (k:=k+1) (c:=c+1) (lo:=0) (Ku (h:=v) d7) (Ku (h:=v) e2) i0 (fun s hs=>by rw[f2];exact a7 s hs) (by omega);obtain⟨m,hm⟩:∃m,m=Rw L l 0:=⟨_,rfl⟩;rw[←hm]at I;by_cases hmn:m=t
    ·have e3:((m:Int) !=(t:Int))=false:=by rw[hmn];simp
     obtain⟨el,j2⟩:∃el:Nat->Int,∀i,el i=((l.getD i 0:Nat):Int):=⟨_,fun _=>rfl⟩;have A:=RX (k:=k+1) (n:=l.length) (fc:=109) (w:=w) (a:=[]) (b:=[.AL 5 0]) (el:=fun i=>((l.getD i 0:Nat):Int)) (p:=fun i=>!(W.getD (l.getD i 0) none).isSome) (st:=⟨v,c+1,0⟩) (Ku (h:=v) e2).len (by omega) (fun i hi=>by
      obtain⟨q,a1,b1⟩:=(Ku (h:=v) e2).rd hi
      refine⟨q,a1 _ rfl,?_⟩
      rw[b1];simp[List.getD,hi]) (fun i hi=>by
      have e:l.getD i 0=l[i]:=by simp[List.getD,hi]
      have:=bz (k:=k) H' (s:=l.getD i 0) (by rw[e];exact a7 _ (BH hi)) (c+1)
      simpa using this)
     by_cases hun:∃i,i<l.length/\(!(W.getD (l.getD i 0) none).isSome)=true
     ·rw[Bw hun]at A;have J:Ab E (k+3) 108 [w,.fn (.func 109) [] [.AL 5 0]] ⟨v,c+1,0⟩=.ret (.bool true,⟨v,c+1,0⟩):=A;clear A;simp[-Bool.exists_bool,-List.getD_eq_getElem?_getD,C.f107L0,z0,z1,z2,z3,z5,u,d,o,Bi,O,-Cw,N,hn,T,a9,d1,rl,b4,S,I,hmn,J,Cm,wi i];exact⟨i+1,by omega,by omega,by simp,W,Q,more,rfl,H',a5,hM⟩
     ·rw[FP hun]at A;have J:Ab E (k+3) 108 [w,.fn (.func 109) [] [.AL 5 0]] ⟨v,c+1,0⟩=.ret (.bool false,⟨v,c+1,0⟩):=A;clear A;have d8:∀s∈l,(W.getD s none).isSome=true:=fun s hs=>by
       obtain⟨j,hj,rfl⟩:=Du hs;have e:l.getD j 0=l[j]:=by simp[List.getD,hj]
       cases hq:(W.getD l[j] none).isSome with
       |true=>rfl
       |false=>exact absurd ⟨j,hj,by rw[e,hq];rfl⟩ hun
      have c5:(RF W l).length=t:=by rw[jf H' a7 d8];have:=(Yk L l 0 (by rw[←hm];omega)).1;omega
      have a6:=yf H' a7;have a4:t*8<=room/\t<=room:=by unfold room;omega
      have mk:Dy (c+1) 3 1 8 [.int .i64 0] (.int .i64 0) (.int .i64 (t:Int))=some (.AU (c+1) 0 0 (some t),.cells 3 1 (BI (List.replicate t 0)) false):=by have a0:asNat (.int .i64 0)=some 0:=rfl;simp[Dy,Bg,a0,ble_eq,blt_eq,a4.1,a4.2,Iq,BI]
      obtain⟨F,P⟩:∃F:Aa,F=(c+1,.cells 3 1 (BI (List.replicate t 0)) false)::v:=⟨_,rfl⟩;have n1:BA (c+1) (.cells 3 1 (BI (List.replicate t 0)) false) ⟨v,c+2,0⟩=some ⟨F,c+2,0⟩:=by rw[P];exact BF d4
      have G0:GL 3 1 Fx (c+1) v (.AU (c+1) 0 0 (some t)) [] ⟨F,c+2,0⟩:=by
       refine⟨CZ _,by show c+1<=c+2;omega,?_,fun p hp=>?_,?_,fun p hp=>?_⟩
       ·show CL F<=c+2;rw[P,Ay];omega
       ·show AA F p=_;rw[P,Ar (by omega)]
       ·show Gq F 3 1 Fx _ _;have f:AA F (c+1)=some (.cells 3 1 (([]:List Nat).flatMap Fx++BI (List.replicate t 0)) false):=by rw[P];exact BV rfl
        have:=Gq.ob (enc:=Fx) (c+1) [] _ false (some (0+t)) f (.inr ⟨t,rfl,by simp⟩);simpa using this
       ·simp[Az]at hp;omega
      have l1:=fun ts z0 z1 z2 z3 z5 z7 z9 u d o g8 g0 g7=>fU (k:=k+3) (ts:=ts) (X:=.AL c 0) (j:=i) (B:=more) (R:=rv) (m:=g.AP.length) H' e2 a7 g4 (by rw[c5];omega) G0 z3 z9 g8 g0 g7 z0 z1 z2 z7 z5 u d o;have f7:∀st:St,BZ .slice w st=some (.int .i64 (l.length:Int),st):=fun st=>by have:=(Ku (h:=v) e2).len;simp[BZ,this]
      obtain⟨i7,f8,i6,j1,i5⟩:=a8 F fun p hp _=>by rw[P,Ar (by omega)]
      simp[-Bool.exists_bool,-List.getD_eq_getElem?_getD,C.f107L0,z1,z2,u,d,o,Bi,O,-Cw,N,hn,T,a9,d1,rl,b4,S,I,hmn,J,mk,n1,f8,f7,Cm];refine M.BG (l1 _ (by simp[z0]) (by simp[z1]) (by simp[z2]) (by simp[z3]) (by simp[z5]) (by simp) (by simp) (by simp[u]) (by simp[d]) (by simp[o]) (by simp) (by simp) (by simp)) fun x hx=>?_;clear l1;obtain⟨e,h9,⟨h2,c2,i8⟩⟩:=x;obtain⟨rfl,b8,G2,b7⟩:=hx;simp only at b7;subst b7;simp only at G2;simp only[Be,CG,BX]at b8;obtain⟨y0,y1,y2,y3,y5,y7,c7,d3,c8⟩:=b8;generalize c0:h9.get 9=w9 at G2;have a2:∀p,p<c+1->AA h2 p=AA v p:=G2.CY;have g9:c+1<=c2:=G2.c1;have h8:CL h2<=c2:=G2.tp;have H2:SV cv lw g.AB.length L W Q ⟨h2,c2,0⟩:=H'.grow g9 h8 a2;obtain⟨Z,i1,j3,c4,c9⟩:=a8 h2 fun p hp _=>a2 p hp;have c3:AA h2 4=some (.cells 4 1 (Cj (W.map Option.isSome)) false):=H2.kf;have e9:AA h2 2=some (.cells 22 1 Q false):=H2.Pv;have d2:=fun cc=>KQ (c:=cc) (lo:=0) c3 K;have d0:=fun cc=>KQ (c:=cc) (lo:=0) e9 K;have hW:z<W.length:=by rw[H2.wl];exact K
      have e5:z<Q.length:=by rw[H2.ul];exact K
      have a3:AQ h2 (.AL 4 z)=some (.bool W[z].isSome):=by rw[AR c3];simp[Cj,hW]
      have d9:AQ h2 (.AL 2 z)=some Q[z]:=by rw[AR e9];simp[e5]
      obtain⟨h3,h6,s3,s4,f0,S4⟩:=H2.put (s:=z) (w:=w9) (l:=RF W l) K G2.g (fun p hp=>by have:=G2.own p hp;omega) a6 (by omega) (by omega);obtain⟨U,h0,i3,i4,b6⟩:=a8 h3 fun p hp f4=>(f0 p f4).trans (a2 p hp);have h5:AA h3 4=some (.cells 4 1 (Cj (W.map Option.isSome)) false):=(f0 4 (by omega)).trans c3;have b9:=fun cc=>KQ (c:=cc) (lo:=0) h5 K;have e8:∀x∈RF W l,x<16:=fun x hx=>by have:=a6 x hx;have:=Ue hs;omega
      have done:RV (RF W l)<lI W[z]->SPx cv lw g.AB.length L W0 (.bool true) ⟨h6,c2,0⟩:=fun hv=>by have:=AAR hW hv;exact⟨_,_,true,rfl,S4,by omega,fun _=>by omega⟩
      cases hk:W[z] with
      |none=>rw[hk]at a3 done;simp[-Bool.exists_bool,-List.getD_eq_getElem?_getD,y0,y1,y2,y3,y7,c7,d3,c8,c0,Z,c9,d2,a3,c4,d0,s3,s4,U,b6,b9,Dp,DX,Dl,Cc,Ci,DK,beq_eq,AV.DU,Da,wi i];exact⟨i+1,by omega,by omega,by simp,done (pz e8 (by omega))⟩
      |some e7=>
       rw[hk]at a3 done;obtain⟨g1,g2,g3⟩:=H2.UB z e5;have h7:Gq h2 3 1 Fx Q[z] (Ma W z):=g1;obtain⟨r,er,hr⟩:=jX (k:=k) (c:=c2) (lo:=0) (Gq.rs (fun _=>rfl) G2.g) (Gq.rs (fun _=>rfl) h7) (by omega);have g5:Ma W z=e7:=by unfold Ma;simp[List.getD,hW,hk]
       rw[g5]at hr;have i9:=H2.lens z e7 (by rw[Bu hW,hk]);by_cases hneg:r<0
       ·simp[-Bool.exists_bool,-List.getD_eq_getElem?_getD,y0,y1,y2,y3,y7,c7,d3,c8,c0,Z,c9,d2,a3,c4,d0,d9,er,hneg,s3,s4,U,b6,b9,Dp,DX,Dl,Cc,Ci,DK,beq_eq,AV.DU,Cm,wi i];exact⟨i+1,by omega,by omega,by simp,done (Yb e8 (by omega) (hr hneg (by omega)))⟩
       ·simp[-Bool.exists_bool,-List.getD_eq_getElem?_getD,y0,y1,y2,y3,y5,y7,c7,d3,c8,c0,Z,c9,d2,a3,c4,d0,d9,er,hneg,Cm,wi i];exact⟨i+1,by omega,by omega,by simp,W,Q,more,rfl,H2,a5,hM⟩
    ·have e3:((m:Int) !=(t:Int))=true:=Ho.2 (by omega);have i2:¬(m:Int)=(t:Int):=by omega
     simp[-Bool.exists_bool,-List.getD_eq_getElem?_getD,C.f107L0,z0,z1,z2,z3,z5,u,d,o,Bi,O,-Cw,N,hn,T,a9,d1,rl,b4,S,I,e3,Cm,Da,wi i];exact⟨i+1,by omega,by omega,by simp,W,Q,more,rfl,H',a5,hM⟩
  ·have:i=g.AP.length:=by omega
   subst this;simp[-Bool.exists_bool,-List.getD_eq_getElem?_getD,C.f107L0,z5,d,o];exact⟨W,Q,more,rfl,H,a5,hM⟩
 ·exact FX (by show g.AP.length-0<1000000;omega)
 ·exact⟨by omega,by simp[z0,z1,z2,z3,u,d,o],W0,d5,false,z5,H,Ao _,fun h=>by cases h⟩
end
end Go.Am
