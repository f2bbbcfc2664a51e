/- A part of tablesStay. -/
import Derived.Test.YthnghmpbgomacaaGreatDoorT1
set_option maxHeartbeats 2000000
namespace Go.Am
open Go
inductive Read
 |bad (n:Nat)
 |done (n:Nat) (g:Ac)
def RSl(h:Aa)(rv:AV)(ls:List AV):Prop:=(rv=.AO/\ls=[])∨∃id,rv=.AU id 0 ls.length none/\AA h id=some (.cells 63 3 (ls.flatMap AV.cells) true)
structure RdG (oo:Nat)(g:Ac)(kv rv:AV)(ls:List AV)(S0 st:St):Prop where
 at_:AA st.h oo=some (.cells 29 3 [kv,.str g.Ai,rv] false)
 Ae:Co kv 1 (Bf g.Ae)
 AP:Gg ls g.AP
 sl:RSl st.h rv ls
 own:∀p,Az rv=some p->S0.c<=p/\p<st.c
 c:S0.c<=st.c
 lo:st.lo=0
 tp:CL st.h<=st.c
 oc:oo<S0.c
 fr:∀p,p<S0.c->p≠oo->AA st.h p=AA S0.h p
structure RdF (oo:Nat)(S0 st:St):Prop where
 c:S0.c<=st.c
 lo:st.lo=0
 tp:CL st.h<=st.c
 fr:∀p,p<S0.c->p≠oo->AA st.h p=AA S0.h p
theorem RdG.f{b:Nat}{g:Ac}{d h:AV}{e:List AV}{a st:St}(H:RdG b g d h e a st):RdF b a st:=⟨H.c,H.lo,H.tp,H.fr⟩
theorem jk:∀s:Bz,(IY s).length=s.length
 |[]=>rfl
 |b::s=>by simp[IY]
theorem RZ:∀s:Bz,bytesOf (IY s)=some s
 |[]=>rfl
 |b::s=>by show bytesOf (.int .u8 b.toNat::IY s)=_;rw[bytesOf,RZ s,uk]
structure Bld (bid:Nat)(out:Bz)(a w:AV)(st:St):Prop where
 at_:AA st.h bid=some (.cells 124 2 [a,w] false)
 adr:a=.DY∨a=.AL bid 0
 buf:Acc st.h 5 w (IY out)
 ne:∀p,Az w=some p->p≠bid
 tp:CL st.h<=st.c
 lo:st.lo=0
theorem AFT{c:Nat}{a b:AV}(e:a.CY c=true)(d:b.CY c=true):AV.Dq c [a,b]=true:=by simp[AV.Dq,e,d]
theorem ACS{k:Nat}{v1 v2:AV}{r1 r2:Dw}{st:St}(F:UK v1 r1)(w:UK v2 r2)(y:r1.right.length<1000000)(x:CL st.h<=st.c):Ab E (k+2) 31 [v1,v2] st=.ret (.bool (decide (r1=r2)),st):=by
 obtain⟨j,rfl,z⟩:=F;obtain⟨m,rfl,D⟩:=w;rw[FD (fn:=C.f31) rfl rfl rfl,Ap (by simp)];obtain⟨h,c,K⟩:=st;have s:CL h<=c:=x;have l:BA c (.cells 63 3 [.str r1.left,j,.int .i64 r1.level] false) ⟨h,c+2,c⟩=some ⟨(c,.cells 63 3 [.str r1.left,j,.int .i64 r1.level] false)::h,c+2,c⟩:=BF s;obtain⟨g,e⟩:∃g:Aa,g=(c,BJ.cells 63 3 [.str r1.left,j,.int .i64 r1.level] false)::h:=⟨_,rfl⟩;have t:CL g<=c+1:=by rw[e,Ay];omega
 have n:BA (c+1) (.cells 63 3 [.str r2.left,m,.int .i64 r2.level] false) ⟨g,c+2,c⟩=some ⟨(c+1,.cells 63 3 [.str r2.left,m,.int .i64 r2.level] false)::g,c+2,c⟩:=BF t;obtain⟨d,f⟩:∃d:Aa,d=(c+1,BJ.cells 63 3 [.str r2.left,m,.int .i64 r2.level] false)::g:=⟨_,rfl⟩;rw[←e]at l;rw[←f]at n;have o:AA d c=some (.cells 63 3 [.str r1.left,j,.int .i64 r1.level] false):=by rw[f,Ar (by omega),e,BV rfl]
 have q:AA d (c+1)=some (.cells 63 3 [.str r2.left,m,.int .i64 r2.level] false):=by rw[f,BV rfl]
 have r:AQ d (.AL c 0)=some (.str r1.left):=by rw[AR o];rfl
 have H:AQ d (.AL c 1)=some j:=by rw[AR o];rfl
 have u:AQ d (.AL c 2)=some (.int .i64 r1.level):=by rw[AR o];rfl
 have p:AQ d (.AL (c+1) 0)=some (.str r2.left):=by rw[AR q];rfl
 have B:AQ d (.AL (c+1) 1)=some m:=by rw[AR q];rfl
 have v:AQ d (.AL (c+1) 2)=some (.int .i64 r2.level):=by rw[AR q];rfl
 have A:=Sv (k:=k) (st:=⟨d,c+2,c⟩) (Reads.sO (h:=d) z) (Reads.sO (h:=d) D) y;have i:decide (r1=r2)=((r1.left==r2.left)&&((r1.level==r2.level)&&decide (r1.right=r2.right))):=by rw[KZ];obtain⟨L,J,l⟩:=r1;obtain⟨N,I,n⟩:=r2;simp only[Aw,Aq,IJ,Dw.mk.injEq];exact⟨fun⟨a,b,c⟩=>⟨a,c,b⟩,fun⟨a,b,c⟩=>⟨a,c,b⟩⟩
 rw[i];cases e1:(r1.left==r2.left) with
 |false=>simp[C.f31,Da,l,n,r,p,e1,Al,results,Af]
 |true=>
  cases e2:(r1.level==r2.level) with
  |false=>simp[C.f31,Cm,Da,l,n,r,p,u,v,e1,e2,Al,results,Af]
  |true=>simp[C.f31,Cm,l,n,r,p,H,B,u,v,e1,e2,A,Al,results,Af]
theorem ZB{k:Nat}{v1 v2:AV}{u t:List AV}{a b:List Dw}{st:St}(h1:Co v1 3 u)(Y:Co v2 3 t)(q1:Gg u a)(q2:Gg t b)(hs:∀r∈a,r.right.length<1000000)(hn:a.length<1000000)(hb:CL st.h<=st.c)(V:st.lo<=st.c) :
 (Ab E (k+3) 30 [v1,v2,.fn (.func 31) [] []] st).to fun x=>x.1=.bool (decide (a=b)):=by
 rw[Av (fn:=C.f30) rfl rfl rfl,Ap (by simp)];have U:=q1.length;have e2:=q2.length;by_cases hl:a.length=b.length
 ·have w:((u.length:Int) !=(t.length:Int))=false:=by rw[U,e2,hl];simp
  have d:∀S:St,BZ .slice v1 S=some (.int .i64 (u.length:Int),S):=fun S=>h1.len;have f:∀S:St,BZ .slice v2 S=some (.int .i64 (t.length:Int),S):=fun S=>Y.len;simp[-bne_self_eq_false,C.f30,d,f,w];refine M.BG (Df (fun (i:Nat) I l=>i<=a.length/\CL l.h<=l.c/\l.lo<=l.c/\Has I [(1,v2),(2,.fn (.func 31) [] []),(15,v1),(16,.int .i64 (a.length:Int)),(17,.int .i64 (i:Int))]/\a.take i=b.take i)
   (fun i=>a.length-i) (fun e I l=>(e=.exit 0/\a=b)∨(e=.ret/\I.get 6=.bool false/\a≠b)) ?step _ 0 _ _ ?_ ?_) ?_
  case step=>
   rintro i I ⟨h,c,lo⟩ ⟨hi,tp,W,N,F⟩;simp only[Be,CG,BX]at N;obtain⟨z1,z2,L,z,A⟩:=N;by_cases Bi:i<a.length
   ·have R:CL h<=c:=tp;have a4:lo<=c:=W;obtain⟨w1,a1,a2⟩:=(q1.get i Bi).2;obtain⟨w2,b1,b2⟩:=(q2.get i (by omega)).2;have P:i<u.length:=by omega
    have H:i<t.length:=by omega
    obtain⟨s,o⟩:∃s:List AV,s=[.str a[i].left,w1,.int .i64 a[i].level]:=⟨_,rfl⟩;obtain⟨q,m⟩:∃q:List AV,q=[.str (b[i]'(by omega)).left,w2,.int .i64 (b[i]'(by omega)).level]:=⟨_,rfl⟩;have B:AY 3 v1 (.int .i64 (i:Int)) ⟨h,c+1,lo⟩=some (.CB u[i].cells,⟨h,c+1,lo⟩):=h1.idx P;have Z:u[i].cells=s:=by rw[a1,o];rfl
    rw[Z]at B;have K:Ak h (.CB s) 3=some s:=by rw[o];rfl
    have n1:BA c (.cells 63 3 [.str [],.AO,.int .i64 0] false) ⟨h,c+1,lo⟩=some ⟨(c,.cells 63 3 [.str [],.AO,.int .i64 0] false)::h,c+1,lo⟩:=BF R;have t1:=Ic (h:=h) (c:=c) (c':=c+1) (lo:=lo) (ty:=63) (n:=3) (zs:=[.str [],.AO,.int .i64 0]) (vs:=s) (by omega) (by rw[o];rfl) rfl;obtain⟨p,D⟩:∃p:Aa,p=(c,BJ.cells 63 3 s false)::h:=⟨_,rfl⟩;rw[←D]at t1;have a0:CL p<=c+1:=by rw[D,Ay];omega
    have y:AY 3 v2 (.int .i64 (i:Int)) ⟨p,c+1+1,lo⟩=some (.CB t[i].cells,⟨p,c+1+1,lo⟩):=Y.idx H;have a3:t[i].cells=q:=by rw[b1,m];rfl
    rw[a3]at y;have O:Ak p (.CB q) 3=some q:=by rw[m];rfl
    have n2:BA (c+1) (.cells 63 3 [.str [],.AO,.int .i64 0] false) ⟨p,c+1+1,lo⟩=some ⟨(c+1,.cells 63 3 [.str [],.AO,.int .i64 0] false)::p,c+1+1,lo⟩:=BF a0;have t2:=Ic (h:=p) (c:=c+1) (c':=c+1+1) (lo:=lo) (ty:=63) (n:=3) (zs:=[.str [],.AO,.int .i64 0]) (vs:=q) (by omega) (by rw[m];rfl) rfl;obtain⟨j,g⟩:∃j:Aa,j=(c+1,BJ.cells 63 3 q false)::p:=⟨_,rfl⟩;rw[←g]at t2;have Q:CL j<=c+2:=by rw[g,Ay];omega
    have r1:Ak j (.AL c 0) 3=some s:=FI (by rw[g,Ar (by omega),D,BV rfl]) (by rw[o];rfl);have r2:Ak j (.AL (c+1) 0) 3=some q:=FI (by rw[g,BV rfl]) (by rw[m];rfl);have v:=ACS (k:=k) (v1:=.agg s) (v2:=.agg q) (r1:=a[i]) (r2:=b[i]'(by omega)) (st:=⟨j,c+1+1,lo⟩) ⟨w1,by rw[o],a2⟩ ⟨w2,by rw[m],b2⟩ (hs _ (BH Bi)) Q;by_cases he:a[i]=b[i]'(by omega)
    ·rw[Bw he]at v;simp[C.f30L0,z1,z2,L,z,A,Bi,B,-Cw,K,n1,t1,y,O,n2,t2,r1,r2,v,wi i];refine⟨i+1,by omega,by omega,Q,by omega,by simp,?_⟩;rw[Gy Bi,Gy (show i<b.length by omega),F,he]
    ·rw[FP he]at v;simp[C.f30L0,z1,z2,L,z,A,Bi,B,-Cw,K,n1,t1,y,O,n2,t2,r1,r2,v];intro e;subst e;exact he rfl
   ·have:i=a.length:=by omega
    subst this;simp[C.f30L0,z,A];rw[FQ,hl,FQ]at F;exact F
  ·exact FX (by show a.length-0<1000000;omega)
  ·exact⟨by omega,hb,V,by simp[U],by simp⟩
  ·rintro⟨e,I,a5⟩ J;rcases J with⟨rfl,J⟩|⟨rfl,h6,J⟩
   ·simp[Al,results,Af,J]
   ·simp only at h6;simp[Al,results,Af,h6,J]
 ·have w:((u.length:Int) !=(t.length:Int))=true:=by rw[U,e2];simp;omega
  have d:∀S:St,BZ .slice v1 S=some (.int .i64 (u.length:Int),S):=fun S=>h1.len;have f:∀S:St,BZ .slice v2 S=some (.int .i64 (t.length:Int),S):=fun S=>Y.len;have T:a≠b:=fun e=>hl (by rw[e]);simp[C.f30,d,f,w,Al,results,Af,T]
theorem XK{k:Nat}{B F:AV}{a b:Ac}{st:St}(z:GD B a)(y:GD F b)(s:a.We):Ab E (k+4) 12 [B,F] st=.ret (.bool (decide (a=b)),st):=by
 have P:=z.Ow 0;have O:=y.Ow 0;obtain⟨d,c,l1,rfl,V,W,N⟩:=z;obtain⟨f,e,l2,rfl,K,T,L⟩:=y;rw[GH (fn:=C.f12) rfl rfl rfl (AFT P O),Ap (by simp)];have I:=s.Ae;have p:=s.many;have t:BA 0 (.cells 29 3 [d,.str a.Ai,c] false) ⟨[],2,0⟩=some ⟨[(0,.cells 29 3 [d,.str a.Ai,c] false)],2,0⟩:=rfl;obtain⟨h,j⟩:∃h:Aa,h=[(1,BJ.cells 29 3 [f,.str b.Ai,e] false),(0,.cells 29 3 [d,.str a.Ai,c] false)]:=⟨_,rfl⟩;have n:BA 1 (.cells 29 3 [f,.str b.Ai,e] false) ⟨[(0,.cells 29 3 [d,.str a.Ai,c] false)],2,0⟩=some ⟨h,2,0⟩:=by rw[j];rfl
 have R:CL h<=2:=by rw[j,Ay,Ay];exact⟨by omega,by omega,CZ _⟩
 have l:AA h 0=some (.cells 29 3 [d,.str a.Ai,c] false):=by rw[j];rfl
 have m:AA h 1=some (.cells 29 3 [f,.str b.Ai,e] false):=by rw[j];rfl
 have u:AQ h (.AL 0 0)=some d:=by rw[AR l];rfl
 have D:AQ h (.AL 0 1)=some (.str a.Ai):=by rw[AR l];rfl
 have Q:AQ h (.AL 0 2)=some c:=by rw[AR l];rfl
 have o:AQ h (.AL 1 0)=some f:=by rw[AR m];rfl
 have A:AQ h (.AL 1 1)=some (.str b.Ai):=by rw[AR m];rfl
 have J:AQ h (.AL 1 2)=some e:=by rw[AR m];rfl
 have i:=Sv (k:=k+2) (st:=⟨h,2,0⟩) (Reads.sO (h:=h) V) (Reads.sO (h:=h) K) (by omega);have g:decide (a=b)=(decide (a.Ae=b.Ae)&&((a.Ai==b.Ai)&&decide (a.AP=b.AP))):=by rw[KZ];obtain⟨x1,x2,Y⟩:=a;obtain⟨Z,y2,y3⟩:=b;simp only[Aw,Aq,IJ,Ac.mk.injEq]
 have main:((Bc E (Ab E (k+3)) C.f12.body (TS.FK [.agg [d,.str a.Ai,c],.agg [f,.str b.Ai,e]] 0 .nil) ⟨[],0,0⟩).bind (Al C.f12.results)).to fun x=>x.1=.bool (decide (a=b)):=by
  rw[g];cases e1:decide (a.Ae=b.Ae) with
  |false=>rw[e1]at i;simp[C.f12,Da,t,n,u,o,i,Al,results,Af]
  |true=>
   rw[e1]at i;cases e2:(a.Ai==b.Ai) with
   |false=>simp[C.f12,Cm,Da,t,n,u,o,D,A,e2,i,Al,results,Af]
   |true=>have q:=ZB (k:=k) (st:=⟨h,2,0⟩) W T N L (fun r q=>by have:=(s.AP r q).right;omega) (by omega) R (CZ _);simp[C.f12,Cm,t,n,u,o,D,A,Q,J,e2,i,Al,results,Af];refine M.BG q fun x H=>?_;obtain⟨w,S⟩:=x;simp only at H;subst H;simp
 obtain⟨⟨w,S⟩,U,v⟩:=main;simp only at v;subst v;rw[U,M.JZ];exact Jk rfl
end Go.Am
