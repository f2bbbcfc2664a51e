/- A part of tablesStay. -/
import Derived.Test.YthnghmpbgomacaaGreatDoorQ5
set_option maxHeartbeats 4000000
namespace Go.Am
 attribute [local irreducible] bigK
open Go
def bL(x:Int):List AV:=[.int .i64 x]
def ACR(m b:Nat):Int:=(m:Int).fdiv (2^min b 64)
def ADV(x:Int):Int:=IntKind.u64.wrap ((BitVec.ofInt 64 x &&& BitVec.ofInt 64 1).toNat:Nat)
theorem ABM{m b:Nat}:bin .shr (.int .u64 (m:Int)) (.int .i64 (b:Int))=some (.int .u64 (ACR m b)):=by show (if (b:Int)<0 then none else some (AV.int .u64 ((m:Int).fdiv (2^min (b:Int).toNat 64))))=_;rw[AJ (by omega),OL];rfl
theorem jr{x:Int}:bin .and (.int .u64 x) (.int .u64 1)=some (.int .u64 (ADV x)):=rfl
theorem gu{x y:Int}(a:St):∃z,TU [.int .i64 x,.int .i64 y] a=some (.int .i64 z,a):=by simp only[TU,Tu];exact⟨_,rfl⟩
def Wi(g:Ac)(r:Int):Prop:=-1<=r/\r<g.AP.length
theorem RS.z{h:Aa}{w:AV}{L:List Int}(H:RS h 1 bL w L){i:Nat}(d:i<L.length):∃q,(∀a lo,AY 1 w (.int .i64 (i:Int)) ⟨h,a,lo⟩=some (q,⟨h,a,lo⟩))/\AQ h q=some (.int .i64 L[i]):=by obtain⟨q,c,b⟩:=H.at_ i d;exact⟨q,fun _ _=>c _ rfl,b.zero (by simp[bL])⟩
def IsR(g:Ac)(v:AV):Prop:=∃r,Wi g r/\v=.int .i64 r
def IsM(i:Nat)(v:AV):Prop:=∃m:Int,0<=m/\m<=i/\v=.int .i64 m
def AGK(g:Ac)(st:St)(x:AV×St):Prop:=∃r b,Wi g r/\x=(.tuple [.int .i64 r,.bool b],st)
theorem yo{k c lo:Nat}{h:Aa}{v w:AV}{g:Ac}{F O:List Nat}{N:List Bool}{Z:List VZ}(A:JN v g F N O Z){L:List Int}(R:RS h 1 bL w L)(hL:L≠[])(hl:L.length<=1000)(W:∀r∈L,Wi g r) :
 ∃r b,Wi g r/\Ab E (k+2) 103 [v,w] ⟨h,c,lo⟩=.ret (.tuple [.int .i64 r,.bool b],⟨h,c,lo⟩):=by
 rw[FD (fn:=C.f103) rfl rfl rfl,Ap (by simp)];have H:0<L.length:=List.length_pos_iff.2 hL;obtain⟨Y,P,K⟩:=R.z H;have u:∀t lo,AY 1 w (.int .i64 0) ⟨h,t,lo⟩=some (Y,⟨h,t,lo⟩):=P;have wl:∀t lo,BZ .slice w ⟨h,t,lo⟩=some (.int .i64 (L.length:Int),⟨h,t,lo⟩):=fun t lo=>R.BZ _;have goal:(((Bc E (Ab E (k+1)) C.f103.body (TS.FK [v,w] 0 .nil) ⟨h,c,c⟩).bind (Al C.f103.results)).bind (BU c ⟨h,c,lo⟩)).to (AGK g ⟨h,c,lo⟩):=by
  simp[C.f103,u,K,wl];refine M.BG (Df (fun (i:Nat) j y=>i<=L.length/\Has j [(0,v),(13,w),(14,.int .i64 (L.length:Int)),(15,.int .i64 (i:Int))]/\y=⟨h,c,c⟩/\IsR g (j.get 6)/\IsM i (j.get 7)) (fun i=>L.length-i) (fun e j y=>e=.exit 0/\j.get 0=v/\y=⟨h,c,c⟩/\IsR g (j.get 6)/\IsM L.length (j.get 7)) ?_ _ 0 _ _ ?_ ?_) ?_
  ·rintro i j y ⟨hi,B,rfl,⟨r,a,n⟩,m,J,Q,l⟩;simp only[Be,CG,BX]at B;obtain⟨s,o,f,d⟩:=B;by_cases Bi:i<L.length
   ·obtain⟨q,S,I⟩:=R.z Bi;have T:=W _ (BH Bi);have U:=Ny (k:=k) (c:=c) (lo:=c) (h:=h) A T.1 T.2;have D:=Ny (k:=k) (c:=c) (lo:=c) (h:=h) A a.1 a.2;by_cases c1:PH g r<PH g L[i]
    ·simp[C.f103L0,s,n,l,o,f,d,Bi,S,I,U,D,c1,wi i];exact⟨i+1,by omega,by omega,by simp,⟨L[i],T,rfl⟩,1,by omega,by omega,rfl⟩
    ·by_cases c2:PH g L[i]=PH g r
     ·have p:(PH g L[i]==PH g r)=true:=by simp[c2]
      have wm:IntKind.i64.wrap (m+1)=m+1:=wrap64 (by omega) (by omega);simp[C.f103L0,s,n,l,o,f,d,Bi,S,I,U,D,c1,p,wm,wi i];exact⟨i+1,by omega,by omega,by simp,⟨r,a,rfl⟩,m+1,by omega,by omega,rfl⟩
     ·have p:(PH g L[i]==PH g r)=false:=by rw[Gm];exact c2
      simp[C.f103L0,s,n,l,o,f,d,Bi,S,I,U,D,c1,p,wi i];exact⟨i+1,by omega,by omega,by simp,⟨r,a,rfl⟩,m,by omega,by omega,rfl⟩
   ·have:i=L.length:=by omega
    subst this;simp[C.f103L0,s,n,l,f,d];exact⟨⟨r,a,rfl⟩,m,J,Q,rfl⟩
  ·exact FX (by show L.length-0<1000000;omega)
  ·exact⟨by omega,by simp,rfl,⟨L[0],W _ (BH H),by simp⟩,0,Int.le_refl _,by omega,by simp⟩
  ·rintro⟨e,j,y⟩ ⟨rfl,s,rfl,⟨r,a,n⟩,m,_,_,l⟩;simp only at s n l;have D:=Ny (k:=k) (c:=c) (lo:=c) (h:=h) A a.1 a.2;have V:∀b,Ce c h Ck (.tuple [.int .i64 r,.bool b])=some (.tuple [.int .i64 r,.bool b]):=fun b=>FH rfl;by_cases hm:m=1
   ·subst hm;simp[s,n,l,Cm,D,Al,results,Af,BU,V];exact⟨r,_,a,rfl⟩
   ·have hb:(m==1)=false:=by rw[Gm];exact hm
    simp[n,l,hb,Da,Al,results,Af,BU,V];exact⟨r,_,a,rfl⟩
 obtain⟨x,e,r,b,h1,rfl⟩:=goal;exact⟨r,b,h1,e⟩
def RD(w:AV)(could one:Bool)(FJ:Int)(shift conf:Bool):List AV:=[w,.bool could,.bool one,.int .i64 FJ,.bool shift,.bool conf]
structure CH (c lo:Nat)(h0:Aa)(sv:List AV)(oc:List AV)(w:AV)(L:List Int)(st:St):Prop where
 fB:st.lo=lo
 lc:lo<=c
 c3:c+3<=st.c
 tp:CL st.h<=st.c
 CY:∀p,p<c->AA st.h p=AA h0 p
 box:AA st.h c=some (.cells 137 3 sv false)
 res:AA st.h (c+1)=some (.cells 74 6 (RD .AO false false 0 false false) false)
 out:AA st.h (c+2)=some (.cells 74 6 oc false)
 g:Gq st.h 3 1 bL w L
 own:∀p,Az w=some p->c+3<=p
section
variable {c lo:Nat}{h0:Aa}{sv oc:List AV}{w:AV}{L:List Int}
theorem CH.grow{h f:Aa}{a b:Nat}(H:CH c lo h0 sv oc w L ⟨h,a,lo⟩)(l:a<=b)(j:CL f<=b)(e:∀p,p<a->AA f p=AA h p):CH c lo h0 sv oc w L ⟨f,b,lo⟩:=by have k:c+3<=a:=H.c3;have i:CL h<=a:=H.tp;exact⟨rfl,H.lc,by show c+3<=b;omega,j,fun p d=>(e p (by omega)).trans (H.CY p d),(e c (by omega)).trans H.box,(e (c+1) (by omega)).trans H.res,(e (c+2) (by omega)).trans H.out,H.g.heap fun p d=>e p (Bt (H.g.lt d) i),H.own⟩
theorem CH.put{h:Aa}{b j:Nat}(H:CH c lo h0 sv oc w L ⟨h,b,lo⟩){x:AV}(k:j<oc.length)(l:x.isTuple=false)(a:x.cells=[x]):BM 1 (.AL (c+2) j) x ⟨h,b,lo⟩=some (.undef,⟨Ah h (c+2) (.cells 74 6 (oc.set j x) false),b,lo⟩)/\CH c lo h0 sv (oc.set j x) w L ⟨Ah h (c+2) (.cells 74 6 (oc.set j x) false),b,lo⟩:=by
 have f:=H.lc;have i:AA h (c+2)=some (.cells 74 6 oc false):=H.out;constructor
 ·rw[CE,i,CW];have e:Bl oc j [x]=oc.set j x:=by rw[NY,AX k];unfold Bl;simp
  rw[AX ⟨l,by rw[a];rfl⟩,a,AX ⟨by omega,by simp;omega⟩,e]
 ·exact⟨rfl,f,H.c3,by show CL (Ah _ _ _)<=_;rw[Cg];exact H.tp,fun p d=>(Bn (by omega)).trans (H.CY p d),(Bn (by omega)).trans H.box,(Bn (by omega)).trans H.res,by show AA (Ah _ _ _) _=_;rw[Fy rfl,i];rfl,H.g.heap fun p d=>Bn fun e=>by have:=H.own p d;omega,H.own⟩
theorem CH.push{h:Aa}{c1:Nat}(H:CH c lo h0 sv oc w L ⟨h,c1,lo⟩)(r:Int)(y:L.length<2^20)(K:oc.length=6) :
 BC c1 3 1 1 [.int .i64 0] [0] [.int .i64 r]=some (.AU c1 0 1 (some 1),.cells 3 1 [.int .i64 r] false)/\∃k a f m,BA c1 (.cells 3 1 [.int .i64 r] false) ⟨h,c1+2,lo⟩=some ⟨k,c1+2,lo⟩/\Bq (c1+1) 3 1 8 w (.AU c1 0 1 (some 1)) ⟨k,c1+2,lo⟩=some (a,⟨f,c1+2,lo⟩) /\
  BM 1 (.AL (c+2) 0) a ⟨f,c1+2,lo⟩=some (.undef,⟨m,c1+2,lo⟩)/\CH c lo h0 sv (oc.set 0 a) a (L++[r]) ⟨m,c1+2,lo⟩:=by
 have n:=H.lc;have m:c+3<=c1:=H.c3;have A:CL h<=c1:=H.tp;obtain⟨u,k,a,f,z,s,G,t,J,D,N⟩:=JE (c':=c1+2) (bytes:=8) (zero:=[.int .i64 0]) (v:=.int .i64 r) (x:=r) (enc:=bL) (sz:=1) (fun _=>rfl) (by omega) H.g A (lo:=lo) (fun p l=>by have:=H.own p l;omega) rfl rfl rfl y (by omega);have i:∀q,Az a=some q->c+3<=q:=fun q o=>by
  rcases D q o with e|e
  ·omega
  ·exact H.own q e
 have b:∀q,q<c+3->AA f q=AA h q:=fun q o=>J q (by omega) fun e=>by have:=H.own q e;omega
 have I:CH c lo h0 sv oc a (L++[r]) ⟨f,c1+2,lo⟩:=⟨rfl,n,by show c+3<=c1+2;omega,t,fun p l=>(b p (by omega)).trans (H.CY p l),(b c (by omega)).trans H.box,(b (c+1) (by omega)).trans H.res,(b (c+2) (by omega)).trans H.out,G,i⟩;have d:=G.one;obtain⟨B,F⟩:=I.put (j:=0) (x:=a) (by omega) d.1 d.2;exact⟨u,k,a,f,_,z,s,B,F⟩
end
theorem AB3{h:Aa}{tp:Bool}{P:List Place}{i:Nat}(e:i<P.length):∃q,(∀a b,AY 2 (.list tp 2 (P.map FR)) (.int .i64 (i:Int)) ⟨h,a,b⟩=some (q,⟨h,a,b⟩))/\Ak h q 2=some [.int .i64 P[i].1,.int .i64 (P[i].2:Int)]:=by have R:RS h 2 Bh (.list tp 2 (P.map FR)) P:=RS.sl (el:=FR) ⟨.inr ⟨tp,rfl⟩⟩ fun x=>rfl;obtain⟨q,d,c⟩:=R.at_ i e;exact⟨q,fun _ _=>d _ rfl,c.all⟩
theorem AB4{h:Aa}{ta:Bool}{A:List Nat}{i:Nat}(d:i<A.length):∃q,(∀a lo,AY 1 (.list ta 1 (A.map JQ)) (.int .i64 (i:Int)) ⟨h,a,lo⟩=some (q,⟨h,a,lo⟩))/\AQ h q=some (.int .u64 (A[i]:Int)):=by have R:RS h 1 Kl (.list ta 1 (A.map JQ)) A:=RS.sl (el:=JQ) ⟨.inr ⟨ta,rfl⟩⟩ fun x=>rfl;obtain⟨q,c,b⟩:=R.at_ i d;have:=b.zero (by simp[Kl]);exact⟨q,fun _ _=>c _ rfl,this⟩
theorem JN.at_{v:AV}{g:Ac}{F O:List Nat}{N:List Bool}{Z:List VZ}(A:JN v g F N O Z)(h:Aa):∃d a,kr h v g F N d a:=by obtain⟨k,f,l,j,d,a,m,rfl,i,c,e,b,_⟩:=A.out;exact⟨d,a,⟨k,f,l,j,Cells.val h _,i,c,e,RL.sl b⟩⟩
def IsI(v:AV):Prop:=∃m:Int,v=.int .i64 m
def qx(c lo:Nat)(h0:Aa)(sv:List AV)(g:Ac)(i:Nat)(st:St):Prop:=∃w could L,CH c lo h0 sv (RD w could false 0 false false) w L st/\(∀r∈L,Wi g r)/\L.length<=i
theorem uh{k c lo b:Nat}{h0:Aa}{v to:AV}{g:Ac}{F O:List Nat}{N:List Bool}{Z:List VZ}(A:JN v g F N O Z){z:VZ}(hz:ZOk g Z.length z){tp ta:Bool}{B:St}(C0:qx c lo h0 [.list tp 2 (z.P.map FR),.list ta 1 (z.A.map JQ),to] g 0 B)(s:TS)(K:s.get 0=v)(W:s.get 2=.int .i64 (b:Int))(V:s.get 4=.AL c 0)(S:s.get 6=.AL (c+1) 0)(R:s.get 7=.AL (c+2) 0)(U:s.get 8=.int .i64 0)(o:s.get 14=.list tp 2 (z.P.map FR))(f:s.get 15=.int .i64 (z.P.length:Int))(l:s.get 16=.int .i64 0) :
 (Dm (Bc E (Ab E (k+1)) C.f54L0) E.k s B).to fun x=>x.1=.exit 0/\Has x.2.1 [(0,v),(6,.AL (c+1) 0),(7,.AL (c+2) 0)]/\IsI (x.2.1.get 8)/\qx c lo h0 [.list tp 2 (z.P.map FR),.list ta 1 (z.A.map JQ),to] g z.P.length x.2.2:=by
 have c4:=hz.pl;have c6:=hz.al;have hn:=A.TK;refine Cy (fun (i:Nat) s B=>i<=z.P.length/\Has s [(0,v),(2,.int .i64 (b:Int)),(4,.AL c 0),(6,.AL (c+1) 0),(7,.AL (c+2) 0),(14,.list tp 2 (z.P.map FR)),(15,.int .i64 (z.P.length:Int)),(16,.int .i64 (i:Int))]/\IsI (s.get 8)/\qx c lo h0 [.list tp 2 (z.P.map FR),.list ta 1 (z.A.map JQ),to] g i B)
  (fun i=>z.P.length-i) ?_ _ 0 _ _ ?_ ?_
 ·clear K W V S R U o f l C0;rintro i s ⟨h,t,c8⟩ ⟨hi,a4,⟨e,U⟩,w,a,L,C1,hL,b6⟩;have Y:=C1.fB.symm;simp only at Y;subst Y;simp only[Be,CG,BX]at a4;obtain⟨K,W,V,S,R,o,f,l⟩:=a4;have c7:=C1.lc;have h3:c+3<=t:=C1.c3;have b1:CL h<=t:=C1.tp;by_cases Bi:i<z.P.length
  ·obtain⟨q,ix,rd⟩:=AB3 (h:=h) (tp:=tp) Bi;obtain⟨r,d,b7⟩:∃r d,z.P[i]=(r,d):=⟨_,_,rfl⟩;have hp:=hz.place _ (BH Bi);rw[b7]at rd hp;simp only at rd hp;obtain⟨Q,J,hd⟩:=hp;obtain⟨h1,u,n1,s1,f2,t2,b8⟩:=Ih (c':=t+1) (ty:=212) (sz:=2) (n:=2) (v:=.agg [.int .i64 r,.int .i64 (d:Int)]) (cs:=[.int .i64 r,.int .i64 (d:Int)]) (zero:=[.int .i64 0,.int .i64 0]) b1 (lo:=lo) (by omega) rfl rfl rfl rfl;have C2:CH c lo h0 [.list tp 2 (z.P.map FR),.list ta 1 (z.A.map JQ),to] (RD w a false 0 false false) w L ⟨u,t+1,lo⟩:=C1.grow (by omega) t2 fun p hp=>b8 p (by omega);obtain⟨ov,ss,Au⟩:=A.at_ u;obtain⟨lw,eR,hR⟩:=UG (k:=k) (c:=t+1) (lo:=lo) Au Q J;have I:AQ u (.AL t 0)=some (.int .i64 r):=by rw[BB,f2];rfl
   have D:AQ u (.AL t 1)=some (.int .i64 (d:Int)):=by rw[BB,f2];rfl
   have c2:(g.DR r).length=(g.Dk r).length:=by simp[Ac.DR]
   have H:∀B:St,BZ .slice lw B=some (.int .i64 ((g.DR r).length:Int),B):=fun B=>hR.rs.BZ B;have a9:AQ u (.AL c 1)=some (.list ta 1 (z.A.map JQ)):=by rw[BB,C2.box];rfl
   have b4:AQ u (.AL (c+2) 0)=some w:=by rw[BB,C2.out];rfl
   obtain⟨q3,a6,a7⟩:=AB4 (h:=u) (ta:=ta) (A:=z.A) (i:=i) (by omega);have a8:=ABM (m:=z.A[i]'(by omega)) (b:=b);have lv:=Ny (k:=k) (c:=t+1) (lo:=lo) (h:=u) A Q J;have mx:=fun B=>gu (x:=e) (y:=PH g r) B;have second:∀(c5:TS),True:=fun _=>trivial;by_cases hde:d=(g.DR r).length
   ·have he:(((d:Nat):Int)==((g.DR r).length:Int))=true:=by simp[hde]
    have b9:¬d<(g.DR r).length:=by omega
    by_cases hbit:(ADV (ACR (z.A[i]'(by omega)) b)==1)=true
    ·obtain⟨p1,h4,w',h5,h6,p2,p3,p4,C3⟩:=C2.push r (by omega) rfl;simp[C.f54L0,K,W,V,S,R,U,o,f,l,Bi,ix,rd,n1,s1,I,D,eR,H,he,Cm,a9,a6,a7,a8,jr,hbit,b4,p1,p2,p3,p4,wi i];exact⟨i+1,by omega,by omega,by simp,⟨e,rfl⟩,w',a,L++[r],C3,fun x hx=>by
      rcases Ca.1 hx with h|h
      ·exact hL x h
      ·simp only[Di]at h;subst h;exact⟨Q,J⟩,by simp;omega⟩
    ·have a0:(ADV (ACR (z.A[i]'(by omega)) b)==1)=false:=by simpa using hbit
     simp[C.f54L0,K,W,V,S,R,U,o,f,l,Bi,ix,rd,n1,s1,I,D,eR,H,he,b9,Cm,Da,a9,a6,a7,a8,jr,a0,wi i];exact⟨i+1,by omega,by omega,by simp,⟨e,rfl⟩,w,a,L,C2,hL,by omega⟩
   ·have he:(((d:Nat):Int)==((g.DR r).length:Int))=false:=by rw[Gm];omega
    have T:d<(g.DR r).length:=by omega
    obtain⟨q2,a2,b2⟩:=hR.rs.rd T;have a1:∀cc,AY 1 lw (.int .i64 (d:Int)) ⟨u,cc,lo⟩=some (q2,⟨u,cc,lo⟩):=fun cc=>a2 _ rfl;by_cases hx:((((g.DR r)[d]:Nat):Int)==(b:Int))=true
    ·by_cases hb6:(((b:Nat):Int) !=60)=true
     ·obtain⟨sp,C3⟩:=C2.put (j:=1) (x:=.bool true) (by show 1<6;omega) rfl rfl;obtain⟨h4,a3⟩:∃h4,h4=Ah u (c+2) (.cells 74 6 ((RD w a false 0 false false).set 1 (.bool true)) false):=⟨_,rfl⟩;rw[←a3]at sp C3;have f4:AA h4 t=some (.cells 212 2 [.int .i64 r,.int .i64 (d:Int)] false):=by rw[a3,Bn (by omega)];exact f2
      have b3:AQ h4 (.AL t 0)=some (.int .i64 r):=by rw[BB,f4];rfl
      have b5:=Ny (k:=k) (c:=t+1) (lo:=lo) (h:=h4) A Q J;obtain⟨mz,c0⟩:=gu (x:=e) (y:=PH g r) ⟨h4,t+1,lo⟩;simp[C.f54L0,K,W,V,S,R,U,o,f,l,Bi,ix,rd,n1,s1,I,D,eR,H,he,T,Cm,Da,a1,b2,hx,hb6,sp,b3,b5,c0,wi i];exact⟨i+1,by omega,by omega,by simp,⟨mz,rfl⟩,w,true,L,C3,hL,by omega⟩
     ·have a5:(((b:Nat):Int) !=60)=false:=by simpa using hb6
      simp[C.f54L0,K,W,V,S,R,U,o,f,l,Bi,ix,rd,n1,s1,I,D,eR,H,he,T,Cm,Da,a1,b2,hx,a5,wi i];exact⟨i+1,by omega,by omega,by simp,⟨e,rfl⟩,w,a,L,C2,hL,by omega⟩
    ·have b0:((((g.DR r)[d]:Nat):Int)==(b:Int))=false:=by simpa using hx
     simp[C.f54L0,K,W,V,S,R,U,o,f,l,Bi,ix,rd,n1,s1,I,D,eR,H,he,T,Cm,Da,a1,b2,b0,wi i];exact⟨i+1,by omega,by omega,by simp,⟨e,rfl⟩,w,a,L,C2,hL,by omega⟩
  ·have:i=z.P.length:=by omega
   subst this;simp[C.f54L0,K,S,R,U,f,l];exact⟨⟨e,rfl⟩,w,a,L,C1,hL,b6⟩
 ·exact FX (by show z.P.length-0<1000000;omega)
 ·exact⟨by omega,by simp[K,W,V,S,R,o,f,l],⟨0,U⟩,C0⟩
section
variable {c lo:Nat}{h0:Aa}{sv oc:List AV}{w:AV}{L:List Int}
theorem CH.YJ{h:Aa}{a j:Nat}(H:CH c lo h0 sv oc w L ⟨h,a,lo⟩){x:AV}{oc':List AV}(g:j<oc.length)(i:x.isTuple=false)(d:x.cells=[x])(e:oc.set j x=oc'):∃b,BM 1 (.AL (c+2) j) x ⟨h,a,lo⟩=some (.undef,⟨b,a,lo⟩)/\CH c lo h0 sv oc' w L ⟨b,a,lo⟩/\∀p,p≠c+2->AA b p=AA h p:=by subst e;obtain⟨s,C⟩:=H.put g i d;exact⟨_,s,C,fun p f=>Bn (Aj f)⟩
theorem CH.fin{h:Aa}{d:Nat}(H:CH c lo h0 sv oc w L ⟨h,d,lo⟩)(a:oc.length=6):Ak h (.AL (c+2) 0) 6=some oc/\∃b,BM 6 (.AL (c+1) 0) (.agg oc) ⟨h,d,lo⟩=some (.undef,⟨b,d,lo⟩)/\Ak b (.AL (c+1) 0) 6=some oc/\CL b<=d/\(∀p,p<c->AA b p=AA h0 p)/\Gq b 3 1 bL w L:=by
 have l:=H.lc;have i:AA h (c+1)=some (.cells 74 6 (RD .AO false false 0 false false) false):=H.res;refine⟨by rw[Bv,H.out,Pf,AX (by omega)];simp[←a],Ah h (c+1) (.cells 74 6 oc false),?_,?_,by rw[Cg];exact H.tp,fun p f=>(Bn (by omega)).trans (H.CY p f),H.g.heap fun p f=>Bn fun e=>by have:=H.own p f;omega⟩
 ·rw[CE,i,CW];have j:(AV.agg oc).cells=oc:=rfl;have e:Bl (RD .AO false false 0 false false) 0 oc=oc:=by unfold Bl;rw[a];simp[RD]
  have k:(RD .AO false false 0 false false).length=6:=rfl;rw[AX ⟨rfl,by rw[j];exact a⟩,j,AX ⟨by omega,by rw[a,k];omega⟩,e]
 ·rw[Bv,Fy rfl,i];show Xk (some (.cells 74 6 oc false)) 0 6=_;rw[Pf,AX (by omega)];simp[←a]
end
def zW(c lo:Nat)(h0:Aa)(x:AV×St):Prop:=∃w could one FJ shift conf L h' c',x=(.agg (RD w could one FJ shift conf),⟨h',c',lo⟩)/\Gq h' 3 1 bL w L/\L.length<=403/\(∀p,Az w=some p->c<=p)/\CL h'<=c'/\c<=c'/\∀p,p<c->AA h' p=AA h0 p
theorem ZN{k c lo b:Nat}{h:Aa}{v to:AV}{g:Ac}{F O:List Nat}{N:List Bool}{Z:List VZ}(A:JN v g F N O Z){z:VZ}(hz:ZOk g Z.length z){tp ta:Bool}(ht:CL h<=c)(d2:lo<=c)(f6:to.isTuple=false/\to.cells=[to]) :
 (Ab E (k+3) 54 [v,.agg [.list tp 2 (z.P.map FR),.list ta 1 (z.A.map JQ),to],.int .i64 (b:Int)] ⟨h,c,lo⟩).to (zW c lo h):=by
 rw[Av (fn:=C.f54) rfl rfl rfl,Ap (by simp)];generalize c5:[AV.list tp 2 (z.P.map FR),.list ta 1 (z.A.map JQ),to]=sv;have f5:sv.length=3:=by rw[←c5];rfl
 obtain⟨h1,b0⟩:∃h1:Aa,h1=(c,BJ.cells 137 3 sv false)::h:=⟨_,rfl⟩;have n1:BA c (.cells 137 3 sv false) ⟨h,c+2,lo⟩=some ⟨h1,c+2,lo⟩:=by rw[b0];exact BF ht
 have t1:CL h1<=c+1:=by rw[b0,Ay];omega
 obtain⟨h2,a7⟩:∃h2:Aa,h2=(c+1,BJ.cells 74 6 [.AO,.bool false,.bool false,.int .i64 0,.bool false,.bool false] false)::h1:=⟨_,rfl⟩;have n2:BA (c+1) (.cells 74 6 [.AO,.bool false,.bool false,.int .i64 0,.bool false,.bool false] false) ⟨h1,c+2,lo⟩=some ⟨h2,c+2,lo⟩:=by rw[a7];exact BF t1
 have t2:CL h2<=c+2:=by rw[a7,Ay];omega
 obtain⟨h3,J⟩:∃h3:Aa,h3=(c+2,BJ.cells 74 6 [.AO,.bool false,.bool false,.int .i64 0,.bool false,.bool false] false)::h2:=⟨_,rfl⟩;have n3:BA (c+2) (.cells 74 6 [.AO,.bool false,.bool false,.int .i64 0,.bool false,.bool false] false) ⟨h2,c+3,lo⟩=some ⟨h3,c+3,lo⟩:=by rw[J];exact BF t2
 have C0:CH c lo h sv (RD .AO false false 0 false false) .AO [] ⟨h3,c+3,lo⟩:=by
  refine⟨rfl,d2,Ao _,by show CL h3<=c+3;rw[J,Ay];omega,fun p hp=>?_,?_,?_,?_,.nl,fun p hp=>by cases hp⟩
  ·show AA h3 p=_;rw[J,Ar (by omega),a7,Ar (by omega),b0,Ar (by omega)]
  ·show AA h3 c=_;rw[J,Ar (by omega),a7,Ar (by omega),b0,BV rfl]
  ·show AA h3 (c+1)=_;rw[J,Ar (by omega),a7,BV rfl];rfl
  ·show AA h3 (c+2)=_;rw[J,BV rfl];rfl
 have rb:AQ h3 (.AL c 0)=some (.list tp 2 (z.P.map FR)):=by rw[BB,C0.box,←c5];rfl
 have e0:∀st:St,BZ .slice (.list tp 2 (z.P.map FR)) st=some (.int .i64 (z.P.length:Int),st):=fun st=>by show some (AV.int .i64 ((z.P.map FR).length:Int),st)=_;rw[Fz]
 have bx:Ls c 137 3 (.agg sv)=some (.AL c 0,.cells 137 3 sv false):=rfl;have d0:qx c lo h [.list tp 2 (z.P.map FR),.list ta 1 (z.A.map JQ),to] g 0 ⟨h3,c+3,lo⟩:=⟨.AO,false,[],by rw[c5];exact C0,by simp,by simp⟩;simp[C.f54,bx,n1,n2,n3,rb,e0];refine M.BG (uh (k:=k+1) (b:=b) A hz d0 _ (by simp) (by simp) (by simp) (by simp) (by simp) (by simp) (by simp) (by simp) (by simp)) fun x hx=>?_;obtain⟨e,g5,⟨h4,m,f7⟩⟩:=x;obtain⟨rfl,c9,⟨B,z8⟩,w,a,L,C1,hL,e8⟩:=hx;have c0:=C1.fB.symm;simp only at c0;subst c0;simp only at z8 C1;simp only[Be,CG,BX]at c9;obtain⟨W,V,U⟩:=c9;have c8:L.length<=403:=DV e8 hz.pl;have g7:c+3<=m:=C1.c3;have y:∀{R:Aa} {a one:Bool} {FJ:Int} {shift u:Bool},CH c lo h [.list tp 2 (z.P.map FR),.list ta 1 (z.A.map JQ),to] (RD w a one FJ shift u) w L ⟨R,m,lo⟩->∃h',Ak R (.AL (c+2) 0) 6=some (RD w a one FJ shift u)/\BM 6 (.AL (c+1) 0) (.agg (RD w a one FJ shift u)) ⟨R,m,lo⟩=some (.undef,⟨h',m,lo⟩)/\Ak h' (.AL (c+1) 0) 6=some (RD w a one FJ shift u)/\zW c lo h (.agg (RD w a one FJ shift u),⟨h',m,lo⟩):=fun {R a one FJ shift u} C=>by obtain⟨Y,h',e2,e3,e4,e5,e6⟩:=C.fin rfl;exact⟨h',Y,e2,e3,w,a,one,FJ,shift,u,L,h',m,rfl,e6,c8,fun p hp=>by have:=C.own p hp;omega,e4,by omega,e5⟩
 have T:AQ h4 (.AL (c+2) 1)=some (.bool a):=by rw[BB,C1.out];rfl
 obtain⟨R,S,C5,g8⟩:=C1.YJ (j:=4) (x:=.bool a) (oc':=RD w a false 0 a false) (by show 4<6;omega) rfl rfl rfl;have n:AQ R (.AL (c+2) 0)=some w:=by rw[BB,C5.out];rfl
 have Q:∀st:St,BZ .slice w st=some (.int .i64 (L.length:Int),st):=fun st=>C5.g.BZ st;by_cases h0L:L.length=0
 ·obtain⟨h6,Y,e2,e3,hD⟩:=y C5;have I:((L.length:Int)==0)=true:=by rw[h0L];rfl
  simp[V,U,T,S,n,Q,I,Y,e2,e3,Al,results,Af];exact hD
 ·have I:((L.length:Int)==0)=false:=by rw[Gm];omega
  have b9:L≠[]:=fun e=>h0L (by rw[e];rfl);have R5:RS R 1 bL w L:=Gq.rs (fun _=>rfl) C5.g;obtain⟨q0,e9,t⟩:=R5.z (i:=0) (by omega);have l:∀cc lo,AY 1 w (.int .i64 0) ⟨R,cc,lo⟩=some (q0,⟨R,cc,lo⟩):=e9;obtain⟨h6,s6,C6,f8⟩:=C5.YJ (j:=2) (x:=.bool true) (oc':=RD w a true 0 a false) (by show 2<6;omega) rfl rfl rfl;have R6:RS h6 1 bL w L:=Gq.rs (fun _=>rfl) C6.g;obtain⟨q6,d4,q⟩:=R6.z (i:=0) (by omega);have f:∀cc lo,AY 1 w (.int .i64 0) ⟨h6,cc,lo⟩=some (q6,⟨h6,cc,lo⟩):=d4;have hq:q6=q0:=by
   rcases C5.g.mi with⟨_,e⟩|⟨id,cap,e⟩
   ·exact absurd e b9
   ·obtain⟨e7,f0,e5,i5⟩:=C5.g.idx (i:=0) (by omega);obtain⟨d5,f4,e6,i6⟩:=C6.g.idx (i:=0) (by omega);have a5:=i5 ⟨R,m,lo⟩ rfl;have a6:=i6 ⟨h6,m,lo⟩ rfl;have b5:=l m lo;have b6:=f m lo;have c7:AY 1 w (.int .i64 0) ⟨R,m,lo⟩=some (.AL e7 (0*1),⟨R,m,lo⟩):=a5;have c2:AY 1 w (.int .i64 0) ⟨h6,m,lo⟩=some (.AL d5 (0*1),⟨h6,m,lo⟩):=a6;rw[b5]at c7;rw[b6]at c2;simp only[Ct,JL,BX]at c7 c2;rw[c7,c2];rw[e5]at e6;cases e6;rfl
  subst hq;obtain⟨h7,s7,C7,g0⟩:=C6.YJ (j:=3) (x:=.int .i64 L[0]) (oc':=RD w a true L[0] a false) (by show 3<6;omega) rfl rfl rfl;have s:AQ h7 (.AL (c+2) 0)=some w:=by rw[BB,C7.out];rfl
  have g6:=True.intro;have tail:∀{h8:Aa} {FJ:Int},Wi g FJ->CH c lo h [.list tp 2 (z.P.map FR),.list ta 1 (z.A.map JQ),to] (RD w a true FJ a false) w L ⟨h8,m,lo⟩->a=true->∃lv h9 b3 b2 b4 b8,Ab E (k+2) 102 [v,.int .i64 FJ] ⟨h8,m,lo⟩=.ret (.int .i64 lv,⟨h8,m,lo⟩) /\
   BM 1 (.AL (c+2) 5) (.bool true) ⟨h8,m,lo⟩=some (.undef,⟨b3,m,lo⟩)/\BM 1 (.AL (c+2) 4) (.bool false) ⟨b3,m,lo⟩=some (.undef,⟨b2,m,lo⟩)/\BM 1 (.AL (c+2) 4) (.bool false) ⟨h8,m,lo⟩=some (.undef,⟨b4,m,lo⟩)/\BM 1 (.AL (c+2) 2) (.bool false) ⟨h8,m,lo⟩=some (.undef,⟨b8,m,lo⟩) /\
   CH c lo h [.list tp 2 (z.P.map FR),.list ta 1 (z.A.map JQ),to] (RD w a true FJ false true) w L ⟨b2,m,lo⟩/\CH c lo h [.list tp 2 (z.P.map FR),.list ta 1 (z.A.map JQ),to] (RD w a true FJ false false) w L ⟨b4,m,lo⟩/\CH c lo h [.list tp 2 (z.P.map FR),.list ta 1 (z.A.map JQ),to] (RD w a false FJ a false) w L ⟨b8,m,lo⟩/\h9=h8:=fun {h8 FJ} hr C8 D=>by
   obtain⟨a1,Y,D1,_⟩:=C8.YJ (j:=5) (x:=.bool true) (oc':=RD w a true FJ a true) (by show 5<6;omega) rfl rfl rfl;obtain⟨a2,e2,D2,_⟩:=D1.YJ (j:=4) (x:=.bool false) (oc':=RD w a true FJ false true) (by show 4<6;omega) rfl rfl rfl;obtain⟨a3,e3,D3,_⟩:=C8.YJ (j:=4) (x:=.bool false) (oc':=RD w a true FJ false false) (by show 4<6;omega) rfl rfl rfl;obtain⟨a4,e4,D4,_⟩:=C8.YJ (j:=2) (x:=.bool false) (oc':=RD w a false FJ a false) (by show 2<6;omega) rfl rfl rfl;exact⟨_,h8,a1,a2,a3,a4,Ny (k:=k+1) A hr.1 hr.2,Y,e2,e3,e4,D2,D3,D4,rfl⟩
  have d9:=hL _ (BH (show 0<L.length by omega));by_cases h1L:1<L.length
  ·have d:decide ((1:Int)<(L.length:Int))=true:=Bw (by omega);obtain⟨r,ob,hr,eB⟩:=yo (k:=k) (c:=m) (lo:=lo) (h:=h7) A (Gq.rs (fun _=>rfl) C7.g) b9 (by omega) hL;obtain⟨h8,s8,C8,_⟩:=C7.YJ (j:=3) (x:=.int .i64 r) (oc':=RD w a true r a false) (by show 3<6;omega) rfl rfl rfl;obtain⟨h9,s9,C9,_⟩:=C8.YJ (j:=2) (x:=.bool ob) (oc':=RD w a ob r a false) (by show 2<6;omega) rfl rfl rfl;have K:AQ h9 (.AL (c+2) 2)=some (.bool ob):=by rw[BB,C9.out];rfl
   have a0:AQ h9 (.AL (c+2) 1)=some (.bool a):=by rw[BB,C9.out];rfl
   have b1:AQ h9 (.AL (c+2) 3)=some (.int .i64 r):=by rw[BB,C9.out];rfl
   cases ob with
   |false=>obtain⟨f9,d6,d7,_⟩:=C9.YJ (j:=5) (x:=.bool true) (oc':=RD w a false r a true) (by show 5<6;omega) rfl rfl rfl;obtain⟨g4,d3,d8,_⟩:=d7.YJ (j:=4) (x:=.bool false) (oc':=RD w a false r false true) (by show 4<6;omega) rfl rfl rfl;obtain⟨d1,Y,e2,e3,hD⟩:=y d8;simp[W,V,U,T,S,n,Q,I,l,Dp,DX,Dl,Cc,Ci,DK,Dx,beq_eq,AV.DU,s6,f,q,t,s7,s,d,eB,s8,s9,K,d6,d3,Y,e2,e3,Al,results,Af];exact hD
   |true=>
    cases D:a with
    |false=>subst D;obtain⟨d1,Y,e2,e3,hD⟩:=y C9;simp[W,V,U,T,S,n,Q,I,l,t,Dp,DX,Dl,Cc,Ci,DK,Dx,beq_eq,AV.DU,s6,f,q,s7,s,d,eB,s8,s9,K,a0,Y,e2,e3,Al,results,Af];exact hD
    |true=>
     obtain⟨lv,_,b3,b2,b4,b8,el,a1,a2,a3,a4,D1,D2,D3,_⟩:=tail hr C9 D;subst D;obtain⟨i1,f1,f2,f3,a9⟩:=y D1;obtain⟨i2,g1,g2,g3,c6⟩:=y D2;obtain⟨i3,k1,k2,k3,c1⟩:=y D3;by_cases hl0:lv=0
     ·subst hl0;simp[W,V,U,z8,T,S,n,Q,I,l,t,Dp,DX,Dl,Cc,Ci,DK,Dx,beq_eq,AV.DU,s6,f,q,s7,s,d,eB,s8,s9,K,a0,b1,el,Da,a1,a2,f1,f2,f3,Al,results,Af];exact a9
     ·have o:(lv==0)=false:=by rw[Gm];exact hl0
      by_cases hm0:B=0
      ·subst hm0;simp[W,V,U,z8,T,S,n,Q,I,l,t,Dp,DX,Dl,Cc,Ci,DK,Dx,beq_eq,AV.DU,s6,f,q,s7,s,d,eB,s8,s9,K,a0,b1,el,o,Cm,a1,a2,f1,f2,f3,Al,results,Af];exact a9
      ·have H:(B==0)=false:=by rw[Gm];exact hm0
       by_cases hge:B<=lv
       ·simp[W,V,U,z8,T,S,n,Q,I,l,t,Dp,DX,Dl,Cc,Ci,DK,Dx,beq_eq,AV.DU,s6,f,q,s7,s,d,eB,s8,s9,K,a0,b1,el,o,H,hge,Cm,a3,g1,g2,g3,Al,results,Af];exact c6
       ·simp[W,V,U,z8,T,S,n,Q,I,l,t,Dp,DX,Dl,Cc,Ci,DK,Dx,beq_eq,AV.DU,s6,f,q,s7,s,d,eB,s8,s9,K,a0,b1,el,o,H,hge,Cm,a4,k1,k2,k3,Al,results,Af];exact c1
  ·have d:decide ((1:Int)<(L.length:Int))=false:=FP (by omega);have a8:AQ h7 (.AL (c+2) 1)=some (.bool a):=by rw[BB,C7.out];rfl
   have b7:AQ h7 (.AL (c+2) 3)=some (.int .i64 L[0]):=by rw[BB,C7.out];rfl
   cases D:a with
   |false=>subst D;obtain⟨d1,Y,e2,e3,hD⟩:=y C7;simp[W,V,U,T,S,n,Q,I,l,t,Dp,DX,Dl,Cc,Ci,DK,Dx,beq_eq,AV.DU,s6,f,q,s7,s,d,a8,Y,e2,e3,Al,results,Af];exact hD
   |true=>
    obtain⟨lv,_,b3,b2,b4,b8,el,a1,a2,a3,a4,D1,D2,D3,_⟩:=tail d9 C7 D;subst D;obtain⟨i1,f1,f2,f3,a9⟩:=y D1;obtain⟨i2,g1,g2,g3,c6⟩:=y D2;obtain⟨i3,k1,k2,k3,c1⟩:=y D3;by_cases hl0:lv=0
    ·subst hl0;simp[W,V,U,z8,T,S,n,Q,I,l,t,Dp,DX,Dl,Cc,Ci,DK,Dx,beq_eq,AV.DU,s6,f,q,s7,s,d,a8,b7,el,Da,a1,a2,f1,f2,f3,Al,results,Af];exact a9
    ·have o:(lv==0)=false:=by rw[Gm];exact hl0
     by_cases hm0:B=0
     ·subst hm0;simp[W,V,U,z8,T,S,n,Q,I,l,t,Dp,DX,Dl,Cc,Ci,DK,Dx,beq_eq,AV.DU,s6,f,q,s7,s,d,a8,b7,el,o,Cm,a1,a2,f1,f2,f3,Al,results,Af];exact a9
     ·have H:(B==0)=false:=by rw[Gm];exact hm0
      by_cases hge:B<=lv
      ·simp[W,V,U,z8,T,S,n,Q,I,l,t,Dp,DX,Dl,Cc,Ci,DK,Dx,beq_eq,AV.DU,s6,f,q,s7,s,d,a8,b7,el,o,H,hge,Cm,a3,g1,g2,g3,Al,results,Af];exact c6
      ·simp[W,V,U,z8,T,S,n,Q,I,l,t,Dp,DX,Dl,Cc,Ci,DK,Dx,beq_eq,AV.DU,s6,f,q,s7,s,d,a8,b7,el,o,H,hge,Cm,a4,k1,k2,k3,Al,results,Af];exact c1
theorem PD{h:Aa}{c lo o:Nat}{y:BJ}(g:AA h o=none):∃a,BA o y ⟨h,c,lo⟩=some ⟨a,c,lo⟩/\(∀p,AA a p=if o=p then some y else AA h p)/\CL a<=max (CL h) (o+1):=by
 obtain⟨a,d,f,e⟩:=Qr (st:=⟨h,c,lo⟩) (y:=y) g;refine⟨a,d,f,OW.2 fun p x b=>?_⟩;rcases e p x b with⟨rfl,_⟩|b
 ·omega
 ·have:=OW.1 (Ao (CL h)) p x b;omega
structure QQ (h:Aa)(w:AV)(L:List Nat):Prop where
 out:∃id cap pre rest ext,w=.AU id pre.length L.length cap/\AA h id=some (.cells 3 1 (pre++(BI L++rest)) ext)/\((cap=none/\ext=true)∨cap=some (L.length+rest.length))
theorem QQ.heap{h h':Aa}{w:AV}{L:List Nat}(H:QQ h w L)(e:∀p,Az w=some p->AA h' p=AA h p):QQ h' w L:=by obtain⟨id,cap,a,rest,ext,rfl,b,c⟩:=H.out;exact⟨id,cap,a,rest,ext,rfl,(e id rfl).trans b,c⟩
theorem QQ.lt{h:Aa}{w:AV}{L:List Nat}(H:QQ h w L){p:Nat}(a:Az w=some p):p<CL h:=by obtain⟨id,cap,c,rest,ext,rfl,b,d⟩:=H.out;cases a;exact Fb b
theorem QQ.len{h:Aa}{w:AV}{L:List Nat}(H:QQ h w L)(st:St):BZ .slice w st=some (.int .i64 (L.length:Int),st):=by obtain⟨id,cap,a,rest,ext,rfl,b,c⟩:=H.out;rfl
theorem QQ.pop{h:Aa}{w:AV}{x c lo:Nat}{L:List Nat}(H:QQ h w (x::L)):∃q d,AY 1 w (.int .i64 0) ⟨h,c,lo⟩=some (q,⟨h,c,lo⟩)/\AQ h q=some (.int .i64 (x:Int))/\DW 1 true false false [w,.int .i64 1] ⟨h,c,lo⟩=some (d,⟨h,c,lo⟩)/\QQ h d L/\Az d=Az w:=by
 obtain⟨id,cap,a,rest,ext,rfl,b,i⟩:=H.out;have e:a++(BI (x::L)++rest)=(a++[.int .i64 (x:Int)])++(BI L++rest):=by simp[BI]
 have l:(a++(BI (x::L)++rest)).length=a.length+(L.length+1)+rest.length:=by simp;omega
 have k:asNat (.int .i64 0)=some 0:=rfl;have g:asNat (.int .i64 1)=some 1:=rfl;refine⟨.AL id a.length,.AU id (a.length+1) L.length (cap.map (·-1)),?_,?_,?_,⟨id,cap.map (·-1),a++[.int .i64 (x:Int)],rest,ext,by simp,by rw[←e];exact b,?_⟩,rfl⟩
 ·simp[AY,k,b,blt_eq]
 ·rw[BB,b,Ik,NV (Ao _)];simp[BI]
 ·rcases i with⟨rfl,_⟩|rfl
  ·have f:a.length+(L.length+1)<=(a++(BI (x::L)++rest)).length:=by omega
   simp only[DW,Gi,g,GK,b,beq_eq,blt_eq,He,ble_eq,Option.getD,Ff,FN,Ba,FV,Fe,Bw f,Bw (show 1<=L.length+1 by omega),LY,QR,show decide (0<1)=true from rfl,Nat.add_sub_cancel]
  ·have f:L.length+1<=L.length+1+rest.length:=by omega
   simp only[DW,Gi,g,GK,b,beq_eq,blt_eq,He,ble_eq,Option.getD,Ff,FN,Ba,FV,Fe,Bw f,Bw (show 1<=L.length+1 by omega),LY,Jt,show decide (0<1)=true from rfl,Nat.add_sub_cancel]
 ·rcases i with⟨rfl,j⟩|rfl
  ·exact .inl ⟨rfl,j⟩
  ·right;simp
theorem QQ.push{h:Aa}{w:AV}{L:List Nat}{c1 lo:Nat}(H:QQ h w L)(y:CL h<=c1)(S:∀p,Az w=some p->lo<=p)(hl:L.length<2^20)(x:Nat) :
 BC c1 3 1 1 [.int .i64 0] [0] [.int .i64 (x:Int)]=some (.AU c1 0 1 (some 1),.cells 3 1 [.int .i64 (x:Int)] false)/\∃g N n,BA c1 (.cells 3 1 [.int .i64 (x:Int)] false) ⟨h,c1+2,lo⟩=some ⟨g,c1+2,lo⟩/\Bq (c1+1) 3 1 8 w (.AU c1 0 1 (some 1)) ⟨g,c1+2,lo⟩=some (N,⟨n,c1+2,lo⟩) /\
  QQ n N (L++[x])/\CL n<=c1+2/\(∀p,p<c1->Az w≠some p->AA n p=AA h p)/\(∀p,Az N=some p->p=c1+1∨Az w=some p):=by
 refine⟨rfl,?_⟩;obtain⟨id,cap,d,rest,ext,rfl,U,hc⟩:=H.out;have a0:id<c1:=Bt (Fb U) y;have r:=S id rfl;obtain⟨g,i⟩:∃g:Aa,g=(c1,BJ.cells 3 1 [.int .i64 (x:Int)] false)::h:=⟨_,rfl⟩;have W:CL g<=c1+1:=by rw[i,Ay];omega
 have v:AA g id=some (.cells 3 1 (d++(BI L++rest)) ext):=by rw[i,Ar (by omega)];exact U
 have Z:AA g c1=some (.cells 3 1 [.int .i64 (x:Int)] false):=by rw[i,BV rfl]
 have I:BS g 1 1 (.AU c1 0 1 (some 1))=some [.int .i64 (x:Int)]:=by simp[BS,Z,ble_eq]
 have Y:(d++(BI L++rest)).length=d.length+(L.length+rest.length):=by simp
 have j:(L.length+1)*8<=room/\L.length+1<=room:=by unfold room;omega
 have R:(BI L).length=L.length:=by simp
 have D:((d++(BI L++rest)).drop d.length).take (L.length*1)=BI L:=by rw[List.drop_left,Fe,←R,Je]
 have q:BI L++[AV.int .i64 (x:Int)]=BI (L++[x]):=by simp[BI]
 have o:∀l:Option Nat,0<rest.length->((l=none/\ext=true)∨l=some (L.length+rest.length))->∃n,CO ⟨g,c1+2,lo⟩ id (d.length+L.length*1) [.int .i64 (x:Int)]=some ⟨n,c1+2,lo⟩/\QQ n (.AU id d.length (L.length+1) l) (L++[x])/\CL n<=c1+2/\(∀p,p<c1->p≠id->AA n p=AA h p):=fun l F P=>by
  obtain⟨z,f,rfl⟩:∃z f,rest=z::f:=by
   cases rest with
   |nil=>simp at F
   |cons a b=>exact⟨a,b,rfl⟩
  have V:=Xo (c:=c1+2) (lo:=lo) (vs:=[.int .i64 (x:Int)]) (off:=d.length+L.length*1) v r (by rw[Y];simp;omega);have T:=OY (A:=d++BI L) (B:=[z]) (C:=f) (vs:=[.int .i64 (x:Int)]) rfl;have e1:(d++BI L).length=d.length+L.length*1:=by simp
  rw[e1]at T;have e2:d++(BI L++z::f)=d++BI L++([z]++f):=by simp
  rw[e2,T]at V;refine⟨_,V,⟨id,l,d,f,ext,by simp,by rw[Fy rfl,v];simp[BI],?_⟩,by rw[Cg];omega,fun p m k=>by rw[Bn (Aj k),i,Ar (by omega)]⟩;rcases P with g|g
  ·exact .inl g
  ·right;rw[g];simp;omega
 rcases hc with⟨rfl,rfl⟩|rfl
 ·by_cases F:0<rest.length
  ·obtain⟨n,Q,O,J,K⟩:=o none F (.inl ⟨rfl,rfl⟩);refine⟨g,_,n,by rw[i];exact BF y,?_,O,J,fun p m k=>K p m fun e=>k (by rw[e];rfl),fun p m=>.inr m⟩;have s:d.length+L.length*1<=(d++(BI L++rest)).length:=by omega
   have u:d.length+(L.length+1)*1<=(d++(BI L++rest)).length:=by omega
   simp only[Bq,lenOf,I,CX,beq_eq,GG,v,ble_eq,Bw s,Bw u,Ff,FN,Ba,FP (show ¬(1:Nat)=0 by omega),Bj,Q]
  ·have t:rest=[]:=Gn (by omega);subst t;have s:d.length+L.length*1<=(d++(BI L++[])).length:=by simp
   have u:¬d.length+(L.length+1)*1<=(d++(BI L++[])).length:=by simp
   have td:CL (Jv g id)<=c1+1:=DV Xu W;refine⟨g,.AU (c1+1) 0 (L.length+1) none,(c1+1,.cells 3 1 (BI (L++[x])) true)::Jv g id,by rw[i];exact BF y,?_,⟨c1+1,none,[],[],true,by simp,by rw[BV rfl];simp,.inl ⟨rfl,rfl⟩⟩,by rw[Ay];omega,fun p m k=>?_,fun p m=>.inl (by simpa [Az]using m.symm)⟩
   ·simp only[Bq,lenOf,I,CX,beq_eq,GG,v,ble_eq,Bw s,FP u,Ff,FN,Ba,FP (show ¬(1:Nat)=0 by omega),Bj,Bw r,D,q,grow,Bw j.1,Bw j.2,BF td]
   ·rw[Ar (by omega),Gz,AJ (fun e=>k (by rw[e];rfl)),i,Ar (by omega)]
 ·by_cases F:0<rest.length
  ·obtain⟨n,Q,O,J,K⟩:=o (some (L.length+rest.length)) F (.inr rfl);refine⟨g,_,n,by rw[i];exact BF y,?_,O,J,fun p m k=>K p m fun e=>k (by rw[e];rfl),fun p m=>.inr m⟩;have s:d.length+L.length*1<=(d++(BI L++rest)).length:=by omega
   have u:L.length+1<=L.length+rest.length:=by omega
   simp only[Bq,lenOf,I,CX,beq_eq,GG,v,ble_eq,Bw s,Bw u,Ff,FN,Ba,FP (show ¬(1:Nat)=0 by omega),Bj,Q]
  ·have t:rest=[]:=Gn (by omega);subst t;have s:d.length+L.length*1<=(d++(BI L++[])).length:=by simp
   have u:¬L.length+1<=L.length+([]:List AV).length:=by simp
   refine⟨g,.AU (c1+1) 0 (L.length+1) none,(c1+1,.cells 3 1 (BI (L++[x])) true)::g,by rw[i];exact BF y,?_,⟨c1+1,none,[],[],true,by simp,by rw[BV rfl];simp,.inl ⟨rfl,rfl⟩⟩,by rw[Ay];omega,fun p m k=>?_,fun p m=>.inl (by simpa [Az]using m.symm)⟩
   ·simp only[Bq,lenOf,I,CX,beq_eq,GG,v,ble_eq,Bw s,FP u,Ff,FN,Ba,FP (show ¬(1:Nat)=0 by omega),Bj,D,q,grow,Bw j.1,Bw j.2,BF W]
   ·rw[Ar (by omega),i,Ar (by omega)]
def VX(h:Aa)(w:AV)(L:List Nat):Prop:=(w=.AO/\L=[])∨∃id,w=.AU id 0 L.length none/\L≠[]/\AA h id=some (.cells 3 1 (BI L) true)
theorem VX.heap{h h':Aa}{w:AV}{L:List Nat}(H:VX h w L)(e:∀p,Az w=some p->AA h' p=AA h p):VX h' w L:=by
 rcases H with H|⟨id,rfl,b,a⟩
 ·exact .inl H
 ·exact .inr ⟨id,rfl,b,(e id rfl).trans a⟩
theorem VX.lt{h:Aa}{w:AV}{L:List Nat}(H:VX h w L){p:Nat}(a:Az w=some p):p<CL h:=by
 rcases H with⟨rfl,_⟩|⟨id,rfl,c,b⟩
 ·cases a
 ·cases a;exact Fb b
theorem oO{k c lo:Nat}{h:Aa}{w:AV}{L:List Nat}(H:VX h w L)(A:L.length<=5000)(m:CL h<=c) :
 ∃j i l,Ab E (k+1) 60 [w] ⟨h,c,lo⟩=.ret (j,⟨i,l,lo⟩)/\VX i j L/\c<=l/\CL i<=l/\(∀p,p<c->AA i p=AA h p)/\∀p,Az j=some p->c<=p:=by
 rw[Av (fn:=C.f60) rfl rfl rfl,Ap (by simp)];rcases H with⟨rfl,rfl⟩|⟨id,rfl,f,n⟩
 ·exact⟨.AO,h,c,by simp[C.f60,Uz,kK,Al,results,Af],.inl ⟨rfl,rfl⟩,Ao _,m,fun _ _=>rfl,fun p g=>by cases g⟩
 ·have y:id<c:=Bt (Fb n) m;have q:L.length≠0:=fun e=>f (Gn e);obtain⟨d,b⟩:∃d:Aa,d=(c,BJ.cells 3 1 [] false)::h:=⟨_,rfl⟩;have o:CL d<=c+1:=by rw[b,Ay];omega
  have u:BA c (.cells 3 1 [] false) ⟨h,c+2,lo⟩=some ⟨d,c+2,lo⟩:=by rw[b];exact BF m
  have s:AA d id=some (.cells 3 1 (BI L) true):=by rw[b,Ar (by omega)];exact n
  have t:AA d c=some (.cells 3 1 [] false):=by rw[b,BV rfl]
  have v:BS d 1 L.length (.AU id 0 L.length none)=some (BI L):=by
   simp[BS,s,ble_eq];have:(BI L).length=L.length:=by simp
   rw[←this,FQ]
  have a:L.length*8<=room/\L.length<=room:=by unfold room;omega
  have z:Bq (c+1) 3 1 8 (.AU c 0 0 (some 0)) (.AU id 0 L.length none) ⟨d,c+2,lo⟩=some (.AU (c+1) 0 L.length none,⟨(c+1,.cells 3 1 (BI L) true)::d,c+2,lo⟩):=by
   have x:¬L.length<=0:=by omega
   simp only[Bq,lenOf,v,CX,beq_eq,GG,t,ble_eq,Ff,FN,Ba,FP q,Bj,FP x,FP (show ¬(1:Nat)=0 by omega),grow,Bw a.1,Bw a.2,BF o,La,IK,Ao,GY,List.drop_nil,List.take_nil,JJ,Dz]
  have r:BC c 3 1 0 [] [] []=some (.AU c 0 0 (some 0),.cells 3 1 [] false):=rfl;refine⟨.AU (c+1) 0 L.length none,(c+1,.cells 3 1 (BI L) true)::d,c+2,by simp[C.f60,Uz,kK,r,u,z,Al,results,Af],.inr ⟨c+1,rfl,f,BV rfl⟩,by omega,by rw[Ay];omega,fun p g=>by rw[Ar (by omega),b,Ar (by omega)],fun p g=>by cases g;omega⟩
theorem VX.more{h:Aa}{w:AV}{L:List Nat}{c1 c2 lo:Nat}(H:VX h w L)(T:L.length<=5000)(z:AA h c1=none)(B:AA h (c1+1)=none)(R:CL h<=c2)(U:c1+2<=c2)(t:∀p,Az w=some p->lo<=p)(x:Nat) :
 ∃b d,BA c1 (.cells 3 1 [.int .i64 (x:Int)] false) ⟨h,c2,lo⟩=some ⟨b,c2,lo⟩/\Bq (c1+1) 3 1 8 w (.AU c1 0 1 (some 1)) ⟨b,c2,lo⟩=some (.AU (c1+1) 0 (L.length+1) none,⟨d,c2,lo⟩)/\AA d (c1+1)=some (.cells 3 1 (BI (L++[x])) true)/\CL d<=c2/\∀p,p≠c1->p≠c1+1->Az w≠some p->AA d p=AA h p:=by
 obtain⟨b,A,j,S⟩:=PD (c:=c2) (lo:=lo) (y:=.cells 3 1 [.int .i64 (x:Int)] false) z;have I:AA b c1=some (.cells 3 1 [.int .i64 (x:Int)] false):=by rw[j,AX rfl]
 have D:BS b 1 1 (.AU c1 0 1 (some 1))=some [.int .i64 (x:Int)]:=by simp[BS,I,ble_eq]
 have a:(L.length+1)*8<=room/\L.length+1<=room:=by unfold room;omega
 have m:AA b (c1+1)=none:=by rw[j,AJ (by omega)];exact B
 rcases H with⟨rfl,rfl⟩|⟨id,rfl,F,n⟩
 ·obtain⟨d,s,l,N⟩:=PD (h:=b) (c:=c2) (lo:=lo) (y:=.cells 3 1 [.int .i64 (x:Int)] true) m;refine⟨b,d,A,?_,by rw[l,AX rfl];rfl,by omega,fun p g f _=>by rw[l,AJ (Aj f),j,AJ (Aj g)]⟩;simp only[GY,Dz]at a;simp only[Bq,lenOf,D,CX,beq_eq,FP (show ¬(1:Nat)=0 by omega),Bj,grow,ble_eq,Dz,Bw a.1,Bw a.2,FN,Ba,s,GY]
 ·have k:id≠c1:=fun e=>by rw[e,z]at n;cases n
  have i:id≠c1+1:=fun e=>by rw[e,B]at n;cases n
  have r:=t id rfl;have P:AA b id=some (.cells 3 1 (BI L) true):=by rw[j,AJ (Aj k)];exact n
  have v:(BI L).length=L.length:=by simp
  have O:0+L.length*1<=(BI L).length:=by omega
  have K:¬0+(L.length+1)*1<=(BI L).length:=by omega
  have Q:AA (Jv b id) (c1+1)=none:=by rw[Gz,AJ i];exact m
  have q:BI L++[AV.int .i64 (x:Int)]=BI (L++[x]):=by simp[BI]
  obtain⟨d,s,l,N⟩:=PD (h:=Jv b id) (c:=c2) (lo:=lo) (y:=.cells 3 1 (BI (L++[x])) true) Q;have V:=Xu (h:=b) (o:=id);have u:((BI L).drop 0).take (L.length*1)=BI L:=by rw[FB,Fe,←v,FQ]
  refine⟨b,d,A,?_,by rw[l,AX rfl],by omega,fun p g f J=>by rw[l,AJ (Aj f),Gz,AJ (fun e=>J (by rw[e];rfl)),j,AJ (Aj g)]⟩;simp only[Bq,lenOf,D,CX,beq_eq,GG,P,ble_eq,Bw O,FP K,Ff,FN,Ba,FP (show ¬(1:Nat)=0 by omega),Bj,Bw r,u,q,grow,Bw a.1,Bw a.2,s]
end Go.Am
