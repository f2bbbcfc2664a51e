/- A part of tablesStay. -/
import Derived.Test.YthnghmpbgomacaaGreatDoorQ1
set_option maxHeartbeats 4000000
namespace Go.Am
 attribute [local irreducible] bigK
open Go
structure SF (it:BJ)(c s:Nat)(h1:Aa)(pl ah:AV)(P:List Place)(A:List Nat)(st:St):Prop where
 lo:st.lo=c
 cs:s+2<=st.c
 ls:c<=s
 tp:CL st.h<=st.c
 CY:∀p,p<s->AA st.h p=AA h1 p
 res:AA st.h s=some (.cells 137 3 [pl,ah,.AO] false)
 nP:AA st.h (s+1)=some it
 vQ:Gq st.h 212 2 Bh pl P
 ahs:Gq st.h 200 1 Kl ah A
 XL:∀p,Az pl=some p->s+2<=p
 Zl:∀p,Az ah=some p->s+2<=p
 ne:∀p,Az pl=some p->Az ah≠some p
 sF:Opn pl
 sG:Opn ah
section
variable {it:BJ}{c s:Nat}{h1:Aa}{pl ah:AV}{P:List Place}{A:List Nat}
theorem SF.grow{h g:Aa}{d f:Nat}(H:SF it c s h1 pl ah P A ⟨h,d,c⟩)(k:d<=f)(i:CL g<=f)(e:∀p,p<d->AA g p=AA h p):SF it c s h1 pl ah P A ⟨g,f,c⟩:=by have j:s+2<=d:=H.cs;have b:CL h<=d:=H.tp;exact⟨rfl,by show s+2<=f;omega,H.ls,i,fun p a=>(e p (by omega)).trans (H.CY p a),(e s (by omega)).trans H.res,(e (s+1) (by omega)).trans H.nP,H.vQ.heap fun p a=>e p (Bt (H.vQ.lt a) b),H.ahs.heap fun p a=>e p (Bt (H.ahs.lt a) b),H.XL,H.Zl,H.ne,H.sF,H.sG⟩
theorem SF.iter{it':BJ}{h:Aa}{b:Nat}(H:SF it c s h1 pl ah P A ⟨h,b,c⟩):SF it' c s h1 pl ah P A ⟨Ah h (s+1) it',b,c⟩:=by
 have d:AA h (s+1)=some it:=H.nP;refine⟨rfl,H.cs,H.ls,by show CL (Ah _ _ _)<=_;rw[Cg];exact H.tp,fun p a=>(Bn (by omega)).trans (H.CY p a),(Bn (by omega)).trans H.res,by show AA (Ah _ _ _) _=_;rw[Fy rfl,d];rfl,H.vQ.heap fun p a=>Bn fun e=>?_,H.ahs.heap fun p a=>Bn fun e=>?_,H.XL,H.Zl,H.ne,H.sF,H.sG⟩
 ·have:=H.XL p a;omega
 ·have:=H.Zl p a;omega
theorem SF.AFM{h:Aa}{a:Nat}(H:SF it c s h1 pl ah P A ⟨h,a,c⟩)(p:Place)(D:P.length<2^20) :
 BC a 212 2 1 [.int .i64 0,.int .i64 0] [0] [.agg (Bh p)]=some (.AU a 0 1 (some 1),.cells 212 2 (Bh p) false)/\∃k d f t,BA a (.cells 212 2 (Bh p) false) ⟨h,a+2,c⟩=some ⟨k,a+2,c⟩/\Bq (a+1) 212 2 16 pl (.AU a 0 1 (some 1)) ⟨k,a+2,c⟩=some (d,⟨f,a+2,c⟩) /\
  BM 1 (.AL s 0) d ⟨f,a+2,c⟩=some (.undef,⟨t,a+2,c⟩)/\SF it c s h1 d ah (P++[p]) A ⟨t,a+2,c⟩:=by
 have f:s+2<=a:=H.cs;have j:=H.ls;have I:CL h<=a:=H.tp;obtain⟨B,k,d,f,F,y,G,z,l,o,J⟩:=JE (c':=a+2) (bytes:=16) (zero:=[.int .i64 0,.int .i64 0]) (v:=.agg (Bh p)) (x:=p) (enc:=Bh) (sz:=2) (fun _=>rfl) (by omega) H.vQ I (lo:=c) (fun p w=>by have:=H.XL p w;omega) rfl rfl rfl D (by omega);have own:∀q,Az pl=some q->s+2<=q:=H.XL;have n:AA f s=some (.cells 137 3 [pl,ah,.AO] false):=(l s (by omega) fun e=>by have:=own s e;omega).trans H.res;have i:=G.one;have m:BM 1 (.AL s 0) d ⟨f,a+2,c⟩=some (.undef,⟨Ah f s (.cells 137 3 [d,ah,.AO] false),a+2,c⟩):=by rw[CE,n,CW];simp[i,j]
 have g:∀q,Az d=some q->s+2<=q:=fun q b=>by
  rcases o q b with e|e
  ·omega
  ·exact own q e
 refine⟨B,k,d,f,_,F,y,m,rfl,by show s+2<=a+2;omega,j,by show CL (Ah _ _ _)<=_;rw[Cg];exact z,fun q b=>(Bn (by omega)).trans ((l q (by omega) fun e=>by have:=own q e;omega).trans (H.CY q b)),by show AA (Ah _ _ _) _=_;rw[Fy rfl,n];rfl,(Bn (by omega)).trans ((l (s+1) (by omega) fun e=>by have:=own _ e;omega).trans H.nP),G.heap fun q b=>Bn fun e=>by have:=g q b;omega,H.ahs.heap fun q b=>?_,g,H.Zl,fun q b=>?_,J H.sF,H.sG⟩
 ·have u:=H.Zl q b;have r:q<a:=Bt (H.ahs.lt b) H.tp;exact (Bn (by omega)).trans (l q r fun e=>H.ne q e b)
 ·rcases o q b with e|e
  ·intro u;have r:q<a:=Bt (H.ahs.lt u) H.tp;omega
  ·exact H.ne q e
theorem SF.AFP{h:Aa}{a:Nat}(H:SF it c s h1 pl ah P A ⟨h,a,c⟩)(m:Nat)(F:A.length<2^20) :
 BC a 200 1 1 [.int .u64 0] [0] [.int .u64 (m:Int)]=some (.AU a 0 1 (some 1),.cells 200 1 (Kl m) false)/\∃k d f u,BA a (.cells 200 1 (Kl m) false) ⟨h,a+2,c⟩=some ⟨k,a+2,c⟩/\Bq (a+1) 200 1 8 ah (.AU a 0 1 (some 1)) ⟨k,a+2,c⟩=some (d,⟨f,a+2,c⟩) /\
  BM 1 (.AL s 1) d ⟨f,a+2,c⟩=some (.undef,⟨u,a+2,c⟩)/\SF it c s h1 pl d P (A++[m]) ⟨u,a+2,c⟩:=by
 have f:s+2<=a:=H.cs;have j:=H.ls;have J:CL h<=a:=H.tp;obtain⟨D,k,d,f,I,z,G,B,l,r,K⟩:=JE (c':=a+2) (bytes:=8) (zero:=[.int .u64 0]) (v:=.int .u64 (m:Int)) (x:=m) (enc:=Kl) (sz:=1) (fun _=>rfl) (by omega) H.ahs J (lo:=c) (fun p y=>by have:=H.Zl p y;omega) rfl rfl rfl F (by omega);have own:∀q,Az ah=some q->s+2<=q:=H.Zl;have o:AA f s=some (.cells 137 3 [pl,ah,.AO] false):=(l s (by omega) fun e=>by have:=own s e;omega).trans H.res;have i:=G.one;have n:BM 1 (.AL s 1) d ⟨f,a+2,c⟩=some (.undef,⟨Ah f s (.cells 137 3 [pl,d,.AO] false),a+2,c⟩):=by rw[CE,o,CW];simp[i,j]
 have g:∀q,Az d=some q->s+2<=q:=fun q b=>by
  rcases r q b with e|e
  ·omega
  ·exact own q e
 refine⟨D,k,d,f,_,I,z,n,rfl,by show s+2<=a+2;omega,j,by show CL (Ah _ _ _)<=_;rw[Cg];exact B,fun q b=>(Bn (by omega)).trans ((l q (by omega) fun e=>by have:=own q e;omega).trans (H.CY q b)),by show AA (Ah _ _ _) _=_;rw[Fy rfl,o];rfl,(Bn (by omega)).trans ((l (s+1) (by omega) fun e=>by have:=own _ e;omega).trans H.nP),H.vQ.heap fun q b=>?_,G.heap fun q b=>Bn fun e=>by have:=g q b;omega,H.XL,g,fun q b=>?_,H.sF,K H.sG⟩
 ·have w:=H.XL q b;have t:q<a:=Bt (H.vQ.lt b) H.tp;exact (Bn (by omega)).trans (l q t fun e=>H.ne q b e)
 ·intro w;have t:q<a:=Bt (H.vQ.lt b) H.tp;rcases r q w with e|e
  ·omega
  ·exact H.ne q b e
theorem VB:∀P:List Place,(∀p∈P,Vl p=true)->KU (P.flatMap Bh)=some P
 |[],_=>rfl
 |(r,d)::P,a=>by show (bif Vl (r,d) then (match KU (P.flatMap Bh) with|some c=>some ((r,d)::c)|none=>none) else none)=_;rw[a (r,d) (by simp),Ba,VB P fun p b=>a p (Cu _ b)]
theorem AAL{p:Place}(h1:-1<=p.1)(b:p.1<=1000000)(a:p.2<=1000000):Vl p=true:=by
 obtain⟨r,d⟩:=p;have a:d<=1000000:=a;unfold Vl;rw[Aq];refine⟨Dv a,?_⟩;cases r with
 |ofNat n=>have b:(n:Int)<=1000000:=b;exact Dv (by omega)
 |negSucc n=>have h1:-1<=Int.negSucc n:=h1;exact Dv (by omega)
theorem SF.sort{h:Aa}{d:Nat}(H:SF it c s h1 pl ah P A ⟨h,d,c⟩)(z:P.length<=1000)(v:∀p∈P,Vl p=true)(n:Nat) :
 ∃t,JY 2 Te Bh (Lt n) ⟨h,d,c⟩ [pl,.fn (.func n) [] []]=some (.tuple [],⟨t,d,c⟩)/\SF it c s h1 pl ah (Hl Iz P) A ⟨t,d,c⟩:=by
 have r:=H.ls;have l:Lt n (.fn (.func n) [] [])=some Iz:=by simp[Lt]
 have G:Gq h 212 2 Bh pl P:=H.vQ;generalize b:pl=w at G;cases G with
 |nl=>subst b;exact⟨h,by simp[JY,l],H⟩
 |ob id _ rest ext cap m y=>
  subst b;have x:=H.XL id rfl;by_cases h0:P.length=0
  ·have:P=[]:=Gn h0;subst this;exact⟨h,by simp[JY,l],H⟩
  have f:(P.flatMap Bh).length=P.length*2:=Ib (sz:=2) (enc:=Bh) (fun _=>rfl) P;have o:BS h 2 P.length (.AU id 0 P.length cap)=some (P.flatMap Bh):=by simp[BS,m,ble_eq,f]
  have i:Te (P.flatMap Bh)=some P:=by unfold Te;rw[ble_eq,f,Bw (by omega),Ba,VB P v]
  have a:(Hl Iz P).length=P.length:=(Ip Iz P).length_eq;have g:((Hl Iz P).flatMap Bh).length=(P.flatMap Bh).length:=by rw[Ib (sz:=2) (fun _=>rfl),Ib (sz:=2) (fun _=>rfl),a]
  have u:=Xo (c:=d) (lo:=c) (off:=0) (vs:=(Hl Iz P).flatMap Bh) m (by omega) (by rw[g,Bd];omega);have j:=OY (A:=[]) (B:=P.flatMap Bh) (C:=rest) (vs:=(Hl Iz P).flatMap Bh) g.symm;simp only[JJ,GY]at j;rw[j]at u;refine⟨Ah h id (.cells 212 2 ((Hl Iz P).flatMap Bh++rest) ext),by simp[JY,l,beq_eq,h0,o,i,u],?_⟩;refine⟨rfl,H.cs,r,by show CL (Ah _ _ _)<=_;rw[Cg];exact H.tp,fun q k=>(Bn (by omega)).trans (H.CY q k),(Bn (by omega)).trans H.res,(Bn (by omega)).trans H.nP,?_,H.ahs.heap fun q k=>Bn fun e=>H.ne id rfl (e▸k),H.XL,H.Zl,H.ne,H.sF,H.sG⟩;have:=Gq.ob (enc:=Bh) (ty:=212) (sz:=2) (h:=Ah h id (.cells 212 2 ((Hl Iz P).flatMap Bh++rest) ext)) id (Hl Iz P) rest ext cap (by rw[Fy rfl,m];rfl) (by rw[a];exact y);rwa [a]at this
end
theorem uY{F c s:Nat}{h1:Aa}{K:Ig}(hn:(K.map (·.1)).Nodup)(a3:K.length<=1000)(a2:c+2<=s)(hK:AA h1 (c+1)=some (Gj FR JQ K)){u:St}(S0:SF (.iter (some (c+1)) K.length [] K.length) c s h1 .AO .AO [] [] u)(i:TS)(y:i.get 4=.AL c 0)(A:i.get 5=.Cq (c+1))(j:i.get 16=.AL s 0)(f:i.get 133=.AL (s+1) 0) :
 (Dm (Bc E (Ab E F) C.f152L3) E.k i u).all fun x=>x.1=.exit 6/\x.2.1.get 4=.AL c 0/\x.2.1.get 5=.Cq (c+1)/\x.2.1.get 16=.AL s 0/\∃it' pl P,SF it' c s h1 pl .AO P [] x.2.2/\P.Nodup/\∀p,p∈P↔p∈K.map (·.1):=by
 refine bF (fun (seen:List Nat) i u=>seen.Nodup/\(∀b∈seen,b<K.length)/\Has i [(4,.AL c 0),(5,.Cq (c+1)),(16,.AL s 0),(133,.AL (s+1) 0)]/\∃pl,SF (.iter (some (c+1)) K.length seen K.length) c s h1 pl .AO ((Ga K seen).map (·.1)) [] u)
  (fun seen=>K.length-seen.length) (fun e i u=>e=.exit 6/\i.get 4=.AL c 0/\i.get 5=.Cq (c+1)/\i.get 16=.AL s 0/\∃it' pl P,SF it' c s h1 pl .AO P [] u/\P.Nodup/\∀p,p∈P↔p∈K.map (·.1)) ?_ _ [] _ _ ?_ ?_
 ·clear y A j f S0;rintro seen i ⟨h,B,lo⟩ ⟨J,H,z,pl,t⟩;simp only[Be,CG,BX]at z;obtain⟨y,A,j,f⟩:=z;have Q:lo=c:=t.lo;subst Q;have h3:s+2<=B:=t.cs;have a1:=t.ls;have Z:seen.length<=K.length:=OE _ _ J H;have S:AA h (lo+1)=some (Gj FR JQ K):=(t.CY (lo+1) (by omega)).trans hK;have hi:AA h (s+1)=some (.iter (some (lo+1)) K.length seen K.length):=t.nP;have o:(∀b,b<K.length->b∈seen)->∀p,p∈(Ga K seen).map (·.1)↔p∈K.map (·.1):=fun g p=>by
   rw[BP,BP];constructor
   ·rintro⟨x,h1,l⟩;exact⟨x,(Tm H g x).1 h1,l⟩
   ·rintro⟨x,h1,l⟩;exact⟨x,(Tm H g x).2 h1,l⟩
  simp only[C.f152L3,TI,VP,yu,kC,vX,aF,qL,qM,f,M.bind_assoc,M.JZ,IK];rw[M.Jo];refine qG (by omega) S hi ?_ ?_
  ·intro g;simp[y,A,j];refine⟨_,_,_,t,Qf hn J H,?_⟩;intro r d;have:=o g (r,d);simpa using this
  ·intro b Y w;have D:=t.iter (it':=.iter (some (lo+1)) K.length (seen++[b]) K.length);obtain⟨l,N⟩:∃l,l=Ah h (s+1) (.iter (some (lo+1)) K.length (seen++[b]) K.length):=⟨_,rfl⟩;rw[←N]at D⊢;have O:CL l<=B:=D.tp;have V:AA l (lo+1)=some (Gj FR JQ K):=(D.CY (lo+1) (by omega)).trans hK;have en:∀I,NH (.AL (s+1) 0) ⟨l,I,lo⟩=some (.tuple [.agg (Bh K[b].1),JQ K[b].2],⟨l,I,lo⟩):=fun I=>xn (c:=I) (lo:=lo) V D.nP Y;obtain⟨a0,L,n1,s1,f2,t2,T⟩:=Ih (c':=B+1) (ty:=212) (sz:=2) (n:=2) (v:=.agg (Bh K[b].1)) (cs:=Bh K[b].1) (zero:=[.int .i64 0,.int .i64 0]) O (lo:=lo) (by omega) rfl rfl rfl rfl;have S3:SF (.iter (some (lo+1)) K.length (seen++[b]) K.length) lo s h1 pl .AO ((Ga K seen).map (·.1)) [] ⟨L,B+1,lo⟩:=D.grow (by omega) t2 fun q hq=>T q (by omega);have r4:Ak L (.AL B 0) 2=some (Bh K[b].1):=by rw[Bv,f2];rfl
   have rp:AQ L (.AL s 0)=some pl:=by rw[BB,S3.res];rfl
   have U:(Ga K seen).length=seen.length:=by simp[Ga]
   obtain⟨p1,h5,w',h6,h7,p2,p3,p4,S4⟩:=S3.AFM K[b].1 (by rw[Fz,U];omega);have W:(Ga K seen).map (·.1)++[K[b].1]=(Ga K (seen++[b])).map (·.1):=by rw[Rn Y];simp
   rw[W]at S4;simp[y,A,j,f,en,n1,s1,r4,rp,p1,p2,p3,p4];have m:∀a∈seen++[b],a<K.length:=fun a ha=>by
    rcases Ca.1 ha with h|h
    ·exact H a h
    ·simp at h;omega
   have R:=OE _ _ (Qo J w) m;rw[Bd,Fq]at R;exact⟨seen++[b],by rw[Bd,Fq];omega,Qo J w,m,w',S4⟩
 ·exact FX (by show K.length-0<1000000;omega)
 ·exact⟨List.nodup_nil,by simp,by simp[y,A,j,f],.AO,S0⟩
theorem uX{F c s:Nat}{h1:Aa}{K:Ig}{it:BJ}{pl:AV}{P:List Place}(hP:P.length<=1000)(a0:c+2<=s)(V:AA h1 (c+1)=some (Gj FR JQ K)){w:St}(I:SF it c s h1 pl .AO P [] w)(e:TS)(r:e.get 4=.AL c 0)(u:e.get 5=.Cq (c+1))(d:e.get 16=.AL s 0)(z148:e.get 148=pl)(a:e.get 149=.int .i64 (P.length:Int))(b:e.get 150=.int .i64 0) :
 (Dm (Bc E (Ab E F) C.f152L4) E.k e w).to fun x=>x.1=.exit 8/\x.2.1.get 4=.AL c 0/\x.2.1.get 16=.AL s 0/\∃ah,SF it c s h1 pl ah P (P.map (CR K)) x.2.2:=by
 refine Cy (fun (i:Nat) e w=>i<=P.length/\Has e [(4,.AL c 0),(5,.Cq (c+1)),(16,.AL s 0),(148,pl),(149,.int .i64 (P.length:Int)),(150,.int .i64 (i:Int))]/\∃ah,SF it c s h1 pl ah P ((P.take i).map (CR K)) w)
  (fun i=>P.length-i) ?_ _ 0 _ _ ?_ ?_
 ·clear r u d z148 a b I;rintro i e ⟨h,m,lo⟩ ⟨hi,t,ah,g⟩;simp only[Be,CG,BX]at t;obtain⟨r,u,d,z148,a,b⟩:=t;have H:lo=c:=g.lo;subst H;have h3:s+2<=m:=g.cs;have a2:=g.ls;by_cases Bi:i<P.length
  ·obtain⟨q,Y,j⟩:=(Gq.rs (sz:=2) (enc:=Bh) (fun _=>rfl) g.vQ).at_ i Bi;have p:=j.all;have o:(Bh P[i]).length=2:=rfl;rw[o]at p;have A:∀f,AY 2 pl (.int .i64 (i:Int)) ⟨h,f,lo⟩=some (q,⟨h,f,lo⟩):=fun f=>Y _ rfl;obtain⟨a1,l,n1,Z,f2,N,y⟩:=Ih (c':=m+1) (ty:=212) (sz:=2) (n:=2) (v:=.agg (Bh P[i])) (cs:=Bh P[i]) (zero:=[.int .i64 0,.int .i64 0]) g.tp (lo:=lo) (by show lo<=m;omega) rfl rfl rfl rfl;have D:SF it lo s h1 pl ah P ((P.take i).map (CR K)) ⟨l,m+1,lo⟩:=g.grow (by omega) N fun q hq=>y q (by show q≠m;omega);have U:Ak l (.AL m 0) 2=some (Bh P[i]):=by rw[Bv,f2];rfl
   have T:AQ l (.AL s 1)=some ah:=by rw[BB,D.res];rfl
   have z:AA l (lo+1)=some (Gj FR JQ K):=(D.CY (lo+1) (by omega)).trans V;have R:∀f,FT (.many [.int,.int]) (.int .u64 0) false (.Cq (lo+1)) (.agg (Bh P[i])) ⟨l,f,lo⟩=some (.int .u64 ((CR K P[i]:Nat):Int),⟨l,f,lo⟩):=fun f=>by have:=Sq (c:=f) (lo:=lo) (zero:=.int .u64 0) NM z P[i];rw[Ui]at this;exact this
   obtain⟨W,h5,Q,h6,h7,S,L,O,J⟩:=D.AFP (CR K P[i]) (by rw[Fz,Gv];omega);have B:(P.take i).map (CR K)++[CR K P[i]]=(P.take (i+1)).map (CR K):=by rw[Gy Bi,Hf];rfl
   rw[B]at J;simp[C.f152L4,r,u,d,z148,a,b,Bi,A,p,n1,Z,U,T,R,W,S,L,O,wi i];exact⟨i+1,by omega,by omega,by simp,Q,by simpa using J⟩
  ·have:i=P.length:=by omega
   subst this;simp[C.f152L4,r,d,a,b];rw[FQ]at g;exact⟨ah,g⟩
 ·exact FX (by show P.length-0<1000000;omega)
 ·exact⟨by omega,by simp[r,u,d,z148,a,b],.AO,by simpa using I⟩
theorem Rt{α:Type}[DecidableEq α]:∀{l m:List α},l.Nodup->(∀x∈l,x∈m)->l.length<=m.length
 |[],_,_,_=>CZ _
 |a::l,m,h,c=>by rw[Js]at h;have b:a∈m:=c a (by simp);have:=Rt (l:=l) (m:=m.erase a) h.2 fun x d=>(List.mem_erase_of_ne fun e=>by subst e;exact h.1 d).2 (c x (by simp[d]));rw[List.length_erase_of_mem b]at this;have:0<m.length:=List.length_pos_of_mem b;simp only[FV];omega
def WY(g:Ac):List Place:=((-1:Int)::(List.range g.AP.length).map fun (n:Nat)=>(n:Int)).flatMap fun r=>(List.range 31).map fun d=>(r,d)
theorem yO:∀l:List Int,(l.flatMap fun r=>(List.range 31).map fun d=>((r,d):Place)).length=l.length*31
 |[]=>rfl
 |a::l=>by rw[Cn,Bd,yO l];simp;omega
theorem Ua{g:Ac}(b:g.Small)(r:Int)(c:r<g.AP.length):(g.Dk r).length<=30:=by
 by_cases h0:r<0
 ·unfold Ac.Dk;rw[AX h0];simp
 ·obtain⟨n,rfl⟩:∃n:Nat,r=(n:Int):=⟨r.toNat,by omega⟩;have a:n<g.AP.length:=by omega
  rw[Ox,List.getD,Bu a];exact (b.AP _ (BH a)).right
theorem Valid.len{g:Ac}{M:Ig}(V:Valid g M)(b:g.Small):M.length<=403:=by
 have:=Rt (m:=WY g) V.nodup fun p c=>by
  obtain⟨x,d,rfl⟩:=BP.1 c;obtain⟨e,a,f⟩:=V.place x d;have:=Ua b x.1.1 a;refine Ka.2 ⟨x.1.1,?_,BP.2 ⟨x.1.2,Gd.2 (by omega),rfl⟩⟩;by_cases h0:x.1.1=-1
  ·rw[h0];simp
  ·exact Cu _ (BP.2 ⟨x.1.1.toNat,Gd.2 (by omega),by omega⟩)
 rw[Fz]at this;have a:(WY g).length=(g.AP.length+1)*31:=by unfold WY;rw[yO];simp
 have:=b.many;omega
theorem su{K M:Ig}(e:(K.map (·.1)).Nodup)(f:(M.map (·.1)).Nodup)(h:∀y,y∈M↔y∈K):CR M=CR K:=by
 funext p;by_cases hp:p∈K.map (·.1)
 ·have c:=Oe e hp;have b:=(h _).2 c;exact QA f b
 ·have a:p∉M.map (·.1):=fun d=>by obtain⟨x,c,b⟩:=BP.1 d;exact hp (BP.2 ⟨x,(h x).1 c,b⟩)
  rw[KR hp,KR a]
theorem Valid.same{g:Ac}{K M:Ig}(V:Valid g K)(b:(M.map (·.1)).Nodup)(h:∀y,y∈M↔y∈K):Valid g M:=
 ⟨b,fun x a=>V.place x ((h x).1 a),fun x a=>V.pos x ((h x).1 a),fun x a=>V.bits x ((h x).1 a)⟩
def Uj(M:Ig)(P:List Place):Ig:=P.map fun p=>(p,CR M p)
theorem Ty{M:Ig}{P:List Place}:(Uj M P).map (·.1)=P:=by simp[Uj,Lm]
theorem tT{M:Ig}{P:List Place}(b:P.Nodup)(h:∀p,p∈P↔p∈M.map (·.1))(p:Place):CR (Uj M P) p=CR M p:=by
 by_cases hp:p∈P
 ·exact QA (by rw[Ty];exact b) (BP.2 ⟨p,hp,rfl⟩)
 ·rw[KR (by rw[Ty];exact hp),KR fun a=>hp ((h p).2 a)]
theorem tV{g:Ac}{M:Ig}{P:List Place}(V:Valid g M)(i:P.Nodup)(h:∀p,p∈P↔p∈M.map (·.1)):VW g (Uj M (Hl Iz P)):=by
 have e:=Ip Iz P;have c:∀x∈Uj M (Hl Iz P),x∈M:=fun x d=>by obtain⟨p,f,rfl⟩:=BP.1 d;exact Oe V.nodup ((h p).1 (e.mem_iff.1 f))
 refine⟨⟨by rw[Ty];exact e.nodup_iff.2 i,fun x d=>V.place x (c x d),fun x d=>V.pos x (c x d),fun x d=>V.bits x (c x d)⟩,?_⟩;unfold Uj;rw[List.pairwise_map];have:=List.Pairwise.and (e.nodup_iff.2 i) (UU PI P);refine this.imp fun {a b} ⟨f,j⟩=>?_;cases h3:Iz a b with
 |true=>rfl
 |false=>exact absurd (PI.tot a b h3 j) f
theorem Xw{α:Type}{a:α->List AV}{el:α->AV}{h:Aa}{s b c n:Nat}{w:AV}{L:List α}(G:Gq h s b a w L)(k:∀x,(a x).length=b)(l:0<b)(o:Opn w)(g:L≠[])(t:∀p,Az w=some p->c<=p)(d:AV.Dq c (L.flatMap a)=true)(r:rows b L.length (L.flatMap a)=L.map el):Ce c h (n+2) w=some (.list false b (L.map el)):=by
 cases G with
 |nl=>exact absurd rfl g
 |ob id _ rest ext cap m i=>
  have e:cap=none:=by
   cases cap with
   |none=>rfl
   |some q=>exact absurd rfl (o id L.length q)
  subst e;have f:(L.flatMap a).length=L.length*b:=Ib k L;have j:DD (Ce c h (n+1)) (((L.flatMap a++rest).drop 0).take (L.length*b))=some (L.flatMap a):=by rw[FB,←f,Je];exact Hu d
  rw[Gh (t id rfl) m l (by rw[Bd,f];omega) j,r]
theorem bV:∀P:List Place,rows 2 P.length (P.flatMap Bh)=P.map FR
 |[]=>rfl
 |p::P=>by have a:=bV P;show AV.agg _::rows 2 P.length _=_;rw[Dh];congr 1
theorem wL:∀A:List Nat,rows 1 A.length (A.flatMap Kl)=A.map JQ
 |[]=>rfl
 |p::P=>by have a:=wL P;show _::rows 1 P.length _=_;rw[Dh];congr 1
theorem bZ(c:Nat):∀P:List Place,AV.Dq c (P.flatMap Bh)=true
 |[]=>rfl
 |p::P=>by have a:=bZ c P;show AV.Dq c (.int .i64 p.1::.int .i64 (p.2:Int)::P.flatMap Bh)=true;simp[AV.Dq,AV.CY,a]
theorem mZ(c:Nat):∀A:List Nat,AV.Dq c (A.flatMap Kl)=true
 |[]=>rfl
 |p::P=>by have a:=mZ c P;show AV.Dq c (.int .u64 (p:Int)::P.flatMap Kl)=true;simp[AV.Dq,AV.CY,a]
def Po(S:Ig):AV:=.agg [.list false 2 (S.map fun x=>FR x.1),.list false 1 (S.map fun x=>JQ x.2),.AO]
theorem ZM{k m c lo:Nat}{g:Ac}{K:Ig}{F:List Nat}{N:List Bool}{av ov ss:AV}{h:Aa}(H:kT g F N)(ht:CL h<=c)(hm:m<c)(HA:∀v:Aa,(∀p,p<c->AA v p=AA h p)->kr v av g F N ov ss)(V:Valid g K)(b6:K≠[])(hK:AA h m=some (Gj FR JQ K)) :
 ∃S,(VW g S/\S≠[]/\∀x,JO g (CR S) x↔vN g (JO g (CR K)) x)/\Ab E (k+3) 152 [av,.Cq m] ⟨h,c,lo⟩=.ret (Po S,⟨h,c,lo⟩):=by
 have hs:=H.Nf.small;have d8:=V.len hs;rw[pI (fn:=C.f152) rfl rfl rfl,Ap (by simp)];refine wH (P:=fun S=>VW g S/\S≠[]/\∀x,JO g (CR S) x↔vN g (JO g (CR K)) x) (f:=Po) (fun a b ha hb=>AAH H.Nf ha.1 hb.1 fun x=>(ha.2.2 x).trans (hb.2.2 x).symm) ?_;obtain⟨h1,Q⟩:∃h1:Aa,h1=(c,BJ.cells 137 3 [.AO,.AO,.AO] false)::h:=⟨_,rfl⟩;have n1:BA c (.cells 137 3 [.AO,.AO,.AO] false) ⟨h,c+1,c⟩=some ⟨h1,c+1,c⟩:=by rw[Q];exact BF ht
 have t1:CL h1<=c+1:=by rw[Q,Ay];omega
 obtain⟨v,B⟩:∃v:Aa,v=(c+1,BJ.map [] [] [] 0)::h1:=⟨_,rfl⟩;have n2:BA (c+1) (.map [] [] [] 0) ⟨h1,c+2,c⟩=some ⟨v,c+2,c⟩:=by rw[B];exact BF t1
 have t2:CL v<=c+2:=by rw[B,Ay];omega
 have W:∀p,p<c->AA v p=AA h p:=fun p i=>by rw[B,Ar (by omega),Q,Ar (by omega)]
 have rg:=iO (c:=c+3) (lo:=c) ((W m hm).trans hK) (o:=c+2) t2;obtain⟨h3,z⟩:∃h3:Aa,h3=(c+2,BJ.iter (some m) K.length [] K.length)::v:=⟨_,rfl⟩;rw[←z]at rg;have C0:CF (.iter (some m) K.length [] K.length) c h [] .AO [] ⟨h3,c+3,c⟩:=by
  refine⟨rfl,Ao _,by show CL h3<=c+3;rw[z,Ay];omega,fun p i=>?_,?_,?_,.nl,fun p i=>(by cases i),?_⟩
  ·rw[z,Ar (by omega)];exact W p i
  ·rw[z,Ar (by omega),B,Ar (by omega),Q,BV rfl]
  ·rw[z,Ar (by omega),B,BV rfl];rfl
  ·rw[z,BV rfl]
 simp[C.f152,n1,n2,rg];rw[Am.M.Jo];refine Am.M.GU (uf (F:=k+2) (av:=av) V.nodup (by omega) hm hK C0 _ (by simp) (by simp) (by simp) (by simp) (by simp)) fun x R=>?_;obtain⟨e,c2,⟨h4,c4,d1⟩⟩:=x;obtain⟨rfl,y0,y4,y5,d3,M,w,y6,C1,a9,a2⟩:=R;simp only at y0 y4 y5 y6 C1;have VM:=V.same a9 a2;have d7:=VM.len hs;have c0:=su V.nodup a9 a2;have W0:TQ g (JO g (CR K)) M (M.map (·.1)):=TQ.Ai VM (fun x=>by rw[c0]) fun q=>Iff.rfl;simp;rw[Am.M.Jo];refine Am.M.GU (Am.M.lT (uZ (k:=k) H HA C1 W0 (by have:=AA8 hs M;rw[Fz];omega) c2 y0 y4 y5 y6)) fun x R=>?_;obtain⟨e,d6,⟨h5,r,j⟩⟩:=x;obtain⟨rfl,x4,x5,O,w',U,W1⟩:=R;simp only at x4 x5 U;have a7:j=c:=U.lo;subst a7;have d2:j+3<=r:=U.c3;have t5:CL h5<=r:=U.tp;have a8:=W1.val.len hs;obtain⟨h6,I⟩:∃h6:Aa,h6=(r,BJ.cells 137 3 [.AO,.AO,.AO] false)::h5:=⟨_,rfl⟩;have n6:BA r (.cells 137 3 [.AO,.AO,.AO] false) ⟨h5,r+1,j⟩=some ⟨h6,r+1,j⟩:=by rw[I];exact BF t5
 have t6:CL h6<=r+1:=by rw[I,Ay];omega
 have m6:AA h6 (j+1)=some (Gj FR JQ O):=by rw[I,Ar (by omega)];exact U.map
 have b0:=iO (c:=r+2) (lo:=j) m6 (o:=r+1) t6;obtain⟨h7,J⟩:∃h7:Aa,h7=(r+1,BJ.iter (some (j+1)) O.length [] O.length)::h6:=⟨_,rfl⟩;rw[←J]at b0;have S0:SF (.iter (some (j+1)) O.length [] O.length) j r h5 .AO .AO [] [] ⟨h7,r+2,j⟩:=by
  refine⟨rfl,Ao _,by omega,by show CL h7<=r+2;rw[J,Ay];omega,fun p i=>?_,?_,?_,.nl,.nl,fun p i=>(by cases i),fun p i=>(by cases i),fun p i=>(by cases i),fun id n q e=>(by cases e),fun id n q e=>(by cases e)⟩
  ·rw[J,Ar (by omega),I,Ar (by omega)]
  ·rw[J,Ar (by omega),I,BV rfl]
  ·rw[J,BV rfl]
 simp[n6,x5,b0];rw[Am.M.Jo];refine Am.M.GU (uY (F:=k+2) W1.val.nodup (by omega) (by omega) U.map S0 _ (by simp[x4]) (by simp[x5]) (by simp) (by simp)) fun x R=>?_;obtain⟨e,d4,⟨h8,c8,T⟩⟩:=x;obtain⟨rfl,v4,v5,Y,d5,s,P,S1,a0,y⟩:=R;simp only at v4 v5 Y S1;have a3:T=j:=S1.lo;subst a3;have c9:P.length<=403:=DV (Rt a0 fun p i=>(y p).1 i) (by rw[Fz];exact a8);have b5:(Hl Iz P).length=P.length:=(Ip Iz P).length_eq;have b9:∀p∈P,Vl p=true:=fun p i=>by obtain⟨x,R,rfl⟩:=BP.1 ((y p).1 i);obtain⟨b1,b2,b3⟩:=W1.val.place x R;have:=Ua hs x.1.1 b2;have:=hs.many;exact AAL b1 (by omega) (by omega)
 obtain⟨h9,c6,S2⟩:=S1.sort (by omega) b9 204;have a1:Ab E (k+2) 203 [s,.fn (.func 204) [] []] ⟨h8,c8,T⟩=.ret (.tuple [],⟨h9,c8,T⟩):=XD rfl c6;have r8:AQ h8 (.AL r 0)=some s:=by rw[BB,S1.res];rfl
 have r9:AQ h9 (.AL r 0)=some s:=by rw[BB,S2.res];rfl
 have l9:∀st:St,BZ .slice s st=some (.int .i64 ((Hl Iz P).length:Int),st):=fun st=>S2.vQ.BZ st;simp[Y,r8,a1,r9,l9];rw[Am.M.Jo];refine Am.M.GU (Am.M.lT (uX (F:=k+2) (by omega) (by omega) U.map S2 _ (by simp[v4]) (by simp[v5]) (by simp[Y]) (by simp) (by simp) (by simp))) fun x R=>?_;obtain⟨e,d0,⟨A,a5,d⟩⟩:=x;obtain⟨rfl,u4,a6,L,u⟩:=R;simp only at u4 a6 u;have Z:d=T:=u.lo;subst Z;have ra:Ak A (.AL r 0) 3=some [s,L,.AO]:=by rw[Bv,u.res];rfl
 have fc:AA A d=some (.cells 137 3 [.AO,.AO,.AO] false):=(u.CY d (by omega)).trans U.res;have b4:BM 3 (.AL d 0) (.agg [s,L,.AO]) ⟨A,a5,d⟩=some (.undef,⟨Ah A d (.cells 137 3 [s,L,.AO] false),a5,d⟩):=by rw[CE,fc,CW];simp[AV.isTuple,AV.cells,Bl]
 have rb:Ak (Ah A d (.cells 137 3 [s,L,.AO] false)) (.AL d 0) 3=some [s,L,.AO]:=by rw[Bv,Fy rfl,fc];rfl
 have a4:P≠[]:=by
  obtain⟨a,ha⟩:∃a,a∈K:=List.exists_mem_of_ne_nil K b6;intro e;subst e;have hb:=V.bits a ha;obtain⟨b,c7⟩:=aV (V.pos a ha) hb;have c1:JO g (CR K) ⟨a.1.1,a.1.2,b⟩:=by show Lets g (CR K (a.1.1,a.1.2)) b;rw[QA V.nodup (p:=(a.1.1,a.1.2)) (m:=a.2) ha];exact c7
  have v:=W1.base _ c1;have h3:(a.1.1,a.1.2)∈O.map (·.1):=Qb fun hn=>by unfold JO at v;rw[KR hn]at v;exact aU v
  have:=(y _).2 h3;cases this
 have t:Hl Iz P≠[]:=fun e=>a4 (Gn (by rw[←b5,e];rfl));obtain⟨l,D⟩:∃l,l=Ah A d (.cells 137 3 [s,L,.AO] false):=⟨_,rfl⟩;rw[←D]at b4 rb;have b7:∀n,Ce d l (n+2) s=some (.list false 2 ((Hl Iz P).map FR)):=fun n=>by
  have G:Gq l 212 2 Bh s (Hl Iz P):=u.vQ.heap fun p i=>by have:=u.XL p i;rw[D,Bn (by omega)]
  exact Xw G (fun _=>rfl) (by omega) u.sF t (fun p i=>by have:=u.XL p i;omega) (bZ _ _) (bV _)
 have b8:∀n,Ce d l (n+2) L=some (.list false 1 (((Hl Iz P).map (CR O)).map JQ)):=fun n=>by
  have G:Gq l 200 1 Kl L ((Hl Iz P).map (CR O)):=u.ahs.heap fun p i=>by have:=u.Zl p i;rw[D,Bn (by omega)]
  exact Xw G (fun _=>rfl) (by omega) u.sG (by simp[t]) (fun p i=>by have:=u.Zl p i;omega) (mZ _ _) (wL _)
 have th:Ce d l Ck (.agg [s,L,.AO])=some (Po (Uj O (Hl Iz P))):=by
  have e1:AV.CY d (.agg [s,L,.AO])=false:=by
   have i:AV.CY d s=false:=by
    rcases u.vQ.mi with⟨_,e⟩|⟨id,cap,e⟩
    ·exact absurd e t
    ·have:=u.XL id (by rw[e];rfl);rw[e];simp[AV.CY,blt_eq];omega
   simp[AV.CY,AV.Dq,i]
  show Ce d l (63+1) _=_;unfold Ce;rw[e1,Bj];simp only[DD,b7 61,b8 61];have:Ce d l 63 .AO=some .AO:=FH rfl;rw[this];simp[Po,Uj,Lm]
 simp[a6,u4,ra,b4,Al,results,Af,rb,BU,th];have hm:=fun p=>y p;refine⟨_,⟨tV W1.val a0 y,?_,fun x=>?_⟩,rfl⟩
 ·unfold Uj;simp[t]
 ·rw[←W1.closed x];unfold JO;rw[tT ((Ip Iz P).nodup_iff.2 a0) fun p=>((Ip Iz P).mem_iff).trans (y p)]
def DC(r:List Int):List AV:=r.map fun x=>AV.int .i64 x
theorem Ns(r:List Int):(DC r).length=r.length:=by simp[DC]
theorem AAT{o n:Nat}(b:n<=1000):Dy o 3 1 8 [.int .i64 0] (.int .i64 (n:Int)) (.int .i64 (n:Int))=some (.AU o 0 n (some n),.cells 3 1 (DC (List.replicate n 0)) false):=by
 have a:n*8<=room/\n<=room:=by unfold room;omega
 simp[Dy,Bg,ble_eq,blt_eq,a.1,a.2,Iq,DC]
theorem UZ{h:Aa}{o n c lo i:Nat}{r:List Int}(a:AA h o=some (.cells 3 1 (DC r) false))(d:r.length=n)(b:i<n):AY 1 (.AU o 0 n (some n)) (.int .i64 (i:Int)) ⟨h,c,lo⟩=some (.AL o i,⟨h,c,lo⟩):=by simp[AY,Bg,a,blt_eq,b]
theorem AAD{h:Aa}{o i:Nat}{r:List Int}(a:AA h o=some (.cells 3 1 (DC r) false))(b:i<r.length):AQ h (.AL o i)=some (.int .i64 r[i]):=by rw[BB,a,Ik];simp[DC,b]
theorem bW{h:Aa}{o c lo i:Nat}{r:List Int}(d:AA h o=some (.cells 3 1 (DC r) false))(a:lo<=o)(j:i<r.length)(x:Int):BM 1 (.AL o i) (.int .i64 x) ⟨h,c,lo⟩=some (.undef,⟨Ah h o (.cells 3 1 (DC (r.set i x)) false),c,lo⟩):=by
 rw[CE,d,CW];have e:Bl (DC r) i [.int .i64 x]=DC (r.set i x):=by
  unfold Bl;have b:i<(DC r).length:=by rw[Ns];exact j
  have f:DC (r.set i x)=(DC r).set i (.int .i64 x):=by simp[DC,GX]
  rw[f,NY,AX b];simp
 have b:i+[AV.int .i64 x].length<=(DC r).length:=by rw[Ns];simp;omega
 have g:(AV.int .i64 x).cells=[.int .i64 x]:=rfl;rw[AX ⟨rfl,rfl⟩,g,AX ⟨a,b⟩,e]
theorem Rs{k c lo:Nat}{h:Aa}{H ov Q:AV}{g:Ac}{F:List Nat}{N:List Bool}(A:kr h H g F N ov Q)(S:CL h<=c)(I:lo<=c)(hn:g.AB.length<=1000) :
 ∃a,Ab E (k+1) 153 [H] ⟨h,c,lo⟩=.ret (.AU c 0 g.AB.length (some g.AB.length),⟨a,c+1,lo⟩)/\AA a c=some (.cells 3 1 (DC (List.replicate g.AB.length (-1))) false)/\CL a<=c+1/\∀p,p≠c->AA a p=AA h p:=by
 obtain⟨cv,nv,fv,sv,q,hc,T,hf,R⟩:=A.out;rw[Av (fn:=C.f153) rfl rfl rfl,Ap (by simp)];obtain⟨P,rv,a2,lr,a1,rfl,J,_⟩:=hc.out;have O:=q.one 0 (by simp);simp only[NU]at O;generalize hN:g.AB.length=n at *
 have D:∀st:St,BZ .slice P st=some (.int .i64 (n:Int),st):=fun st=>by have:=J.len (st:=st);rw[Gb,hN]at this;exact this
 have mk:=AAT (o:=c) hn;obtain⟨l,j⟩:∃l:Aa,l=(c,BJ.cells 3 1 (DC (List.replicate n 0)) false)::h:=⟨_,rfl⟩;have n1:BA c (.cells 3 1 (DC (List.replicate n 0)) false) ⟨h,c+1,lo⟩=some ⟨l,c+1,lo⟩:=by rw[j];exact BF S
 have V:AA l c=some (.cells 3 1 (DC (List.replicate n 0)) false):=by rw[j,BV rfl]
 have W:∀p,p≠c->AA l p=AA h p:=fun p w=>by rw[j,Ar (Aj w)]
 have Y:CL l<=c+1:=by rw[j,Ay];omega
 have loop:∀m:TS,m.get 3=.AU c 0 n (some n)->m.get 15=.int .i64 (n:Int)->m.get 16=.int .i64 0->(Dm (Bc E (Ab E k) C.f153L0) E.k m ⟨l,c+1,lo⟩).to fun x=>x.1=.exit 0/\x.2.1.get 3=.AU c 0 n (some n)/\∃a,x.2.2=⟨a,c+1,lo⟩/\AA a c=some (.cells 3 1 (DC (List.replicate n (-1))) false)/\CL a<=c+1/\∀p,p≠c->AA a p=AA h p:=by
  intro m t b d;refine Cy (fun (i:Nat) m st=>i<=n/\Has m [(3,.AU c 0 n (some n)),(15,.int .i64 (n:Int)),(16,.int .i64 (i:Int))]/\∃a,st=⟨a,c+1,lo⟩/\AA a c=some (.cells 3 1 (DC (List.replicate i (-1)++List.replicate (n-i) 0)) false)/\CL a<=c+1/\∀p,p≠c->AA a p=AA h p)
   (fun i=>n-i) ?_ _ 0 _ _ ?_ ?_
  ·clear t b d;rintro i m st ⟨hi,v,a,rfl,f,r,s⟩;simp only[Be,CG,BX]at v;obtain⟨t,b,d⟩:=v;by_cases Bi:i<n
   ·have Z:(List.replicate i (-1:Int)++List.replicate (n-i) 0).length=n:=by simp;omega
    have ix:=UZ (c:=c+1) (lo:=lo) f Z Bi;have u:=bW (c:=c+1) (lo:=lo) f I (i:=i) (by omega) (-1);have e:(List.replicate i (-1:Int)++List.replicate (n-i) 0).set i (-1)=List.replicate (i+1) (-1)++List.replicate (n-(i+1)) 0:=by rw[QZ _ _ (by simp),show n-i=(n-(i+1))+1 by omega,List.replicate_succ,List.replicate_succ' (n:=i)];simp
    rw[e]at u;simp[C.f153L0,t,b,d,Bi,ix,u,wi i];refine⟨i+1,by omega,by omega,by simp,by rw[Fy rfl,f];rfl,by rw[Cg];exact r,fun p w=>by rw[Bn (Aj w)];exact s p w⟩
   ·have:i=n:=by omega
    subst this;simp[C.f153L0,t,b,d];exact⟨by simpa using f,r,s⟩
  ·exact FX (by show n-0<1000000;omega)
  ·exact⟨by omega,by simp[t,b,d],l,rfl,by simpa using V,Y,W⟩
 have y:∀st:St,BZ .slice (.AU c 0 n (some n)) st=some (.int .i64 (n:Int),st):=fun _=>rfl;have goal:((Bc E (Ab E k) C.f153.body (TS.FK [H] 0 .nil) ⟨h,c,lo⟩).bind (Al C.f153.results)).to fun x=>∃a,x=(.AU c 0 n (some n),⟨a,c+1,lo⟩)/\AA a c=some (.cells 3 1 (DC (List.replicate n (-1))) false)/\CL a<=c+1/\∀p,p≠c->AA a p=AA h p:=by simp[C.f153,q.nil,q.fld,O,D,mk,n1,y];refine M.BG (loop _ (by simp) (by simp) (by simp)) fun x hx=>?_;obtain⟨e,a0,U⟩:=x;obtain⟨rfl,L,a,rfl,z,K,B⟩:=hx;simp only at L;simp[L,Al,results,Af];exact⟨z,K,B⟩
 obtain⟨x,e,a,rfl,z,K,B⟩:=goal;exact⟨a,e,z,K,B⟩
def mK(g:Ac)(n:Nat)(S:Ig):Ig:=(S.filter fun x=>decide ((g.DR x.1.1)[x.1.2]? =some n)).map fun x=>((x.1.1,x.1.2+1),x.2)
theorem cB{g:Ac}{n:Nat}{S:Ig}{y:Place×Nat}:y∈mK g n S↔∃x∈S,(g.DR x.1.1)[x.1.2]? =some n/\((x.1.1,x.1.2+1),x.2)=y:=by
 unfold mK;rw[BP];constructor
 ·rintro⟨x,a,b⟩;rw[Mw]at a;exact⟨x,a.1,by simpa using a.2,b⟩
 ·rintro⟨x,a,b,c⟩;exact⟨x,Mw.2 ⟨a,by simpa using b⟩,c⟩
theorem gz{g:Ac}{n:Nat}:∀{S:Ig},(S.map (·.1)).Nodup->((mK g n S).map (·.1)).Nodup
 |[],_=>by simp[mK]
 |x::S,h=>by
  rw[Dh,Js]at h;have a:=gz (g:=g) (n:=n) h.2;unfold mK at a⊢;rw[List.filter_cons];split
  ·rw[Dh,Dh,Js];refine⟨fun e=>?_,a⟩;obtain⟨y,i,b⟩:=BP.1 e;obtain⟨z,c,f⟩:=BP.1 i;subst f;obtain⟨⟨r,d⟩,m⟩:=x;obtain⟨⟨j,k⟩,l⟩:=z;simp only[JL,Nat.add_right_cancel_iff]at b;obtain⟨rfl,rfl⟩:=b;exact h.1 (BP.2 ⟨_,(Mw.1 c).1,rfl⟩)
  ·exact a
theorem xP{g:Ac}{n:Nat}{S:Ig}(V:Valid g S):Valid g (mK g n S):=by
 refine⟨gz V.nodup,fun y a=>?_,fun y a=>?_,fun y a=>?_⟩
 ·obtain⟨x,b,c,rfl⟩:=cB.1 a;obtain⟨d,e,h⟩:=V.place x b;obtain⟨f,_⟩:=GJ.1 c;have:(g.DR x.1.1).length=(g.Dk x.1.1).length:=by simp[Ac.DR]
  exact⟨d,e,by show x.1.2+1<=(g.Dk x.1.1).length;omega⟩
 ·obtain⟨x,b,c,rfl⟩:=cB.1 a;exact V.pos x b
 ·obtain⟨x,b,c,rfl⟩:=cB.1 a;exact V.bits x b
theorem AAZ{g:Ac}{n i:Nat}{S:Ig}(a:i<S.length):mK g n (S.take (i+1))=mK g n (S.take i)++if (g.DR S[i].1.1)[S[i].1.2]? =some n then [((S[i].1.1,S[i].1.2+1),S[i].2)] else []:=by rw[Gy a];unfold mK;rw[List.filter_append,Hf];congr 1;by_cases h:(g.DR S[i].1.1)[S[i].1.2]? =some n<;>simp[h]
theorem xQ{g:Ac}{n i:Nat}{S:Ig}(o:(S.map (·.1)).Nodup)(m:i<S.length):(S[i].1.1,S[i].1.2+1)∉(mK g n (S.take i)).map (·.1):=by
 intro d;obtain⟨y,h,c⟩:=BP.1 d;obtain⟨x,l,_,rfl⟩:=cB.1 h;simp only[JL,Nat.add_right_cancel_iff]at c;obtain⟨j,f,e⟩:=Du l;rw[Gv]at f;have k:S[j]'(by omega)=x:=by rw[←e];simp
 have:=key_inj o (a:=j) (b:=i) (by omega) m (by rw[k];exact Prod.ext c.1 c.2);omega
def Hr(S:Ig):AV:=.list false 2 (S.map fun x=>FR x.1)
def Hd(S:Ig):AV:=.list false 1 (S.map fun x=>JQ x.2)
def AB0(g:Ac)(K S:Ig):Prop:=VW g S/\S≠[]/\∀x,JO g (CR S) x↔vN g (JO g (CR K)) x
def Og:Option Ig->AV
 |none=>.tuple [.agg [.AO,.AO,.AO],.bool false]
 |some T=>.tuple [Po T,.bool true]
theorem Vk(c:Nat):∀S:Ig,AV.Dq c (S.map fun x=>FR x.1)=true
 |[]=>rfl
 |x::S=>by show (AV.CY c (FR x.1)&&AV.Dq c (S.map fun x=>FR x.1))=true;rw[Vk c S];rfl
theorem YX(c:Nat):∀S:Ig,AV.Dq c (S.map fun x=>JQ x.2)=true
 |[]=>rfl
 |x::S=>by show (AV.CY c (JQ x.2)&&AV.Dq c (S.map fun x=>JQ x.2))=true;rw[YX c S];rfl
theorem sK(c:Nat)(S:Ig):(Po S).CY c=true:=by simp[Po,AV.CY,AV.Dq,Vk,YX]
theorem nL{κ β:Type}{a:κ->AV}{ev:β->AV}{M:List (κ×β)}{h:Aa}{m c lo:Nat}(H:AA h m=some (Gj a ev M)):BZ .map (.Cq m) ⟨h,c,lo⟩=some (.int .i64 (M.length:Int),⟨h,c,lo⟩):=by simp only[Gj]at H;simp[BZ,Vu,H]
def Sc(c:Nat)(h:Aa)(av:AV)(g:Ac)(F:List Nat)(N:List Bool)(ov ss:AV):Prop:=∀h2:Aa,(∀p,p<c->AA h2 p=AA h p)->kr h2 av g F N ov ss
theorem Sc.more{c c':Nat}{h a:Aa}{f d b:AV}{g:Ac}{F:List Nat}{N:List Bool}(H:Sc c h f g F N d b)(l:c<=c')(e:∀p,p<c->AA a p=AA h p):Sc c' a f g F N d b:=
 fun j k=>H j fun p i=>(k p (by omega)).trans (e p i)
theorem gH{h:Aa}(S:Ig):RS h 2 Bh (Hr S) (S.map (·.1)):=RS.sl (el:=FR) ⟨.inr ⟨false,by simp[Hr,Lm]⟩⟩ fun x=>rfl
theorem kJ{h:Aa}(S:Ig):RS h 1 Kl (Hd S) (S.map (·.2)):=RS.sl (el:=JQ) ⟨.inr ⟨false,by simp[Hd,Lm]⟩⟩ fun x=>rfl
theorem AFQ{h:Aa}{S:Ig}{i:Nat}(c:i<S.length):∃q,(∀b d,AY 2 (Hr S) (.int .i64 (i:Int)) ⟨h,b,d⟩=some (q,⟨h,b,d⟩))/\Ak h q 2=some [.int .i64 S[i].1.1,.int .i64 (S[i].1.2:Int)]:=by
 obtain⟨q,f,a⟩:=(gH (h:=h) S).at_ i (by simpa using c);have e:(S.map (·.1))[i]'(by simpa using c)=S[i].1:=by simp
 rw[e]at a;exact⟨q,fun _ _=>f _ rfl,a.all⟩
theorem ABw{h:Aa}{S:Ig}{i:Nat}(c:i<S.length):∃q,(∀b d,AY 1 (Hd S) (.int .i64 (i:Int)) ⟨h,b,d⟩=some (q,⟨h,b,d⟩))/\AQ h q=some (.int .u64 (S[i].2:Int)):=by
 obtain⟨q,f,a⟩:=(kJ (h:=h) S).at_ i (by simpa using c);have e:(S.map (·.2))[i]'(by simpa using c)=S[i].2:=by simp
 rw[e]at a;have:=a.zero (by simp[Kl]);exact⟨q,fun _ _=>f _ rfl,this⟩
theorem ACY(S:Ig)(a:St):BZ .slice (Hr S) a=some (.int .i64 (S.length:Int),a):=by have:=(gH (h:=a.h) S).BZ a;simpa using this
theorem yE(S:Ig)(a:St):BZ .slice (Hd S) a=some (.int .i64 (S.length:Int),a):=by have:=(kJ (h:=a.h) S).BZ a;simpa using this
structure MF (c:Nat)(h0:Aa)(sv:List AV)(K:Ig)(st:St):Prop where
 lo:st.lo=c
 c3:c+3<=st.c
 tp:CL st.h<=st.c
 CY:∀p,p<c->AA st.h p=AA h0 p
 box:AA st.h c=some (.cells 137 3 sv false)
 res:AA st.h (c+1)=some (.cells 137 3 [.AO,.AO,.AO] false)
 map:AA st.h (c+2)=some (Gj FR JQ K)
theorem MF.grow{c b a:Nat}{g h d:Aa}{f:List AV}{K:Ig}(H:MF c g f K ⟨h,b,c⟩)(l:b<=a)(j:CL d<=a)(e:∀p,p<b->AA d p=AA h p):MF c g f K ⟨d,a,c⟩:=by have k:c+3<=b:=H.c3;exact⟨rfl,by show c+3<=a;omega,j,fun p i=>(e p (by omega)).trans (H.CY p i),(e c (by omega)).trans H.box,(e (c+1) (by omega)).trans H.res,(e (c+2) (by omega)).trans H.map⟩
theorem MF.put{c d:Nat}{b h:Aa}{a:List AV}{K:Ig}(H:MF c b a K ⟨h,d,c⟩)(e:Ig):MF c b a e ⟨Ah h (c+2) (Gj FR JQ e),d,c⟩:=by have g:AA h (c+2)=some (Gj FR JQ K):=H.map;exact⟨rfl,H.c3,by show CL (Ah _ _ _)<=_;rw[Cg];exact H.tp,fun p f=>(Bn (by omega)).trans (H.CY p f),(Bn (by omega)).trans H.box,(Bn (by omega)).trans H.res,by show AA (Ah _ _ _) _=_;rw[Fy rfl,g];rfl⟩
theorem mq{k c n:Nat}{h0:Aa}{g:Ac}{F:List Nat}{N:List Bool}{av ov ss to:AV}{S:Ig}(H:kT g F N)(HA:Sc c h0 av g F N ov ss)(V:Valid g S){st:St}(M0:MF c h0 [Hr S,Hd S,to] [] st)(u:TS)(D:u.get 0=av)(T:u.get 2=.int .i64 (n:Int))(R:u.get 4=.AL c 0)(P:u.get 6=.AL (c+1) 0)(O:u.get 8=.Cq (c+2))(t:u.get 14=Hr S)(o:u.get 15=.int .i64 (S.length:Int))(l:u.get 16=.int .i64 0) :
 (Dm (Bc E (Ab E (k+2)) C.f155L0) E.k u st).to fun x=>x.1=.exit 0/\x.2.1.get 0=av/\x.2.1.get 6=.AL (c+1) 0/\x.2.1.get 8=.Cq (c+2)/\MF c h0 [Hr S,Hd S,to] (mK g n S) x.2.2:=by
 have hs:=H.Nf.small;have b6:=V.len hs;refine Cy (fun (i:Nat) u st=>i<=S.length/\Has u [(0,av),(2,.int .i64 (n:Int)),(4,.AL c 0),(6,.AL (c+1) 0),(8,.Cq (c+2)),(14,Hr S),(15,.int .i64 (S.length:Int)),(16,.int .i64 (i:Int))]/\MF c h0 [Hr S,Hd S,to] (mK g n (S.take i)) st)
  (fun i=>S.length-i) ?_ _ 0 _ _ ?_ ?_
 ·clear D T R P O t o l M0;rintro i u ⟨h,s,lo⟩ ⟨hi,a0,Q⟩;simp only[Be,CG,BX]at a0;obtain⟨D,T,R,P,O,t,o,l⟩:=a0;have a6:lo=c:=Q.lo;subst a6;have h3:lo+3<=s:=Q.c3;have tp:CL h<=s:=Q.tp;by_cases Bi:i<S.length
  ·obtain⟨q,ix,rd⟩:=AFQ (h:=h) Bi;obtain⟨r,d,m,B⟩:∃r d m,S[i]=((r,d),m):=⟨_,_,_,rfl⟩;have hp:=V.place _ (BH Bi);have a1:m<2^64:=by refine Xl (n:=g.Ae.length) (by have:=hs.Ae;omega) fun j hj=>?_;have:=V.bits _ (BH Bi) j;rw[B]at this;exact this hj
   have f:=AAZ (g:=g) (n:=n) Bi;have y:=xQ (g:=g) (n:=n) V.nodup Bi;rw[B]at rd hp f y;simp only at rd hp f y;obtain⟨a5,W,hd⟩:=hp;obtain⟨h1,w,n1,s1,f2,t2,a9⟩:=Ih (c':=s+1) (ty:=212) (sz:=2) (n:=2) (v:=.agg [.int .i64 r,.int .i64 (d:Int)]) (cs:=[.int .i64 r,.int .i64 (d:Int)]) (zero:=[.int .i64 0,.int .i64 0]) tp (lo:=lo) (by omega) rfl rfl rfl rfl;have M2:MF lo h0 [Hr S,Hd S,to] (mK g n (S.take i)) ⟨w,s+1,lo⟩:=Q.grow (by omega) t2 fun p hp=>a9 p (by omega);have A:=HA w M2.CY;obtain⟨lw,eR,hR⟩:=UG (k:=k+1) (c:=s+1) (lo:=lo) A a5 W;have L:AQ w (.AL s 0)=some (.int .i64 r):=by rw[BB,f2];rfl
   have I:AQ w (.AL s 1)=some (.int .i64 (d:Int)):=by rw[BB,f2];rfl
   have b7:(g.DR r).length=(g.Dk r).length:=by simp[Ac.DR]
   have b8:=Ua hs r W;have K:∀S:St,BZ .slice lw S=some (.int .i64 ((g.DR r).length:Int),S):=fun S=>hR.rs.BZ S;have wd:IntKind.i64.wrap ((d:Int)+1)=(d:Int)+1:=wi d;by_cases hdl:d<(g.DR r).length
   ·obtain⟨q2,a2,b2⟩:=hR.rs.rd hdl;have Y:∀z,AY 1 lw (.int .i64 (d:Int)) ⟨w,z,lo⟩=some (q2,⟨w,z,lo⟩):=fun z=>a2 _ rfl;have b3:decide ((d:Int)<((g.DR r).length:Int))=true:=Bw (by omega);by_cases hx:(g.DR r)[d]=n
    ·have hb:((((g.DR r)[d]:Nat):Int)==(n:Int))=true:=by rw[hx];simp
     rw[AX (by rw[Bu hdl,hx])]at f;have U:CR (mK g n (S.take i)) (r,d+1)=0:=KR y;obtain⟨b,h5,e1,e2,e3⟩:=iQ (c:=s+1) (lo:=lo) (ev:=JQ) NM M2.map (by omega) (r,d+1) 0;have Z:=e3 m;have a7:Iw (mK g n (S.take i)) (r,d+1) m=mK g n (S.take (i+1)):=by rw[f,QD y]
     have M3:=M2.put (Iw (mK g n (S.take i)) (r,d+1) m);obtain⟨h6,a8⟩:∃h6,h6=Ah w (lo+2) (Gj FR JQ (Iw (mK g n (S.take i)) (r,d+1) m)):=⟨_,rfl⟩;rw[←a8]at M3 Z;rw[a7]at M3;have lk:∀z,FT (.many [.int,.int]) (.int .u64 0) false (.Cq (lo+2)) (.agg [.int .i64 r,.int .i64 ((d:Int)+1)]) ⟨w,z,lo⟩=some (.int .u64 0,⟨w,z,lo⟩):=fun z=>by have:=Sq (c:=z) (lo:=lo) (zero:=.int .u64 0) NM M2.map (r,d+1);rw[Ui,U]at this;exact this
     have b0:JQ ((IE (mK g n (S.take i)) (r,d+1)).getD 0)=.int .u64 0:=by rw[xU,U];rfl
     rw[b0]at e1 e2;have b5:Ir (.many [.int,.int]) (.int .u64 0) (.Cq (lo+2)) (.agg [.int .i64 r,.int .i64 ((d:Int)+1)]) ⟨w,s+1,lo⟩=some (.tuple [.int .u64 0,.int .i64 (b:Int)],⟨h5,s+1,lo⟩):=e1;have a4:FT (.many [.int,.int]) (.int .u64 0) false (.Cq (lo+2)) (.agg [.int .i64 r,.int .i64 ((d:Int)+1)]) ⟨h5,s+1,lo⟩=some (.int .u64 0,⟨h5,s+1,lo⟩):=e2;have a3:Ha (.Cq (lo+2)) (.int .i64 (b:Int)) (.int .u64 (m:Int)) ⟨h5,s+1,lo⟩=some (.undef,⟨h6,s+1,lo⟩):=Z;have b1:bin .or (.int .u64 0) (.int .u64 (m:Int))=some (.int .u64 (m:Int)):=by have:=Qs (a:=0) (b:=m) (by omega) a1;simpa using this
     have rb:AQ w (.AL lo 1)=some (Hd S):=by rw[BB,M2.box];rfl
     obtain⟨q3,b4,J⟩:=ABw (h:=w) Bi;rw[B]at J;simp only at J;simp[C.f155L0,D,T,R,P,O,t,o,l,Bi,ix,rd,n1,s1,L,I,eR,K,hdl,Cm,Y,b2,hb,wd,lk,rb,b4,J,b1,b5,a4,a3,Dp,DX,Dl,Cc,Tj,Rm,Ws,beq_eq,wi i];exact⟨i+1,by omega,by omega,by simp,M3⟩
    ·have hb:((((g.DR r)[d]:Nat):Int)==(n:Int))=false:=by rw[Gm];intro e;exact hx (by omega)
     rw[AJ (by rw[Bu hdl];simp[hx]),Fh]at f;rw[←f]at M2;simp[C.f155L0,D,T,R,P,O,t,o,l,Bi,ix,rd,n1,s1,L,I,eR,K,hdl,Cm,Y,b2,hb,wi i];exact⟨i+1,by omega,by omega,by simp,M2⟩
   ·have b3:decide ((d:Int)<((g.DR r).length:Int))=false:=FP (by omega);rw[AJ (by rw[List.getElem?_eq_none (by omega)];simp),Fh]at f;rw[←f]at M2;simp[C.f155L0,D,T,R,P,O,t,o,l,Bi,ix,rd,n1,s1,L,I,eR,K,hdl,Da,wi i];exact⟨i+1,by omega,by omega,by simp,M2⟩
  ·have:i=S.length:=by omega
   subst this;rw[FQ]at Q;simp[C.f155L0,D,P,O,o,l];exact Q
 ·exact FX (by show S.length-0<1000000;omega)
 ·exact⟨by omega,by simp[D,T,R,P,O,t,o,l],by simpa [mK]using M0⟩
theorem tF{k c lo:Nat}{h:Aa}{g:Ac}{F:List Nat}{N:List Bool}{u ov Q to:AV}{S:Ig}(n:Nat)(H:kT g F N)(R:CL h<=c)(K:Sc c h u g F N ov Q)(V:Valid g S)(W:to.isTuple=false/\to.cells=[to]) :
 ∃r:Option Ig,(match r with|none=>mK g n S=[]|some T=>mK g n S≠[]/\AB0 g (mK g n S) T)/\Ab E (k+4) 155 [u,.agg [Hr S,Hd S,to],.int .i64 (n:Int)] ⟨h,c,lo⟩=.ret (Og r,⟨h,c,lo⟩):=by
 rw[FD (fn:=C.f155) rfl rfl rfl,Ap (by simp)];obtain⟨m,i⟩:∃m:Aa,m=(c,BJ.cells 137 3 [Hr S,Hd S,to] false)::h:=⟨_,rfl⟩;have n1:BA c (.cells 137 3 [Hr S,Hd S,to] false) ⟨h,c+2,c⟩=some ⟨m,c+2,c⟩:=by rw[i];exact BF R
 have t1:CL m<=c+1:=by rw[i,Ay];omega
 obtain⟨j,d⟩:∃j:Aa,j=(c+1,BJ.cells 137 3 [.AO,.AO,.AO] false)::m:=⟨_,rfl⟩;have Y:BA (c+1) (.cells 137 3 [.AO,.AO,.AO] false) ⟨m,c+2,c⟩=some ⟨j,c+2,c⟩:=by rw[d];exact BF t1
 have P:CL j<=c+2:=by rw[d,Ay];omega
 obtain⟨q,a⟩:∃q:Aa,q=(c+2,BJ.map [] [] [] 0)::j:=⟨_,rfl⟩;have U:BA (c+2) (.map [] [] [] 0) ⟨j,c+3,c⟩=some ⟨q,c+3,c⟩:=by rw[a];exact BF P
 have J:AA q c=some (.cells 137 3 [Hr S,Hd S,to] false):=by rw[a,Ar (by omega),d,Ar (by omega),i,BV rfl]
 have M0:MF c h [Hr S,Hd S,to] [] ⟨q,c+3,c⟩:=by
  refine⟨rfl,Ao _,by show CL q<=c+3;rw[a,Ay];omega,fun p L=>?_,J,?_,?_⟩
  ·rw[a,Ar (by omega),d,Ar (by omega),i,Ar (by omega)]
  ·rw[a,Ar (by omega),d,BV rfl]
  ·rw[a,BV rfl];rfl
 have rb:AQ q (.AL c 0)=some (Hr S):=by rw[BB,J];rfl
 have goal:(((Bc E (Ab E (k+3)) C.f155.body (TS.FK [u,.agg [Hr S,Hd S,to],.int .i64 (n:Int)] 0 .nil) ⟨h,c,c⟩).bind (Al C.f155.results)).bind (BU c ⟨h,c,lo⟩)).to fun x=>∃r:Option Ig,(match r with|none=>mK g n S=[]|some T=>mK g n S≠[]/\AB0 g (mK g n S) T)/\x=(Og r,⟨h,c,lo⟩):=by
  simp[C.f155,n1,Y,U,rb,ACY];refine M.BG (mq (k:=k+1) (n:=n) H K V M0 _ (by simp) (by simp) (by simp) (by simp) (by simp) (by simp) (by simp) (by simp)) fun x hx=>?_;obtain⟨e,a0,⟨l,f,a2⟩⟩:=x;obtain⟨rfl,O,B,A,b⟩:=hx;simp only at O B A b;have o:=b.lo.symm;simp only at o;subst o;have a1:c+3<=f:=b.c3;have I:=nL (c:=f) (lo:=c) b.map;by_cases hK:mK g n S=[]
  ·have s:BM 3 (.AL (c+1) 0) (.agg [.AO,.AO,.AO]) ⟨l,f,c⟩=some (.undef,⟨Ah l (c+1) (.cells 137 3 [.AO,.AO,.AO] false),f,c⟩):=by rw[CE,b.res,CW];simp[AV.isTuple,AV.cells,Bl]
   have y:Ak (Ah l (c+1) (.cells 137 3 [.AO,.AO,.AO] false)) (.AL (c+1) 0) 3=some [.AO,.AO,.AO]:=by rw[Bv,Fy rfl,b.res];rfl
   have v:Bp [AV.AO,.AO,.AO] [] []=some [.AO,.AO,.AO]:=rfl;rw[hK]at I;have z:∀t:Aa,Ce c t Ck (.tuple [.agg [.AO,.AO,.AO],.bool false])=some (.tuple [.agg [.AO,.AO,.AO],.bool false]):=fun t=>FH rfl;simp[B,A,I,v,s,Al,results,Af,y,BU,z];exact⟨none,hK,rfl⟩
  ·have w:((((mK g n S).length:Nat):Int)==0)=false:=by rw[Gm];intro e;exact hK (Gn (by omega))
   obtain⟨T,Z,eC⟩:=ZM (k:=k) (lo:=c) H b.tp (by show c+2<f;omega) (fun j e2=>K j fun p L=>(e2 p (by show p<f;omega)).trans (b.CY p L)) (xP V) hK b.map;have s:BM 3 (.AL (c+1) 0) (Po T) ⟨l,f,c⟩=some (.undef,⟨Ah l (c+1) (.cells 137 3 [Hr T,Hd T,.AO] false),f,c⟩):=by rw[CE,b.res,CW];simp[AV.isTuple,AV.cells,Bl,Po,Hr,Hd]
   have y:Ak (Ah l (c+1) (.cells 137 3 [Hr T,Hd T,.AO] false)) (.AL (c+1) 0) 3=some [Hr T,Hd T,.AO]:=by rw[Bv,Fy rfl,b.res];rfl
   have z:∀t:Aa,Ce c t Ck (.tuple [.agg [Hr T,Hd T,.AO],.bool true])=some (.tuple [.agg [Hr T,Hd T,.AO],.bool true]):=fun t=>FH (by
    have:=sK c T
    simp only[Po]at this
    simp[AV.CY,AV.Dq,Hr,Hd]at this⊢
    exact this)
   have D:Ab E (k+3) 152 [u,.Cq (c+2)] ⟨l,f,c⟩=.ret (Po T,⟨l,f,c⟩):=eC;simp[O,B,A,I,w,D,s,Al,results,Af,y,BU,z];exact⟨some T,⟨hK,Z⟩,rfl⟩
 obtain⟨x,e,r,m,rfl⟩:=goal;exact⟨r,m,e⟩
end Go.Am
