/- A part of tablesStay. -/
import Derived.Test.YthnghmpbgomacaaGreatDoorQ4
set_option maxHeartbeats 4000000
namespace Go.Am
 attribute [local irreducible] bigK
open Go
theorem iZ{k id m q c d:Nat}{ext:Bool}{rest:List AV}{h:Aa}{cap:Option Nat}{r:AV}{g:Ac}(z:q≠id)(F:AA h q=some (.cells 76 1 [r] false))(u:Gu r g)(p:d<=id)(T:m<=12){L:List Nat}(v:IL id ext rest m g.AB.length h c d L ⟨h,c,d⟩) :
 (Ab E (k+4) 194 [.AU id 0 m cap,.int .i64 0,.int .i64 (m:Int),.fn (.func 97) [] [.AL q 0]] ⟨h,c,d⟩).to fun x=>x.1=.tuple []/\∃b,IL id ext rest m g.AB.length h c d b x.2:=by
 rw[Av (fn:=C.f194) rfl rfl rfl,Ap (by simp)];have t:IntKind.i64.wrap 1=1:=wrap64 (by omega) (by omega);simp[C.f194,t];refine M.BG (Df (fun (i:Nat) l f=>1<=i/\i<=m+1/\Has l [(0,.AU id 0 m cap),(1,.int .i64 0),(2,.int .i64 (m:Int)),(3,.fn (.func 97) [] [.AL q 0]),(8,.int .i64 (i:Int))]/\∃b,IL id ext rest m g.AB.length h c d b f)
  (fun i=>m+1-i) (fun e l f=>e=.exit 0/\∃b,IL id ext rest m g.AB.length h c d b f) ?_ _ 1 _ _ ?_ ?_) ?_
 ·rintro i l f ⟨S,R,j,b,H⟩;simp only[Be,CG,BX]at j;obtain⟨N,B,n,J,o⟩:=j;by_cases Bi:i<m
  ·simp[C.f194L0,n,o,Bi];refine M.BG (uF (k:=k) (cap:=cap) z F u p (by omega) H Bi _ (by simp[N]) (by simp[B]) (by simp[n]) (by simp[J]) (by simp[o]) (by simp)) fun x K=>?_;obtain⟨e,I,w⟩:=x;obtain⟨rfl,a,P,s⟩:=K;simp only at a s;simp only[Be,CG,BX]at a;obtain⟨O,y,Q,A,D⟩:=a;simp[D,wi i];exact⟨i+1,by omega,by omega,by omega,by simp[O,y,Q,A],P,s⟩
  ·simp[C.f194L0,n,o,Bi];exact⟨b,H⟩
 ·exact FX (by show m+1-1<1000000;omega)
 ·refine⟨Ao _,by omega,by simp,L,v⟩
 ·rintro⟨e,l,f⟩ ⟨rfl,b,H⟩;simp only at H;simp[Al,results,Af];exact⟨b,H⟩
theorem bO{k id m q c b:Nat}{ext:Bool}{rest:List AV}{h:Aa}{cap:Option Nat}{t:AV}{g:Ac}(B:q≠id)(J:AA h q=some (.cells 76 1 [t] false))(y:Gu t g)(s:b<=id)(w:m<=12){L:List Nat}(z:IL id ext rest m g.AB.length h c b L ⟨h,c,b⟩) :
 (Ab E (k+6) 96 [.AU id 0 m cap,.fn (.func 97) [] [.AL q 0]] ⟨h,c,b⟩).to fun x=>x.1=.tuple []/\∃a,IL id ext rest m g.AB.length h c b a x.2:=by
 have n:∀u:St,BZ .slice (.AU id 0 m cap) u=some (.int .i64 (m:Int),u):=fun _=>rfl;obtain⟨v,O⟩:=xX (k:=k+3) w ⟨h,c,b⟩;have I:IntKind.u64.wrap (m:Int)=(m:Int):=OV (by omega);have p:(Ab E (k+5) 150 [.AU id 0 m cap,.int .i64 0,.int .i64 (m:Int),v,.fn (.func 97) [] [.AL q 0]] ⟨h,c,b⟩).to fun x=>x.1=.tuple []/\∃a,IL id ext rest m g.AB.length h c b a x.2:=by
  rw[Av (fn:=C.f150) rfl rfl rfl,Ap (by simp)];have o:(m:Int)<=12:=by omega
  have K:IntKind.i64.wrap (m:Int)=(m:Int):=wrap64 (by omega) (by omega);simp[C.f150];refine M.BG (Df (fun (_:Nat) j d=>d=⟨h,c,b⟩/\j.get 0=.AU id 0 m cap/\j.get 1=.int .i64 0/\j.get 2=.int .i64 (m:Int)/\j.get 4=.fn (.func 97) [] [.AL q 0]) (fun _=>0) (fun e j d=>e=.ret/\∃a,IL id ext rest m g.AB.length h c b a d) ?_ _ 0 _ _ ?_ ?_) ?_
  ·rintro _ j d ⟨rfl,N,F,A,D⟩;simp[C.f150L0,N,F,A,D,o,K];refine M.BG (iZ (k:=k) (cap:=cap) B J y s w z) fun x r=>?_;obtain⟨H,l⟩:=x;obtain⟨i,a,f⟩:=r;simp only at i f;simp;exact⟨a,f⟩
  ·exact FX (by show 0<1000000;omega)
  ·simp
  ·rintro⟨e,j,l⟩ ⟨i,a,f⟩;simp only at i f;subst i;simp[Al,results,Af];exact⟨a,f⟩
 rw[Av (fn:=C.f96) rfl rfl rfl,Ap (by simp)];simp[C.f96,n,I,O];refine M.BG p fun x r=>?_;obtain⟨H,l⟩:=x;obtain⟨i,a,f⟩:=r;simp only at i f;subst i;simp[Al,results,Af];exact⟨a,f⟩
structure OF (a b0:Nat)(h0:Aa)(cv nv fv sv w:AV)(O:List Nat)(st:St):Prop where
 lo:st.lo<=a
 bc:b0<=st.c
 ab:a<b0
 tp:CL st.h<=st.c
 CY:∀p,p<b0->p≠a->AA st.h p=AA h0 p
 auto:AA st.h a=some (.cells 81 6 [cv,nv,fv,sv,w,.AO] false)
 ord:Gq st.h 3 1 Fx w O
 own:∀p,Az w=some p->b0<=p
theorem OF.push{a g c1 lo:Nat}{z h:Aa}{n l m r w:AV}{O:List Nat}(H:OF a g z n l m r w O ⟨h,c1,lo⟩)(s:Nat)(I:O.length<2^20) :
 BC c1 3 1 1 [.int .i64 0] [0] [.int .i64 (s:Int)]=some (.AU c1 0 1 (some 1),.cells 3 1 (Fx s) false)/\∃o c d y,BA c1 (.cells 3 1 (Fx s) false) ⟨h,c1+2,lo⟩=some ⟨o,c1+2,lo⟩/\Bq (c1+1) 3 1 8 w (.AU c1 0 1 (some 1)) ⟨o,c1+2,lo⟩=some (c,⟨d,c1+2,lo⟩) /\
  BM 1 (.AL a 4) c ⟨d,c1+2,lo⟩=some (.undef,⟨y,c1+2,lo⟩)/\OF a g z n l m r c (O++[s]) ⟨y,c1+2,lo⟩:=by
 have t:=H.ab;have D:g<=c1:=H.bc;have j:lo<=a:=H.lo;have N:CL h<=c1:=H.tp;obtain⟨L,o,c,d,F,B,G,J,A,P,Q⟩:=JE (c':=c1+2) (bytes:=8) (zero:=[.int .i64 0]) (v:=.int .i64 (s:Int)) (x:=s) (enc:=Fx) (sz:=1) (fun _=>rfl) (by omega) H.ord N (lo:=lo) (fun p K=>by have:=H.own p K;omega) rfl rfl rfl I (by omega);have fa:AA d a=some (.cells 81 6 [n,l,m,r,w,.AO] false):=(A a (by omega) fun e=>by have:=H.own a e;omega).trans H.auto;have i:=G.one;have u:BM 1 (.AL a 4) c ⟨d,c1+2,lo⟩=some (.undef,⟨Ah d a (.cells 81 6 [n,l,m,r,c,.AO] false),c1+2,lo⟩):=by rw[CE,fa,CW];simp[i,j,Bl]
 have b:∀q,Az c=some q->g<=q:=fun q k=>by
  rcases P q k with e|e
  ·omega
  ·exact H.own q e
 refine⟨L,o,c,d,_,F,B,u,j,by show g<=c1+2;omega,t,by show CL (Ah _ _ _)<=_;rw[Cg];exact J,fun q k f=>(Bn (Aj f)).trans ((A q (by omega) fun e=>by have:=H.own q e;omega).trans (H.CY q k f)),by show AA (Ah _ _ _) _=_;rw[Fy rfl,fa];rfl,G.heap fun q k=>Bn fun e=>by have:=b q k;omega,b⟩
theorem mX{F a r n c o:Nat}{p h:Aa}{q s u t v1 v6:AV}(S:n<=1000)(v:OF a r p q s u t .AO [] ⟨h,c,o⟩)(e:TS)(m:e.get 1=e.get 1)(y:e.get 1=v1)(j:e.get 6=v6)(g:e.get 7=.AL a 0)(b:e.get 34=.int .i64 (n:Int))(d:e.get 35=.int .i64 0) :
 (Dm (Bc E (Ab E F) C.f52L0) E.k e ⟨h,c,o⟩).to fun x=>x.1=.exit 0/\x.2.1.get 1=v1/\x.2.1.get 6=v6/\x.2.1.get 7=.AL a 0/\x.2.2.lo=o/\∃w,OF a r p q s u t w (List.range n) x.2.2:=by
 refine Cy (fun (i:Nat) e z=>i<=n/\Has e [(1,v1),(6,v6),(7,.AL a 0),(34,.int .i64 (n:Int)),(35,.int .i64 (i:Int))]/\z.lo=o/\∃w,OF a r p q s u t w (List.range i) z)
  (fun i=>n-i) ?_ _ 0 _ _ ?_ ?_
 ·clear m y j g b d v;rintro i e ⟨h,c,N⟩ ⟨R,l,f,w,H⟩;simp only at f;subst f;simp only[Be,CG,BX]at l;obtain⟨m,j,g,b,d⟩:=l;by_cases Bi:i<n
  ·have K:AQ h (.AL a 4)=some w:=by rw[BB,H.auto];rfl
   obtain⟨L,P,I,O,Q,J,B,D,A⟩:=H.push i (by simp;omega);rw[←Lh]at A;simp[C.f52L0,m,j,g,b,d,Bi,K,L,J,B,D,wi i];exact⟨i+1,by omega,by omega,by simp,I,A⟩
  ·have:i=n:=by omega
   subst this;simp[C.f52L0,m,j,g,b,d];exact⟨w,H⟩
 ·exact FX (by show n-0<1000000;omega)
 ·exact⟨by omega,by simp[y,j,g,b,d],rfl,.AO,v⟩
structure zR (g:Ac)(a b0 mb:Nat)(h0:Aa)(D:AH)(X:List Row)(many:Nat)(Y:List JM)(h:Aa):Prop where
 len:Y.length=many
 pos:0<many
 xC:many<=2000
 bd:a<b0/\b0<=mb
 auto:AA h a=some (.cells 81 6 (D.cells (.AU mb 0 many (some many))) false)
 CY:∀p,p<b0->p≠a->AA h p=AA h0 p
 Pv:AA h mb=some (.cells 137 3 (Y.flatMap fun y=>II g.AB.length (some y)) false)
 ys:∀y∈Y,bJ g.AB.length many mb h y/\∃j,∃hj:j<X.length,y.P=X[j].S.map (·.1)
theorem all_some:∀{Y:List (Option JM)},(∀v,v<Y.length->∃y,Y[v]? =some (some y))->∃a:List JM,Y=a.map some
 |[],_=>⟨[],rfl⟩
 |x::Y,h=>by
  obtain⟨y,b⟩:=h 0 (by simp);simp at b;obtain⟨a,e⟩:=all_some (Y:=Y) fun v c=>by obtain⟨z,d⟩:=h (v+1) (by simpa using c);exact⟨z,by simpa using d⟩
  exact⟨y::a,by rw[b,e];rfl⟩
theorem tJ{k a Q W c t:Nat}{h h0:Aa}{D:AH}{g:Ac}{F Or:List Nat}{N:List Bool}(E0:kg g F N a Q h0 D Or){P:AV}{X:List Row}{a1:List (Bz×Nat)}(n:Vb g a Q W h0 D P X a1 ⟨h,c,t⟩)(hX:X.length<=2000)(L:0<X.length) :
 (Ab E (k+6) 100 [.AL a 0] ⟨h,c,t⟩).to fun x=>x.1=.tuple []/\∃mb many Y,zR g a Q mb h0 D X many Y x.2.h:=by
 have hs:=E0.TK.Nf.small;have a0:=n.ab;have T:Q<=c:=n.bc;have Z:t<=a:=n.lo;have tp:CL h<=c:=n.tp;obtain⟨b,O,u,eG⟩:=nV (k:=k) hs n hX L;have a3:b.length<=2000:=by
  have o:=Rt (l:=List.range b.length) (m:=O) List.nodup_range fun v A=>by obtain⟨j,q,e⟩:=u.AFS (Gd.1 A);rw[←e];exact BH q
  rw[List.length_range,u.len]at o;omega
 have U:0<b.length:=by
  have q:0<O.length:=by rw[u.len];exact L
  have:=(u.lt q).1;omega
 have mk:Dy c 137 3 72 [.AO,.AO,.AO] (.int .i64 (b.length:Int)) (.int .i64 (b.length:Int))=some (.AU c 0 b.length (some b.length),.cells 137 3 ((List.replicate b.length (none:Option JM)).flatMap (II g.AB.length)) false):=by
  have f:b.length*72<=room/\b.length<=room:=by unfold room;omega
  simp[Dy,Bg,ble_eq,blt_eq,f.1,f.2,fw g.AB.length]
 obtain⟨o,d⟩:∃o:Aa,o=(c,BJ.cells 137 3 ((List.replicate b.length (none:Option JM)).flatMap (II g.AB.length)) false)::h:=⟨_,rfl⟩;have n1:BA c (.cells 137 3 ((List.replicate b.length (none:Option JM)).flatMap (II g.AB.length)) false) ⟨h,c+1,t⟩=some ⟨o,c+1,t⟩:=by rw[d];exact BF tp
 have G0:MG g.AB.length b.length c h (List.replicate b.length none) ⟨o,c+1,t⟩:=by
  refine⟨Ao _,by show CL o<=c+1;rw[d,Ay];omega,by show t<=c;omega,fun p S=>by show AA o p=_;rw[d,Ar (by omega)],by simp,by show AA o c=_;rw[d,BV rfl],fun v y i=>?_,fun v w y z i=>?_⟩
  ·rw[NW]at i;split at i<;>cases i
  ·rw[NW]at i;split at i<;>cases i
 have r5:AQ o (.AL a 5)=some P:=by rw[BB,d,Ar (by omega),n.auto];rfl
 have sl:∀R:St,BZ .slice P R=some (.int .i64 (X.length:Int),R):=fun R=>n.Xz.BZ R;rw[Av (fn:=C.f100) rfl rfl rfl,Ap (by simp)];simp[C.f100,eG,mk,n1,r5,sl];refine M.BG (xJ (k:=k+3) E0 n hX u G0 rfl _ (by simp) (by simp) (by simp) (by simp) (by simp) (by simp)) fun x hx=>?_;obtain⟨e,a5,⟨H,c2,J⟩⟩:=x;obtain⟨rfl,y0,y4,r,Y,s,Cv⟩:=hx;simp only at y0 y4 r s;subst r;have fa:AA H a=some (.cells 81 6 (D.cells P) false):=(s.CY a (by omega)).trans n.auto;have a2:BM 1 (.AL a 5) (.AU c 0 b.length (some b.length)) ⟨H,c2,J⟩=some (.undef,⟨Ah H a (.cells 81 6 (D.cells (.AU c 0 b.length (some b.length))) false),c2,J⟩):=by rw[CE,fa,CW];simp[AV.isTuple,AV.cells,Z,AH.cells,Bl]
 simp[y0,y4,a2,Al,results,Af];obtain⟨V,rfl⟩:=all_some (Y:=Y) fun v A=>by
  rw[s.len]at A;obtain⟨j,q,e⟩:=u.AFS A;obtain⟨y,i⟩:=Cv.cov j (by rw[←u.len];exact q);refine⟨y,?_⟩;have:O.getD j 0=v:=by rw[←e];simp[List.getD,q]
  rw[←this];exact i
 refine⟨c,b.length,V,by have:=s.len;simpa using this,U,a3,⟨a0,T⟩,by rw[Fy rfl,fa];rfl,fun p S B=>?_,?_,fun y i=>?_⟩
 ·rw[Bn (Aj B)];exact (s.CY p (by omega)).trans (n.CY p S B)
 ·rw[Bn (by omega)];have:AA H c=some (.cells 137 3 ((V.map some).flatMap (II g.AB.length)) false):=s.Pv;rw[this,Ll]
 ·obtain⟨v,A,e⟩:=Du i;have I:(V.map some)[v]? =some (some y):=by simp[A,e]
  have K:bJ g.AB.length b.length c H y:=s.ys v y I;obtain⟨j,q,_,hP⟩:=Cv.src v y I;have a4:=K.bd;exact⟨K.heap fun p S=>Bn (by rcases S with rfl|rfl|rfl<;>omega),j,q,hP⟩
structure VZ where
 P:List Place
 A:List Nat
 row:List Int
def zi(v:AV)(z:VZ):Prop:=∃tp ta tt,v=.agg [.list tp 2 (z.P.map FR),.list ta 1 (z.A.map JQ),.list tt 1 (DC z.row)]
theorem aI{f:AV->Option AV}:∀{a b e d:List AV},DD f a=some e->DD f b=some d->DD f (a++b)=some (e++d)
 |[],b,e,d,c,g=>by cases c;exact g
 |x::a,b,e,d,c,g=>by
  unfold DD at c;split at c
  ·rename_i v h;split at c
   ·rename_i l i;cases c;have:=aI i g;show (match f x with|some v=>_|none=>none)=_;rw[h];simp only;rw[show DD f (a.append b)=some (l++d) from this];rfl
   ·cases c
  ·cases c
theorem Ti{α:Type}{f:AV->Option AV}{e a:α->List AV}:∀{L:List α},(∀x∈L,DD f (e x)=some (a x))->DD f (L.flatMap e)=some (L.flatMap a)
 |[],_=>rfl
 |x::L,h=>by rw[Cn,Cn];exact aI (h x (by simp)) (Ti fun y b=>h y (by simp[b]))
theorem YM{α:Type}{e:α->List AV}(d:∀x,∃a b c,e x=[a,b,c]):∀L:List α,rows 3 L.length (L.flatMap e)=L.map fun x=>.agg (e x)
 |[]=>rfl
 |x::L=>by obtain⟨a,b,c,f⟩:=d x;have g:=YM d L;show (bif Nat.beq 3 1 then _ else AV.agg (((x::L).flatMap e).take 3))::rows 3 L.length (((x::L).flatMap e).drop 3)=_;rw[Cn,f,Dh,f];show AV.agg [a,b,c]::rows 3 L.length (L.flatMap e)=_;rw[g]
def tight(cap:Option Nat)(len:Nat):Bool:=match cap with
 |some c=>Nat.beq c len
 |none=>false
theorem OX{h:Aa}{d id len:Nat}{cap:Option Nat}{xs rest:List AV}{ext:Bool}(a:AA h id=some (.cells d 1 (xs++rest) ext))(c:xs.length=len)(b:AV.Dq 0 xs=true):∃t,∀n,Ce 0 h (n+2) (.AU id 0 len cap)=some (.list t 1 xs):=by
 subst c;refine⟨tight cap xs.length,fun n=>?_⟩;rw[Gh (CZ _) a (by omega) (by rw[Bd];omega) (cs':=xs) (by rw[FB,Fe,Je];exact Hu b),Jw]
 rfl
theorem vw{h:Aa}{id:Nat}{cap:Option Nat}{P:List Place}{ext:Bool}(b:AA h id=some (.cells 212 2 (P.flatMap Bh) ext)):∃t,∀n,Ce 0 h (n+2) (.AU id 0 P.length cap)=some (.list t 2 (P.map FR)):=by
 refine⟨tight cap P.length,fun n=>?_⟩;have a:(P.flatMap Bh).length=P.length*2:=Ib (sz:=2) (enc:=Bh) (fun _=>rfl) P;rw[Gh (CZ _) b (by omega) (by omega) (cs':=P.flatMap Bh) (by rw[FB,←a,FQ];exact Hu (bZ _ _)),bV]
 rfl
theorem Qn(c:Nat):∀r:List Int,AV.Dq c (DC r)=true
 |[]=>rfl
 |x::r=>by show (true&&AV.Dq c (DC r))=true;rw[Qn c r];rfl
theorem Wq{α:Type}{e:α->List AV}{z:α->VZ}{L:List α}{h:Aa}{id:Nat}{cap:Option Nat}{rest:List AV}{ext:Bool}(q:∀x,(e x).length=3)(p:AA h id=some (.cells 137 3 (L.flatMap e++rest) ext))(g:∀x∈L,∃v,zi (.agg v) (z x)/\v.length=3/\∀n,DD (Ce 0 h (n+2)) (e x)=some v):∃w j,(∀n,Ce 0 h (n+3) (.AU id 0 L.length cap)=some w)/\Co w 3 j/\j.length=L.length/\∀i (m:i<L.length),∃v,j[i]? =some v/\zi v (z L[i]):=by
 open Classical in
 let f:α->List AV:=fun x=>if d:x∈L then Classical.choose (g x d) else [.AO,.AO,.AO]
 have k:∀x (d:x∈L),zi (.agg (f x)) (z x)/\(f x).length=3/\∀n,DD (Ce 0 h (n+2)) (e x)=some (f x):=fun x d=>by have:f x=Classical.choose (g x d):=dif_pos d;rw[this];exact Classical.choose_spec (g x d)
 have o:∀x,∃a b c,f x=[a,b,c]:=fun x=>by
  by_cases d:x∈L
  ·have:=(k x d).2.1;match h3:f x,this with
   |[a,b,c],_=>exact⟨a,b,c,rfl⟩
  ·exact⟨.AO,.AO,.AO,dif_neg d⟩
 have l:(L.flatMap e).length=L.length*3:=Ib q L;refine⟨.list (tight cap L.length) 3 (L.map fun x=>.agg (f x)),L.map fun x=>.agg (f x),fun n=>?_,⟨.inr ⟨_,rfl⟩⟩,by simp,fun i m=>⟨.agg (f L[i]),by simp[m],(k _ (BH m)).1⟩⟩;rw[Gh (CZ _) p (by omega) (by rw[Bd];omega) (cs':=L.flatMap f) (by
  rw[FB,←l,Je]
  exact Ti fun x d=>(k x d).2.2 n),YM o]
 rfl
structure ZOk (g:Ac)(m:Nat)(z:VZ):Prop where
 al:z.A.length=z.P.length
 pl:z.P.length<=403
 place:∀p∈z.P,-1<=p.1/\p.1<g.AP.length/\p.2<=(g.Dk p.1).length
 rl:z.row.length=g.AB.length
 lQ:∀k∈z.row,-1<=k/\k<m
structure JN (v:AV)(g:Ac)(F:List Nat)(N:List Bool)(O:List Nat)(Z:List VZ):Prop where
 TK:kT g F N
 out:∃cv nv fv sv ov ss zs,v=.CB [cv,nv,fv,sv,ov,ss]/\Gu cv g/\Co nv 1 (Cj N)/\Co fv 1 (HV F)/\Co sv 1 (BI [g.ix g.Ai])/\Co ov 1 (BI O)/\Co ss 3 zs/\zs.length=Z.length/\∀i (hi:i<Z.length),∃x,zs[i]? =some x/\zi x Z[i]
 sub:∀s∈O,s<g.AB.length
 AAK:O.length=g.AB.length
 zok:∀z∈Z,ZOk g Z.length z
 pos:0<Z.length
 xC:Z.length<=2000
def Xn(x:Row):VZ:=⟨x.S.map (·.1),x.S.map (·.2),x.row⟩
theorem jD{g:Ac}{a o j c A:Nat}{h l:Aa}{D:AH}{b:AV}{X:List Row}{r:List (Bz×Nat)}(S:Vb g a o j l D b X r ⟨h,c,A⟩)(k:0<X.length) :
 ∃w f,(∀n,Ce 0 h (n+3) b=some w)/\Co w 3 f/\f.length=X.length/\∀i (F:i<X.length),∃v,f[i]? =some v/\zi v (Xn X[i]):=by
 have G:Gq h 137 3 (KP g.AB.length) b X:=S.Xz;cases G with
 |nl=>simp at k
 |ob id _ rest ext cap q B=>
  refine Wq (e:=KP g.AB.length) (z:=Xn) (fun _=>rfl) q fun x s=>?_;obtain⟨d,u,_⟩:=S.rows x s;have d:AA h x.id=some (.cells 3 1 (DC x.row) false):=d;obtain⟨t,m⟩:=OX (len:=g.AB.length) (cap:=some g.AB.length) (xs:=DC x.row) (rest:=[]) (by rw[Fh];exact d) (by rw[Ns];exact u) (Qn _ _);refine⟨[Hr x.S,Hd x.S,.list t 1 (DC x.row)],⟨false,false,t,?_⟩,rfl,fun n=>?_⟩
  ·simp[Hr,Hd,Xn,Lm]
  ·have y:Ce 0 h (n+2) (Hr x.S)=some (Hr x.S):=FH (by simp[Hr,AV.CY,Vk]);have p:Ce 0 h (n+2) (Hd x.S)=some (Hd x.S):=FH (by simp[Hd,AV.CY,YX]);simp only[KP,DD,y,p,m n]
theorem Zm{g:Ac}{a s l many:Nat}{h q:Aa}{D:AH}{X:List Row}{Y:List JM}(M:zR g a s l q D X many Y h) :
 ∃w c,(∀n,Ce 0 h (n+3) (.AU l 0 many (some many))=some w)/\Co w 3 c/\c.length=Y.length/\∀i (u:i<Y.length),∃v,c[i]? =some v/\zi v ⟨Y[i].P,Y[i].A,Y[i].row⟩:=by
 have o:=M.len;rw[←o];refine Wq (e:=fun y=>II g.AB.length (some y)) (z:=fun y=>⟨y.P,y.A,y.row⟩) (fun _=>rfl) (rest:=[]) (by rw[Fh];exact M.Pv) fun y p=>?_;obtain⟨K,_⟩:=M.ys y p;obtain⟨f,t⟩:=vw (cap:=none) K.pc;have b:y.A.flatMap Kl=y.A.map JQ:=by show y.A.flatMap (fun m=>[JQ m])=_;rw[MM]
 obtain⟨d,k⟩:=OX (len:=y.A.length) (cap:=none) (xs:=y.A.flatMap Kl) (rest:=[]) (by rw[Fh];exact K.ac) (by rw[Ib (sz:=1) (enc:=Kl) (fun _=>rfl)];omega) (mZ _ _);obtain⟨j,r⟩:=OX (len:=g.AB.length) (cap:=some g.AB.length) (xs:=DC y.row) (rest:=[]) (by rw[Fh];exact K.rc) (by rw[Ns];exact K.rl) (Qn _ _);rw[b]at k;exact⟨[.list f 2 (y.P.map FR),.list d 1 (y.A.map JQ),.list j 1 (DC y.row)],⟨f,d,j,rfl⟩,rfl,fun n=>by simp only[II,DD,t n,k n,r n]⟩
theorem uz{h:Aa}{a:Nat}{e f g l m j d c b:AV}(x:AA h a=some (.cells 81 6 [e,f,g,l,m,j] false))(t:e.CY 0=true)(r:f.CY 0=true)(y:g.CY 0=true)(s:∀n,Ce 0 h (n+2) l=some d)(u:∀n,Ce 0 h (n+2) m=some c)(z:∀n,Ce 0 h (n+3) j=some b) :
 Ce 0 h Ck (.tuple [.AL a 0,.bool true])=some (.tuple [.CB [e,f,g,d,c,b],.bool true]):=by
 have A:Ce 0 h 62 e=some e:=FH t;have v:Ce 0 h 62 f=some f:=FH r;have B:Ce 0 h 62 g=some g:=FH y;have o:=s 60;have i:=u 60;have k:=z 59;simp only[Nat.reduceAdd]at o i k;have p:Ce 0 h 63 (.AL a 0)=some (.CB [e,f,g,d,c,b]):=by
  show Ce 0 h (62+1) _=_;unfold Ce;have:(AV.AL a 0).CY 0=false:=by simp[AV.CY,blt_eq]
  rw[this,Bj];simp only[x,ble_eq,CZ,Ff,Ba,FB,DD,A,v,B,o,i,k]
 show Ce 0 h (63+1) _=_;unfold Ce;have q:AV.CY 0 (.tuple [.AL a 0,.bool true])=false:=by simp[AV.CY,AV.Dq,blt_eq]
 have w:Ce 0 h 63 (.bool true)=some (.bool true):=FH rfl;rw[q,Bj];simp only[DD,p,w]
theorem AFu{kind:Int}:(kind==2)=true∨(kind==2)=false:=by cases kind==2<;>simp
theorem gW{k:Nat}{gv:AV}{g:Ac}{st:St}(hg:GD gv g)(H:g.kZ)(kind:Int) :
 ∃r,Ab E (k+8) 52 [gv,.int .i64 kind] st=.ret (r,st)/\(r=.tuple [.DY,.bool false]∨∃v F N O Z,r=.tuple [v,.bool true]/\JN v g F N O Z):=by
 have hs:=H.small;have S:=H.ok;have d2:=hg.Ow 0;have c2:=Ue hs;have j1:0<g.AB.length:=by have:g.Ai∈g.AB:=Ca.2 (.inr S.Ai);exact List.length_pos_of_mem this
 obtain⟨kv,rv,l,rfl,hk,hr,i5⟩:=id hg;rw[GH (fn:=C.f52) rfl rfl rfl (by show (AV.CY 0 _&&(AV.CY 0 (.int .i64 kind)&&true))=true;rw[d2];rfl),Ap (by simp)];have eNew:∀st,∃a,Ab E (k+7) 61 [.agg [kv,.str g.Ai,rv]] st=.ret (a,st)/\Gu a g:=fun st=>AAP (k:=k) (st:=st) hg hs S;obtain⟨h0,b0⟩:∃h0:Aa,h0=[(0,BJ.cells 29 3 [kv,.str g.Ai,rv] false)]:=⟨_,rfl⟩;have n0:BA 0 (.cells 29 3 [kv,.str g.Ai,rv] false) ⟨[],1,0⟩=some ⟨h0,1,0⟩:=by rw[b0];exact BF (Ao _)
 have t0:CL h0<=1:=by rw[b0,Ay];exact⟨by omega,CZ _⟩
 have rg:Ak h0 (.AL 0 0) 3=some [kv,.str g.Ai,rv]:=by rw[Bv,b0,BV rfl];rfl
 obtain⟨a,eC,hC⟩:=eNew ⟨h0,2,0⟩;obtain⟨nm,c5,a9,i3,g0,a5,e6,_⟩:=id hC.out;have f0:∀st:St,DT a st=some (a,st):=fun st=>by rw[a5];rfl
 have e0:∀st:St,Cx 0 a st=some (.CB [nm,.int .i64 (g.Ae.length:Nat),.int .i64 (g.ix g.Ai:Nat),c5,a9,.CR (Bf g.AB) (BI (List.range g.AB.length))],st):=fun st=>by rw[a5];rfl
 have d9:∀st:St,Cx 2 a st=some (.CB [.int .i64 (g.ix g.Ai:Nat),c5,a9,.CR (Bf g.AB) (BI (List.range g.AB.length))],st):=fun st=>by rw[a5];rfl
 have b4:a.isTuple=false/\a.cells=[a]:=by rw[a5];exact⟨rfl,rfl⟩
 obtain⟨h1,h2,n1,s1,f1,t2,i8⟩:=Ih (c:=1) (c':=2) (lo:=0) (ty:=76) (sz:=1) (n:=1) (v:=a) (cs:=[a]) (zero:=[.DY]) t0 (CZ _) b4.1 b4.2 rfl rfl;have r1:AQ h2 (.AL 1 0)=some a:=by rw[BB,f1];rfl
 have bs:BC 2 3 1 1 [.int .i64 0] [0] [.int .i64 ((g.ix g.Ai:Nat):Int)]=some (.AU 2 0 1 (some 1),.cells 3 1 [.int .i64 ((g.ix g.Ai:Nat):Int)] false):=rfl;obtain⟨h3,J⟩:∃h3:Aa,h3=(2,BJ.cells 3 1 [.int .i64 ((g.ix g.Ai:Nat):Int)] false)::h2:=⟨_,rfl⟩;have n3:BA 2 (.cells 3 1 [.int .i64 ((g.ix g.Ai:Nat):Int)] false) ⟨h2,4,0⟩=some ⟨h3,4,0⟩:=by rw[J];exact BF t2
 have t3:CL h3<=3:=by rw[J,Ay];omega
 have d7:AQ h3 (.AL 1 0)=some a:=by rw[BB,J,Ar (by omega),f1];rfl
 obtain⟨b,N,e5,B,e4,d0⟩:=WN (k:=k) (st:=⟨h3,4,0⟩) hC hs S;obtain⟨u,F,eF,a3,f5,f4,f9⟩:=Zy (k:=k+3) (st:=⟨(3,BJ.cells 81 6 [a,b,.AO,.AU 2 0 1 (some 1),.AO,.AO] false)::h3,4,0⟩) hC hs S B e4 d0;have c4:b.isTuple=false/\b.cells=[b]:=by rcases B.out with⟨rfl,_⟩|⟨t,rfl⟩<;>exact⟨rfl,rfl⟩
 have d3:u.isTuple=false/\u.cells=[u]:=by rcases a3.out with⟨rfl,_⟩|⟨t,rfl⟩<;>exact⟨rfl,rfl⟩
 have f3:Bp [.DY,.AO,.AO,.AO,.AO,.AO] [(0,1),(1,1),(3,1)] [a,b,.AU 2 0 1 (some 1)]=some [a,b,.AO,.AU 2 0 1 (some 1),.AO,.AO]:=by have c3:(AV.AU 2 0 1 (some 1)).isTuple=false/\(AV.AU 2 0 1 (some 1)).cells=[.AU 2 0 1 (some 1)]:=⟨rfl,rfl⟩;simp[Bp,b4,c4,c3,ble_eq,Bl]
 obtain⟨h4,o⟩:∃h4:Aa,h4=(3,BJ.cells 81 6 [a,b,.AO,.AU 2 0 1 (some 1),.AO,.AO] false)::h3:=⟨_,rfl⟩;rw[←o]at eF;have n4:BA 3 (.cells 81 6 [a,b,.AO,.AU 2 0 1 (some 1),.AO,.AO] false) ⟨h3,4,0⟩=some ⟨h4,4,0⟩:=by rw[o];exact BF t3
 have e8:AQ h4 (.AL 1 0)=some a:=by rw[BB,o,Ar (by omega),←BB];exact d7
 have b7:AA h4 3=some (.cells 81 6 [a,b,.AO,.AU 2 0 1 (some 1),.AO,.AO] false):=by rw[o,BV rfl]
 have r431:AQ h4 (.AL 3 1)=some b:=by rw[BB,b7];rfl
 have s5:BM 1 (.AL 3 2) u ⟨h4,4,0⟩=some (.undef,⟨Ah h4 3 (.cells 81 6 [a,b,u,.AU 2 0 1 (some 1),.AO,.AO] false),4,0⟩):=by rw[CE,b7,CW];simp[d3,Bl]
 obtain⟨T,I⟩:∃T,T=Ah h4 3 (.cells 81 6 [a,b,u,.AU 2 0 1 (some 1),.AO,.AO] false):=⟨_,rfl⟩;rw[←I]at s5;have f8:AA T 3=some (.cells 81 6 [a,b,u,.AU 2 0 1 (some 1),.AO,.AO] false):=by rw[I,Fy rfl,b7];rfl
 have e7:AA T 2=some (.cells 3 1 [.int .i64 ((g.ix g.Ai:Nat):Int)] false):=by rw[I,Bn (by omega),o,Ar (by omega),J,BV rfl]
 have c0:AA T 1=some (.cells 76 1 [a] false):=by rw[I,Bn (by omega),o,Ar (by omega),J,Ar (by omega)];exact f1
 have f2:AQ T (.AL 1 0)=some a:=by rw[BB,c0];rfl
 have t5:CL T<=4:=by rw[I,Cg,o,Ay];omega
 have e9:∀st:St,BZ .slice nm st=some (.int .i64 (g.AB.length:Int),st):=fun st=>by have:=e6.len (st:=st);rw[Gb]at this;exact this
 have O0:OF 3 4 T a b u (.AU 2 0 1 (some 1)) .AO [] ⟨T,4,0⟩:=⟨CZ _,Ao _,by omega,t5,fun _ _ _=>rfl,f8,.nl,fun p hp=>(by cases hp)⟩;have D:kT g F N:=⟨H,e4,d0,f5,f4,f9⟩;have a4:=hC.Ow 0;have a0:b.CY 0=true:=B.wo 0;have R:u.CY 0=true:=by
  rcases a3.out with⟨rfl,_⟩|⟨t,rfl⟩
  ·rfl
  ·show AV.Dq 0 (HV F)=true;have:∀F:List Nat,AV.Dq 0 (HV F)=true:=fun F=>by
    induction F with
    |nil=>rfl
    |cons x F ih=>show (true&&AV.Dq 0 (HV F))=true;rw[ih];rfl
   exact this F
 have goal:(((Bc E (Ab E (k+7)) C.f52.body (TS.FK [.agg [kv,.str g.Ai,rv],.int .i64 kind] 0 .nil) ⟨[],0,0⟩).bind (Al C.f52.results)).bind (BU 0 st)).to fun x=>x.2=st/\(x.1=.tuple [.DY,.bool false]∨∃v F N O Z,x.1=.tuple [v,.bool true]/\JN v g F N O Z):=by
  simp[C.f52,f0,e0,d9,n0,rg,eC,n1,s1,r1,bs,n3,Dp,DX,Dl,Cc,Ci,DK,beq_eq,AV.DU,d7,e5,f3,n4,e8,r431,eF,s5,f2,e9];refine M.BG (mX (F:=k+7) (n:=g.AB.length) (by omega) O0 _ rfl (v1:=.int .i64 kind) (v6:=.AL 1 0) (by simp) (by simp) (by simp) (by simp) (by simp)) fun x d=>?_;obtain⟨e,i6,⟨h6,c6,i4⟩⟩:=x;obtain⟨rfl,y1,y6,y7,a8,w,O6⟩:=d;simp only at y1 y6 y7 a8 O6;subst a8;have j0:4<=c6:=O6.bc;have i9:CL h6<=c6:=O6.tp;have f6:AA h6 3=some (.cells 81 6 [a,b,u,.AU 2 0 1 (some 1),w,.AO] false):=O6.auto;have e3:AQ h6 (.AL 3 4)=some w:=by rw[BB,f6];rfl
  have d4:=(O6.CY 1 (by omega) (by omega)).trans c0;have d5:=(O6.CY 2 (by omega) (by omega)).trans e7;simp only at d4 d5;have V:(List.range g.AB.length).length=g.AB.length:=List.length_range;have Gw:Gq h6 3 1 Fx w (List.range g.AB.length):=O6.ord;generalize hL:List.range g.AB.length=L0 at Gw V;cases Gw with
  |nl=>simp at V;omega
  |ob id _ rest ext cap hf d6=>
   have j3:4<=id:=O6.own id rfl;have b1:∀L:List Nat,L.flatMap Fx=BI L:=fun L=>by show L.flatMap (fun n:Nat=>[AV.int .i64 (n:Int)])=_;simp[BI,MM]
   rw[b1]at hf;rw[V]at e3 d6 f6;have I0:IL id ext rest g.AB.length g.AB.length h6 c6 0 L0 ⟨h6,c6,0⟩:=⟨rfl,rfl,hf,V,fun x d=>by rw[←hL]at d;exact Gd.1 d,fun _ _=>rfl,rfl⟩;simp[y7,e3,y6];refine M.BG (bO (k:=k+1) (cap:=cap) (q:=1) (by omega) d4 hC (CZ _) c2 I0) fun x d=>?_;obtain⟨v7,⟨h7,c7,j2⟩⟩:=x;obtain⟨_,O,I1⟩:=d;have ec:=I1.c;have el:=I1.lo;simp only at ec el;subst ec el;have U:O.length=g.AB.length:=I1.len;have f7:AA h7 id=some (.cells 3 1 (BI O++rest) ext):=I1.f;have d1:CL h7<=c7:=by have:CL h7=CL h6:=I1.tp;omega
   have a7:id<c7:=Bt (Fb f7) d1;have b9:=(I1.CY 3 (by omega)).trans f6;have b6:=(I1.CY 2 (by omega)).trans d5;simp only at b9 b6;have E0:kg g F N 3 c7 h7 ⟨a,b,u,.AU 2 0 1 (some 1),.AU id 0 g.AB.length cap⟩ O:=by
    refine⟨D,fun h8 ss a1 a2=>⟨a,b,u,.AU 2 0 1 (some 1),Cells.sP a1,hC,B,a3,?_⟩,fun h8 a2=>?_,fun s b2=>I1.lt s b2,by omega⟩
    ·have:Gq h8 3 1 Fx (.AU 2 0 1 (some 1)) [g.ix g.Ai]:=Gq.ob (enc:=Fx) 2 [g.ix g.Ai] [] false (some 1) (by rw[a2 2 (by omega) (by omega)];exact b6) (.inr ⟨0,rfl,rfl⟩);exact RL.ob (l:=[g.ix g.Ai]) this
    ·have:Gq h8 3 1 Fx (.AU id 0 O.length cap) O:=Gq.ob (enc:=Fx) id O rest ext cap (by rw[a2 id a7 (by omega),b1];exact f7) (by rw[U];exact d6);rw[U]at this;exact Gq.rs (fun _=>rfl) this
   simp;refine M.BG (yL (k:=k+1) E0 d1 (by omega) (CZ _) b9) fun x d=>?_;obtain⟨v8,⟨h8,c8,i7⟩⟩:=x;have d8:∀(h9:Aa) (ss:AV) (Z:List VZ),AA h9 3=some (.cells 81 6 [a,b,u,.AU 2 0 1 (some 1),.AU id 0 g.AB.length cap,ss] false)->(∀p,p<c7->p≠3->AA h9 p=AA h7 p)->(∃w W,(∀n,Ce 0 h9 (n+3) ss=some w)/\Co w 3 W/\W.length=Z.length/\∀i (hi:i<Z.length),∃v,W[i]? =some v/\zi v Z[i])->(∀z∈Z,ZOk g Z.length z)->0<Z.length->Z.length<=2000 ->
    ∃v,Ce 0 h9 Ck (.tuple [.AL 3 0,.bool true])=some (.tuple [v,.bool true])/\JN v g F N O Z:=by
    intro h9 ss Z g1 g2 ⟨sw,W,g3,g4,g5,g6⟩ g7 g8 g9;obtain⟨t1,k1⟩:=OX (h:=h9) (id:=2) (len:=1) (cap:=some 1) (xs:=BI [g.ix g.Ai]) (rest:=[]) (by rw[g2 2 (by omega) (by omega)];exact b6) rfl rfl;obtain⟨t2,k2⟩:=OX (h:=h9) (id:=id) (len:=g.AB.length) (cap:=cap) (xs:=BI O) (rest:=rest) (by rw[g2 id a7 (by omega)];exact f7) (by simpa using U) (by rw[←b1];exact bg _ _);exact⟨_,uz g1 a4 a0 R k1 k2 g3,D,⟨a,b,u,_,_,sw,W,rfl,hC,B,a3,⟨.inr ⟨t1,rfl⟩⟩,⟨.inr ⟨t2,rfl⟩⟩,g4,g5,g6⟩,fun s b2=>I1.lt s b2,U,g7,g8,g9⟩
   rcases d with rfl|⟨rfl,i0,ss,X,KM,S1,b3,b8,a6⟩
   ·have th:Ce 0 h8 Ck (.tuple [.DY,.bool false])=some (.tuple [.DY,.bool false]):=FH rfl;simp[Al,results,Af,BU,th]
   ·simp only at S1 a6;subst a6;rcases AFu (kind:=kind)with b5|b5
    ·simp[y1,y7,b5];refine M.BG (tJ (k:=k+1) E0 S1 b8 b3) fun x d=>?_;obtain⟨v9,⟨h9,c9,i1⟩⟩:=x;obtain⟨_,mb,many,Y,Q⟩:=d;simp only at Q;obtain⟨v,th,hA⟩:=d8 h9 _ (Y.map fun y=>⟨y.P,y.A,y.row⟩) Q.auto Q.CY (by
      obtain⟨w,W,q1,q2,q3,q4⟩:=Zm Q
      exact⟨w,W,q1,q2,by rw[q3];simp,fun i hi=>by
       obtain⟨v,e1,e2⟩:=q4 i (by simpa using hi)
       exact⟨v,e1,by simpa using e2⟩⟩) (fun z hz=>by
      obtain⟨y,hy,rfl⟩:=BP.1 hz
      obtain⟨K,j,hj,hP⟩:=Q.ys y hy
      obtain⟨hp,_⟩:=S1.wS _ (BH hj)
      refine⟨K.al,by show y.P.length<=_;rw[hP,Fz];exact hp.valid.len hs,fun p m=>?_,K.rl,fun j hj=>by rw[Fz,Q.len];exact K.lQ j hj⟩
      have m:p∈y.P:=m
      rw[hP]at m
      obtain⟨x,d,rfl⟩:=BP.1 m
      exact hp.valid.place x d) (by rw[Fz,Q.len];exact Q.pos) (by rw[Fz,Q.len];exact Q.xC)
     simp[Al,results,Af,BU,th];exact⟨F,N,O,_,hA⟩
    ·obtain⟨v,th,hA⟩:=d8 h8 _ (X.map Xn) S1.auto S1.CY (by
      obtain⟨w,W,q1,q2,q3,q4⟩:=jD S1 b3
      exact⟨w,W,q1,q2,by rw[q3];simp,fun i hi=>by
       obtain⟨v,e1,e2⟩:=q4 i (by simpa using hi)
       exact⟨v,e1,by simpa using e2⟩⟩) (fun z hz=>by
      obtain⟨x,d,rfl⟩:=BP.1 hz
      obtain⟨hp,_⟩:=S1.wS x d
      obtain⟨_,r2,_⟩:=S1.rows x d
      refine⟨by simp[Xn],by simp[Xn];exact hp.valid.len hs,fun p m=>?_,r2,fun j hj=>by rw[Fz];exact S1.lQ x d j hj⟩
      simp only[Xn]at m
      obtain⟨y,hy,rfl⟩:=BP.1 m
      exact hp.valid.place y hy) (by rw[Fz];exact b3) (by rw[Fz];exact b8)
     simp[y1,y7,b5,Al,results,Af,BU,th];exact⟨F,N,O,_,hA⟩
 obtain⟨⟨x,i2⟩,e,c1,d⟩:=goal;simp only at c1 d;subst c1;exact⟨x,e,d⟩
theorem Ac.Nf{g:Ac}(c:g.Small)(h:g.fault=0):g.kZ:=by
 refine⟨c,Ac.ok h,fun d=>?_⟩;unfold Ac.fault at h;split at h
 ·rename_i a;exact absurd h a
 rename_i a;simp only[ne_eq,Decidable.not_not]at a;obtain⟨i,b,e⟩:=Du d;have:=Qy a i b;unfold Rx at this;have f:g.Ae.getD i []=[]:=by simp[List.getD,b,e]
 rw[f,AX (show Vy []=false from rfl)]at this;cases this
theorem WV{k:Nat}{K:AV}{g:Ac}{st:St}(o:GD K g)(R:g.Small)(kind:Int) :
 ∃r,Ab E (k+9) 23 [K,.int .i64 kind] st=.ret (r,st)/\((∃e:Int,e≠0/\r=.tuple [.DY,.int .i64 e])∨∃v F N O Z,r=.tuple [v,.int .i64 0]/\JN v g F N O Z):=by
 have j:=o.Ow 0;obtain⟨s,q,l,rfl,hk,hr,a0⟩:=id o;rw[GH (fn:=C.f23) rfl rfl rfl (by show (AV.CY 0 _&&(AV.CY 0 (.int .i64 kind)&&true))=true;rw[j];rfl),Ap (by simp)];obtain⟨a,m⟩:∃a:Aa,a=[(0,BJ.cells 29 3 [s,.str g.Ai,q] false)]:=⟨_,rfl⟩;have c:BA 0 (.cells 29 3 [s,.str g.Ai,q] false) ⟨[],1,0⟩=some ⟨a,1,0⟩:=by rw[m];exact BF (Ao _)
 have f:Ak a (.AL 0 0) 3=some [s,.str g.Ai,q]:=by rw[Bv,m,BV rfl];rfl
 have d:Ab E (k+8) 51 [.agg [s,.str g.Ai,q]] ⟨a,1,0⟩=.ret (.int .i64 g.fault,⟨a,1,0⟩):=uj (k:=k+2) o R;by_cases hf:g.fault=0
 ·have hF:=Ac.Nf R hf;obtain⟨r,n,u⟩:=gW (k:=k) (st:=⟨a,1,0⟩) o hF kind;by_cases hkind:kind=1∨kind=2
  ·have hb:(bif (kind !=1) then (kind !=2) else false)=false:=by rcases hkind with rfl|rfl<;>rfl
   rcases u with rfl|⟨v,F,N,O,Z,rfl,Q⟩
   ·have b:∀e:Int,Ce 0 a Ck (.tuple [.DY,.int .i64 e])=some (.tuple [.DY,.int .i64 e]):=fun e=>FH rfl;refine⟨.tuple [.DY,.int .i64 12],?_,.inl ⟨12,by omega,rfl⟩⟩;rcases hkind with rfl|rfl
    ·simp[C.f23,c,f,d,hf,n,Da,Al,results,Af,BU,b]
    ·simp[C.f23,c,f,d,hf,n,Cm,Al,results,Af,BU,b]
   ·have B:v.CY 0=true:=by
     obtain⟨cv,nv,fv,sv,ov,T,V,rfl,hC,z,H,w,D,J,Y,hz⟩:=Q.out;have o1:=hC.Ow 0;have o2:=z.wo 0;have o3:=H.AHH 0;have o4:=w.wh 0;have W:=D.wh 0;have U:T.CY 0=true:=by
      rcases J.out with⟨rfl,_⟩|⟨t,rfl⟩
      ·rfl
      ·show AV.Dq 0 V=true;refine Lv fun x h=>?_;obtain⟨i,hi,rfl⟩:=Du h;obtain⟨y,e,tp,ta,tt,hy⟩:=hz i (by omega);rw[Bu hi,Ct]at e;rw[e,hy];have q1:AV.Dq 0 (Z[i].P.map FR)=true:=Lv fun x h=>by obtain⟨p,_,rfl⟩:=BP.1 h;rfl
       have q2:AV.Dq 0 (Z[i].A.map JQ)=true:=Lv fun x h=>by obtain⟨p,_,rfl⟩:=BP.1 h;rfl
       have q3:=Qn 0 Z[i].row;simp[AV.CY,AV.Dq,q1,q2,q3]
     simp[AV.CY,AV.Dq,o1,o2,o3,o4,W,U]
    have b:∀L,Ce 0 L Ck (.tuple [v,.int .i64 0])=some (.tuple [v,.int .i64 0]):=fun L=>FH (by simp[AV.CY,AV.Dq,B]);refine⟨.tuple [v,.int .i64 0],?_,.inr ⟨v,F,N,O,Z,rfl,Q⟩⟩;rcases hkind with rfl|rfl
    ·simp[C.f23,c,f,d,hf,n,Da,Al,results,Af,BU,b]
    ·simp[C.f23,c,f,d,hf,n,Cm,Al,results,Af,BU,b]
  ·have I:(kind !=1)=true:=Ho.2 fun e=>hkind (.inl e);have S:(kind !=2)=true:=Ho.2 fun e=>hkind (.inr e);have b:∀e:Int,Ce 0 a Ck (.tuple [.DY,.int .i64 e])=some (.tuple [.DY,.int .i64 e]):=fun e=>FH rfl;refine⟨.tuple [.DY,.int .i64 4],?_,.inl ⟨4,by omega,rfl⟩⟩;simp[C.f23,c,f,d,hf,I,S,Cm,Al,results,Af,BU,b]
 ·have I:(g.fault !=0)=true:=Ho.2 hf;have b:∀e:Int,Ce 0 a Ck (.tuple [.DY,.int .i64 e])=some (.tuple [.DY,.int .i64 e]):=fun e=>FH rfl;refine⟨.tuple [.DY,.int .i64 g.fault],?_,.inl ⟨g.fault,hf,rfl⟩⟩;simp[C.f23,c,f,d,I,Al,results,Af,BU,b]
structure GL {α:Type}(ty sz:Nat)(enc:α->List AV)(c:Nat)(h0:Aa)(w:AV)(L:List α)(st:St):Prop where
 lo:st.lo<=c
 c1:c<=st.c
 tp:CL st.h<=st.c
 CY:∀p,p<c->AA st.h p=AA h0 p
 g:Gq st.h ty sz enc w L
 own:∀p,Az w=some p->c<=p
theorem GL.push{α:Type}{ty sz bytes c c1 lo:Nat}{enc:α->List AV}{k h:Aa}{w v:AV}{L:List α}(H:GL ty sz enc c k w L ⟨h,c1,lo⟩)(t:∀x,(enc x).length=sz)(u:0<sz){x:α}{zero:List AV}(D:v.isTuple=false)(F:v.cells=enc x)(j:zero.length=sz)(A:L.length<2^20)(s:bytes<=1024) :
 BC c1 ty sz 1 zero [0] [v]=some (.AU c1 0 1 (some 1),.cells ty sz (enc x) false)/\∃d a b,BA c1 (.cells ty sz (enc x) false) ⟨h,c1+2,lo⟩=some ⟨d,c1+2,lo⟩/\Bq (c1+1) ty sz bytes w (.AU c1 0 1 (some 1)) ⟨d,c1+2,lo⟩=some (a,⟨b,c1+2,lo⟩)/\GL ty sz enc c k a (L++[x]) ⟨b,c1+2,lo⟩/\(∀p,p<c1->Az w≠some p->AA b p=AA h p)/\(∀p,Az a=some p->p=c1+1∨Az w=some p):=by
 have I:c<=c1:=H.c1;have i:lo<=c:=H.lo;have B:CL h<=c1:=H.tp;obtain⟨z,d,a,b,r,n,G,o,l,m,J⟩:=JE (c':=c1+2) (bytes:=bytes) (zero:=zero) (v:=v) (x:=x) (enc:=enc) (sz:=sz) (lo:=lo) t u H.g B (fun p y=>by have:=H.own p y;omega) D F j A s;refine⟨z,d,a,b,r,n,⟨i,by show c<=c1+2;omega,o,fun q f=>(l q (by omega) fun e=>by have:=H.own q e;omega).trans (H.CY q f),G,fun q f=>?_⟩,l,m⟩;rcases m q f with e|e
 ·omega
 ·exact H.own q e
theorem GL.grow{α:Type}{k sz c a d lo:Nat}{b:α->List AV}{j h i:Aa}{w:AV}{L:List α}(H:GL k sz b c j w L ⟨h,a,lo⟩)(o:a<=d)(m:CL i<=d)(e:∀p,p<a->AA i p=AA h p):GL k sz b c j w L ⟨i,d,lo⟩:=by have n:c<=a:=H.c1;have l:CL h<=a:=H.tp;exact⟨H.lo,by show c<=d;omega,m,fun p f=>(e p (by omega)).trans (H.CY p f),H.g.heap fun p f=>e p (Bt (H.g.lt f) l),H.own⟩
theorem pW{α:Type}{a:α->List AV}{el:α->AV}{h:Aa}{k b c:Nat}{w:AV}{L:List α}(G:Gq h k b a w L)(l:∀x,(a x).length=b)(o:0<b)(m:∀p,Az w=some p->c<=p)(e:AV.Dq c (L.flatMap a)=true)(i:rows b L.length (L.flatMap a)=L.map el):∃v,(∀n,Ce c h (n+2) w=some v)/\Co v b (L.map el):=by
 cases G with
 |nl=>exact⟨.AO,fun n=>FH rfl,⟨.inl ⟨rfl,rfl⟩⟩⟩
 |ob id _ rest ext cap f g=>
  refine⟨.list (tight cap L.length) b (L.map el),fun n=>?_,⟨.inr ⟨_,rfl⟩⟩⟩;have d:(L.flatMap a).length=L.length*b:=Ib l L;have j:DD (Ce c h (n+1)) (((L.flatMap a++rest).drop 0).take (L.length*b))=some (L.flatMap a):=by rw[FB,←d,Je];exact Hu e
  rw[Gh (m id rfl) f o (by rw[Bd,d];omega) j,i];rfl
def bitsOf(g:Ac):List Nat:=60::List.range g.Ae.length
theorem jo{k c lo:Nat}{h:Aa}{v:AV}{g:Ac}{F O:List Nat}{N:List Bool}{Z:List VZ}(A:JN v g F N O Z)(S:CL h<=c) :
 ∃w,Ab E (k+1) 53 [v] ⟨h,c,lo⟩=.ret (w,⟨h,c,lo⟩)/\Co w 1 (BI (bitsOf g)):=by
 have hs:=A.TK.Nf.small;have I:=hs.Ae;obtain⟨cv,nv,fv,sv,ov,Q,zs,rfl,L,T,W,R,V,a1,Y,hz⟩:=A.out;obtain⟨P,u,q,a2,K,rfl,a3,_⟩:=L.out;rw[FD (fn:=C.f53) rfl rfl rfl,Ap (by simp)];have U:BC c 3 1 1 [.int .i64 0] [0] [.int .i64 60]=some (.AU c 0 1 (some 1),.cells 3 1 [.int .i64 60] false):=rfl;obtain⟨b,d⟩:∃b:Aa,b=(c,BJ.cells 3 1 [.int .i64 60] false)::h:=⟨_,rfl⟩;have n1:BA c (.cells 3 1 [.int .i64 60] false) ⟨h,c+1,c⟩=some ⟨b,c+1,c⟩:=by rw[d];exact BF S
 have G0:GL 3 1 Fx c h (.AU c 0 1 (some 1)) [60] ⟨b,c+1,c⟩:=⟨Ao _,by show c<=c+1;omega,by show CL b<=c+1;rw[d,Ay];omega,fun p B=>by show AA b p=_;rw[d,Ar (by omega)],Gq.ob (enc:=Fx) c [60] [] false (some 1) (by show AA b c=_;rw[d,BV rfl];rfl) (.inr ⟨0,rfl,rfl⟩),fun p B=>by cases B;exact Ao _⟩;have goal:(((Bc E (Ab E k) C.f53.body (TS.FK [.CB [.CB [P,.int .i64 (g.Ae.length:Nat),.int .i64 (g.ix g.Ai:Nat),u,q,.CR (Bf g.AB) (BI (List.range g.AB.length))],nv,fv,sv,ov,Q]] 0 .nil) ⟨h,c,c⟩).bind (Al C.f53.results)).bind (BU c ⟨h,c,lo⟩)).to fun x=>x.2=⟨h,c,lo⟩/\Co x.1 1 (BI (bitsOf g)):=by
  simp[C.f53,U,n1];refine M.BG (Df (fun (i:Nat) j s=>i<=g.Ae.length/\Has j [(12,.int .i64 (g.Ae.length:Int)),(13,.int .i64 (i:Int))]/\s.lo=c/\GL 3 1 Fx c h (j.get 3) (60::List.range i) s) (fun i=>g.Ae.length-i) (fun e j s=>e=.exit 0/\GL 3 1 Fx c h (j.get 3) (bitsOf g) s) ?_ _ 0 _ _ ?_ ?_) ?_
  ·rintro i j ⟨r,c2,t⟩ ⟨hi,o,a,H⟩;simp only at a;have a:=a.symm;subst a;simp only[Be,CG,BX]at o;obtain⟨f,m⟩:=o;by_cases Bi:i<g.Ae.length
   ·obtain⟨p1,h3,w',h4,z,y,D,_⟩:=H.push (bytes:=8) (v:=.int .i64 (i:Int)) (x:=i) (zero:=[.int .i64 0]) (fun _=>rfl) (by omega) rfl rfl rfl (by simp;omega) (by omega);have e:(60::List.range i)++[i]=60::List.range (i+1):=by rw[Lh];rfl
    rw[e]at D;simp[C.f53L0,f,m,Bi,p1,Fx,wi i];simp only[Fx]at z y;simp[z,y];exact⟨i+1,by omega,by omega,by simp[f],D⟩
   ·have:i=g.Ae.length:=by omega
    subst this;simp[C.f53L0,f,m];exact H
  ·exact FX (by show g.Ae.length-0<1000000;omega)
  ·exact⟨by omega,by simp,rfl,by simpa using G0⟩
  ·rintro⟨e,j,⟨r,c2,t⟩⟩ ⟨rfl,H⟩;simp only at H;obtain⟨v,t1,J⟩:=pW (el:=fun n:Nat=>AV.int .i64 (n:Int)) H.g (fun _=>rfl) (by omega) H.own (bg _ _) (mI _);have l:=t1 62;simp only[Nat.reduceAdd]at l;simp[Al,results,Af,BU,Ck,l];exact J
 obtain⟨⟨w,a0⟩,e,b,r⟩:=goal;simp only at b r;subst b;exact⟨w,e,r⟩
theorem aN{k c lo b:Nat}{h:Aa}{v:AV}{g:Ac}{F O:List Nat}{N:List Bool}{Z:List VZ}(A:JN v g F N O Z)(d:b∈bitsOf g):∃s,Ab E (k+1) 55 [v,.int .i64 (b:Int)] ⟨h,c,lo⟩=.ret (.str s,⟨h,c,lo⟩):=by
 have H:=A.TK.Nf.small;have m:=H.Ae;obtain⟨L,Q,T,R,S,J,K,rfl,o,r,u,q,t,y,w,P⟩:=A.out;obtain⟨p,I,l,D,n,rfl,i,_⟩:=o.out;rw[FD (fn:=C.f55) rfl rfl rfl,Ap (by simp)];have j:∀s:Bz,Ce c h Ck (.str s)=some (.str s):=fun s=>FH rfl;rcases BK.1 d with rfl|d
 ·exact⟨[],by simp[C.f55,Al,results,Af,BU,j]⟩
 ·have z:=Gd.1 d;have a:(((b:Nat):Int)==60)=false:=by rw[Gm];omega
  have f:b<g.AB.length:=by unfold Ac.AB;rw[Bd];omega
  have B:∀e:St,AY 1 p (.int .i64 (b:Int)) e=some (.CB [.str g.AB[b]],e):=fun e=>by
   have x:b<(Bf g.AB).length:=by rw[Gb];exact f
   rw[i.idx x];simp[Bf,AV.cells]
  exact⟨g.AB[b],by simp[C.f55,a,B,Al,results,Af,BU,j]⟩
def PH(g:Ac)(r:Int):Int:=if r<0 then 0 else (g.AP.getD r.toNat default).level
theorem Ny{k c lo:Nat}{h:Aa}{v:AV}{g:Ac}{F O:List Nat}{N:List Bool}{Z:List VZ}(A:JN v g F N O Z){r:Int}(T:-1<=r)(P:r<g.AP.length):Ab E (k+1) 102 [v,.int .i64 r] ⟨h,c,lo⟩=.ret (.int .i64 (PH g r),⟨h,c,lo⟩):=by
 obtain⟨S,W,fv,Y,ov,Q,R,rfl,u,y,B,x,z,H,D,V⟩:=A.out;obtain⟨L,i,q,e,t,rfl,K,b,J,j,_⟩:=u.out;rw[FD (fn:=C.f102) rfl rfl rfl,Ap (by simp)];have m:∀s:Int,Ce c h Ck (.int .i64 s)=some (.int .i64 s):=fun s=>FH rfl;by_cases h0:r=-1
 ·subst h0;have:PH g (-1)=0:=rfl;rw[this];simp[C.f102,Al,results,Af,BU,m]
 ·obtain⟨n,rfl⟩:∃n:Nat,r=(n:Int):=⟨r.toNat,by omega⟩;have a:n<g.AP.length:=by omega
  obtain⟨w,p,U⟩:=j n a;have d:(((n:Nat):Int)==-1)=false:=by rw[Gm];omega
  have I:∀f:St,AY 3 i (.int .i64 (n:Int)) f=some (.CB [.int .i64 (g.ix g.AP[n].left:Nat),w,.int .i64 g.AP[n].level],f):=fun f=>by
   have o:n<e.length:=by omega
   rw[b.idx o];rw[Bu o,Ct]at p;rw[p];rfl
  have l:PH g (n:Int)=g.AP[n].level:=by unfold PH;rw[AJ (by omega),OL,List.getD,Bu a];rfl
  rw[l];simp[C.f102,d,I,Al,results,Af,BU,m]
end Go.Am
