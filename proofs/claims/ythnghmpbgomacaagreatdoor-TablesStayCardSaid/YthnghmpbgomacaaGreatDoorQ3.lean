/- A part of tablesStay. -/
import Derived.Test.YthnghmpbgomacaaGreatDoorQ2
set_option linter.unnecessarySimpa false
set_option maxHeartbeats 4000000
namespace Go.Am
 attribute [local irreducible] bigK
open Go
structure Row where
 S:Ig
 id:Nat
 row:List Int
def KP(n:Nat)(x:Row):List AV:=[Hr x.S,Hd x.S,.AU x.id 0 n (some n)]
theorem gF(n:Nat)(x:Row):(KP n x).length=3:=rfl
def fC(n:Nat):AV:=.int .i64 (n:Int)
structure AH where
 cv:AV
 nv:AV
 fv:AV
 sv:AV
 ov:AV
def AH.cells(D:AH)(ss:AV):List AV:=[D.cv,D.nv,D.fv,D.sv,D.ov,ss]
structure kg (g:Ac)(F:List Nat)(N:List Bool)(a b0:Nat)(h0:Aa)(D:AH)(O:List Nat):Prop where
 TK:kT g F N
 auto:∀(h2:Aa) (ss:AV),AA h2 a=some (.cells 81 6 (D.cells ss) false)->(∀p,p<b0->p≠a->AA h2 p=AA h0 p)->kr h2 (.AL a 0) g F N D.ov ss
 ord:∀h2:Aa,(∀p,p<b0->p≠a->AA h2 p=AA h0 p)->RS h2 1 Fx D.ov O
 sub:∀s∈O,s<g.AB.length
 len:O.length<=1000
structure Vb (g:Ac)(a b0 mid:Nat)(h0:Aa)(D:AH)(ss:AV)(X:List Row)(KM:List (Bz×Nat))(st:St):Prop where
 tp:CL st.h<=st.c
 bc:b0<=st.c
 ab:a<b0
 lo:st.lo<=a
 CY:∀p,p<b0->p≠a->AA st.h p=AA h0 p
 auto:AA st.h a=some (.cells 81 6 (D.cells ss) false)
 Xz:Gq st.h 137 3 (KP g.AB.length) ss X
 rows:∀x∈X,AA st.h x.id=some (.cells 3 1 (DC x.row) false)/\x.row.length=g.AB.length/\b0<=x.id/\Az ss≠some x.id/\x.id≠mid
 own:∀p,Az ss=some p->b0<=p/\p≠mid
 uniq:(X.map Row.id).Nodup
 Yi:AA st.h mid=some (Gj AV.str fC KM)
 gp:b0<=mid
 wS:∀x∈X,VW g x.S/\x.S≠[]
 lQ:∀x∈X,∀k∈x.row,-1<=k/\k<X.length
section
variable {g:Ac}{F:List Nat}{N:List Bool}{a b0 mid:Nat}{h0:Aa}{D:AH}{ss:AV}{X:List Row}{KM:List (Bz×Nat)}{O:List Nat}
theorem Vb.grow{h j:Aa}{b c lo:Nat}(H:Vb g a b0 mid h0 D ss X KM ⟨h,b,lo⟩)(w:b<=c)(q:CL j<=c)(e:∀p,p<b->AA j p=AA h p):Vb g a b0 mid h0 D ss X KM ⟨j,c,lo⟩:=by
 have v:b0<=b:=H.bc;have i:=H.ab;have l:CL h<=b:=H.tp;have m:∀{p:Nat} {x:BJ},AA h p=some x->p<b:=fun n=>Bt (Fb n) l;exact⟨q,by show b0<=c;omega,i,H.lo,fun p d f=>(e p (by omega)).trans (H.CY p d f),(e a (by omega)).trans H.auto,H.Xz.heap fun p d=>e p (Bt (H.Xz.lt d) l),fun x r=>by
  obtain⟨k,s,o,t,u⟩:=H.rows x r
  exact⟨(e _ (m k)).trans k,s,o,t,u⟩,H.own,H.uniq,(e _ (m H.Yi)).trans H.Yi,H.gp,H.wS,H.lQ⟩
theorem Vb.ACk{h:Aa}{j i:Nat}(H:Vb g a b0 mid h0 D ss X KM ⟨h,j,i⟩)(b:List (Bz×Nat)):Vb g a b0 mid h0 D ss X b ⟨Ah h mid (Gj AV.str fC b),j,i⟩:=by
 have e:=H.ab;have o:=H.gp;have m:AA h mid=some (Gj AV.str fC KM):=H.Yi;exact⟨by show CL (Ah _ _ _)<=_;rw[Cg];exact H.tp,H.bc,e,H.lo,fun p c d=>(Bn (by omega)).trans (H.CY p c d),(Bn (by omega)).trans H.auto,H.Xz.heap fun p c=>Bn (Aj (H.own p c).2),fun x r=>by
  obtain⟨q,k,n,l,f⟩:=H.rows x r
  exact⟨(Bn (Aj f)).trans q,k,n,l,f⟩,H.own,H.uniq,by show AA (Ah _ _ _) _=_;rw[Fy rfl,m];rfl,H.gp,H.wS,H.lQ⟩
theorem Gq.congr{α:Type}{a:α->List AV}{h:Aa}{e d:Nat}{w:AV}{L b:List α}(G:Gq h e d a w L)(c:b.length=L.length)(f:b.flatMap a=L.flatMap a):Gq h e d a w b:=by
 cases G with
 |nl=>have:b=[]:=Gn c;subst this;exact .nl
 |ob id _ rest ext cap g i=>rw[←c];refine .ob id b rest ext cap (by rw[f];exact g) (by rw[c];exact i)
theorem Uw{α:Type}{enc:α->List AV}:∀{L:List α} {i:Nat} (a:i<L.length) {y:α},enc y=enc L[i]->(L.set i y).flatMap enc=L.flatMap enc
 |x::L,0,_,y,h=>by simp at h;simp[h]
 |x::L,i+1,a,y,h=>by have:=Uw (enc:=enc) (L:=L) (i:=i) (by simpa using a) (y:=y) (by simpa using h);simp[this]
def gG(X:List Row)(i s:Nat)(k:Int):List Row:=match X[i]? with
 |some x=>X.set i { x with row:=x.row.set s k }
 |none=>X
theorem Nt{i s:Nat}{k:Int}:(gG X i s k).length=X.length:=by unfold gG;split<;>simp
theorem Vb.setRow{h:Aa}{n l i s k:Nat}(H:Vb g a b0 mid h0 D ss X KM ⟨h,n,l⟩)(b:i<X.length)(z:s<g.AB.length)(L:k<X.length) :
 BM 1 (.AL X[i].id s) (.int .i64 (k:Int)) ⟨h,n,l⟩=some (.undef,⟨Ah h X[i].id (.cells 3 1 (DC (X[i].row.set s (k:Int))) false),n,l⟩)/\Vb g a b0 mid h0 D ss (gG X i s (k:Int)) KM ⟨Ah h X[i].id (.cells 3 1 (DC (X[i].row.set s (k:Int))) false),n,l⟩:=by
 have r:=H.ab;have B:l<=a:=H.lo;obtain⟨m,t,w,u,v⟩:=H.rows _ (BH b);have m:AA h X[i].id=some (.cells 3 1 (DC X[i].row) false):=m;have e:gG X i s (k:Int)=X.set i { X[i]with row:=X[i].row.set s (k:Int) }:=by unfold gG;rw[Bu b]
 refine⟨bW m (by omega) (by rw[t];exact z) _,?_⟩;rw[e];have f:(X.set i { X[i]with row:=X[i].row.set s (k:Int) }).map Row.id=X.map Row.id:=by
  rw[GX];have:(X.map Row.id)[i]'(by simpa using b)=X[i].id:=by simp
  show (X.map Row.id).set i X[i].id=_;rw[←this,List.set_getElem_self]
 refine⟨by show CL (Ah _ _ _)<=_;rw[Cg];exact H.tp,H.bc,r,H.lo,fun p o q=>(Bn (by omega)).trans (H.CY p o q),(Bn (by omega)).trans H.auto,?_,fun x c=>?_,H.own,by rw[f];exact H.uniq,(Bn v).trans H.Yi,H.gp,fun x c=>?_,fun x c j d=>?_⟩
 ·refine (H.Xz.heap (h':=Ah h X[i].id (.cells 3 1 (DC (X[i].row.set s (k:Int))) false)) fun p o=>Bn fun e=>u (by rw[e];exact o)).congr (by simp) (Uw b rfl)
 ·rw[List.mem_iff_getElem]at c;obtain⟨j,d,rfl⟩:=c;rw[IU]at d;by_cases hij:i=j
  ·subst hij;rw[QY];exact⟨by show AA (Ah _ _ _) _=_;rw[Fy rfl,m];rfl,by show (X[i].row.set s (k:Int)).length=_;rw[IU];exact t,w,u,v⟩
  ·rw[ML hij];obtain⟨F,K,J,y,A⟩:=H.rows _ (BH d);refine⟨(Bn fun e=>hij ?_).trans F,K,J,y,A⟩;have I:(X.map Row.id)[i]'(by simpa using b)=(X.map Row.id)[j]'(by simpa using d):=by simpa using e
   exact (List.getElem_inj H.uniq).1 I
 ·rcases Kr c with h|rfl
  ·exact H.wS x h
  ·have:=H.wS X[i] (BH b);exact this
 ·rw[IU];rcases Kr c with h|rfl
  ·exact H.lQ x h j d
  ·rcases Kr d with h|rfl
   ·exact H.lQ _ (BH b) j h
   ·constructor<;>omega
theorem Vb.push{h:Aa}{c1 lo:Nat}(H:Vb g a b0 mid h0 D ss X KM ⟨h,c1,lo⟩)(x:Row)(T:AA h x.id=some (.cells 3 1 (DC x.row) false))(F:x.row.length=g.AB.length)(o:b0<=x.id)(l:Az ss≠some x.id)(O:x.id≠mid)(L:x.id∉X.map Row.id)(n:VW g x.S/\x.S≠[])(hr:∀k∈x.row,k=-1)(hl:X.length<2^20) :
 BC c1 137 3 1 [.AO,.AO,.AO] [0] [.agg (KP g.AB.length x)]=some (.AU c1 0 1 (some 1),.cells 137 3 (KP g.AB.length x) false)/\∃w b d Q,BA c1 (.cells 137 3 (KP g.AB.length x) false) ⟨h,c1+2,lo⟩=some ⟨w,c1+2,lo⟩ /\
  Bq (c1+1) 137 3 72 ss (.AU c1 0 1 (some 1)) ⟨w,c1+2,lo⟩=some (b,⟨d,c1+2,lo⟩)/\BM 1 (.AL a 5) b ⟨d,c1+2,lo⟩=some (.undef,⟨Q,c1+2,lo⟩)/\Vb g a b0 mid h0 D b (X++[x]) KM ⟨Q,c1+2,lo⟩:=by
 have I:=H.ab;have hb:b0<=c1:=H.bc;have t:lo<=a:=H.lo;have P:CL h<=c1:=H.tp;obtain⟨p1,w,b,d,Z,W,G,Y,A,R,op⟩:=JE (c':=c1+2) (bytes:=72) (zero:=[.AO,.AO,.AO]) (v:=.agg (KP g.AB.length x)) (x:=x) (enc:=KP g.AB.length) (sz:=3) (fun _=>rfl) (by omega) H.Xz P (lo:=lo) (fun p n=>by have:=(H.own p n).1;omega) rfl rfl rfl hl (by omega);have fa:AA d a=some (.cells 81 6 (D.cells ss) false):=(A a (by omega) fun e=>by have:=(H.own a e).1;omega).trans H.auto;have s:=G.one;have N:BM 1 (.AL a 5) b ⟨d,c1+2,lo⟩=some (.undef,⟨Ah d a (.cells 81 6 (D.cells b) false),c1+2,lo⟩):=by rw[CE,fa,CW];simp[s,t,AH.cells,Bl]
 have z:∀{p:Nat} {x:BJ},AA h p=some x->p<c1:=fun K=>Bt (Fb K) P;have f:∀q,Az b=some q->b0<=q/\q≠mid:=fun q c=>by
  rcases R q c with e|e
  ·have:=z H.Yi;exact⟨by omega,by omega⟩
  ·exact H.own q e
 have u:∀{p:Nat} {x:BJ},AA h p=some x->Az ss≠some p->Az b≠some p:=fun {p x} K hn c=>by
  rcases R p c with e|e
  ·have:=z K;omega
  ·exact hn e
 refine⟨p1,w,b,d,_,Z,W,N,by show CL (Ah _ _ _)<=_;rw[Cg];exact Y,by show b0<=c1+2;omega,I,t,fun q c i=>(Bn (Aj i)).trans ((A q (by omega) fun e=>by have:=(H.own q e).1;omega).trans (H.CY q c i)),by show AA (Ah _ _ _) _=_;rw[Fy rfl,fa];rfl,G.heap fun q c=>Bn fun e=>by have:=(f q c).1;omega,fun y r=>?_,f,?_,?_,H.gp,fun y r=>?_,fun y r j V=>?_⟩
 ·have key:∀y:Row,AA h y.id=some (.cells 3 1 (DC y.row) false)->b0<=y.id->Az ss≠some y.id->AA (Ah d a (.cells 81 6 (D.cells b) false)) y.id=some (.cells 3 1 (DC y.row) false):=fun y m J B=>(Bn (by omega)).trans ((A _ (z m) B).trans m)
  rcases Ca.1 r with h|h
  ·obtain⟨m,q2,J,B,q5⟩:=H.rows y h;exact⟨key y m J B,q2,J,u m B,q5⟩
  ·simp only[Di]at h;subst h;exact⟨key y T o l,F,o,u T l,O⟩
 ·rw[Hf,Mx];exact⟨H.uniq,by simp,fun p n q c e=>by simp only[Dh,List.map_nil,Di]at c;subst c;subst e;exact L n⟩
 ·have U:AA h mid=some (Gj AV.str fC KM):=H.Yi;have a0:=H.gp;exact (Bn (by omega)).trans ((A mid (z U) fun e=>(H.own mid e).2 rfl).trans U)
 ·rcases Ca.1 r with h|h
  ·exact H.wS y h
  ·simp only[Di]at h;subst h;exact n
 ·rw[Bd,Fq];rcases Ca.1 r with h|h
  ·have:=H.lQ y h j V;constructor<;>omega
  ·simp only[Di]at h;subst h;have:=hr j V;constructor<;>omega
theorem kg.at_{h:Aa}{c lo:Nat}(f:kg g F N a b0 h0 D O)(H:Vb g a b0 mid h0 D ss X KM ⟨h,c,lo⟩):Sc c h (.AL a 0) g F N D.ov ss:=fun i e=>by have k:b0<=c:=H.bc;have j:=H.ab;exact f.auto i ss ((e a (by omega)).trans H.auto) fun p d b=>(e p (by omega)).trans (H.CY p d b)
theorem dD{T:Ig}(a:g.Small)(b:VW g T):∀x∈T,-1<=x.1.1/\x.1.1<1000/\x.1.2<256/\x.2<2^64:=fun x c=>by obtain⟨e,d,f⟩:=b.valid.place x c;have:=a.many;have:=Ua a x.1.1 d;exact⟨e,by omega,by omega,Xl (n:=g.Ae.length) (by have:=a.Ae;omega) fun j h=>b.valid.bits x c j h⟩
end
def ADe(g:Ac)(F:List Nat)(N:List Bool)(a b0 mid:Nat)(h0:Aa)(D:AH)(i:Nat)(lo:Nat)(x:KN×TS×St):Prop:=
 (x.1=.ret/\x.2.1.get 2=.bool false)∨(x.1=.exit 2/\x.2.1.get 0=.AL a 0/\x.2.1.get 4=.Cq mid/\x.2.1.get 5=.int .i64 (i:Int)/\∃ss X KM,Vb g a b0 mid h0 D ss X KM x.2.2/\(∀y∈KM,y.2<X.length)/\i<X.length/\X.length<=2000/\x.2.2.lo=lo)
theorem PE{g:Ac}(b:g.Small):g.AB.length<=1000:=by
 have:=b.Ae;have:=b.many;have d:g.Km.length<=g.AP.length:=by
  have:=Rt (l:=g.Km) (m:=g.AP.map Dw.left) g.Xr.nodup fun s h=>by have a:=Ac.Mj.1 h;unfold Ac.isLeft at a;obtain⟨r,c,e⟩:=QS.1 a;exact BP.2 ⟨r,c,by simpa using e⟩
  simpa using this
 unfold Ac.AB;rw[Bd];omega
theorem AAq{k a W d lo0 i:Nat}{h0:Aa}{D:AH}{g:Ac}{F O:List Nat}{N:List Bool}(E0:kg g F N a W h0 D O){c4:AV}{X0:List Row}{b5:List (Bz×Nat)}{st:St}(S0:Vb g a W d h0 D c4 X0 b5 st)(d6:∀y∈b5,y.2<X0.length)(d2:i<X0.length)(d3:X0.length<=2000)(J:st.lo=lo0)(Y:TS)(z0:Y.get 0=.AL a 0)(z4:Y.get 4=.Cq d)(z5:Y.get 5=.int .i64 (i:Int))(B:Y.get 42=D.ov)(w:Y.get 43=.int .i64 (O.length:Int))(u:Y.get 44=.int .i64 0) :
 (Dm (Bc E (Ab E (k+5)) C.f99L1) E.k Y st).to (ADe g F N a W d h0 D i lo0):=by
 have hs:=E0.TK.Nf.small;have Z:=PE hs;have hO:=E0.len;refine Cy (fun (j:Nat) Y st=>j<=O.length/\Has Y [(0,.AL a 0),(4,.Cq d),(5,.int .i64 (i:Int)),(42,D.ov),(43,.int .i64 (O.length:Int)),(44,.int .i64 (j:Int))]/\∃t X A,Vb g a W d h0 D t X A st/\(∀y∈A,y.2<X.length)/\i<X.length/\X.length<=2000/\st.lo=lo0)
  (fun j=>O.length-j) ?_ _ 0 _ _ ?_ ?_
 ·clear z0 z4 z5 B w u S0;rintro j Y ⟨h,c,lo⟩ ⟨hj,b9,t,X,A,m,hv,P,hX,J⟩;simp only[Be,CG,BX]at b9;obtain⟨z0,z4,z5,B,w,u⟩:=b9;simp only at J;subst J;have e0:=m.ab;have e5:W<=c:=m.bc;have c8:lo<=a:=m.lo;have tp:CL h<=c:=m.tp;by_cases Bi:j<O.length
  ·obtain⟨q,a1,b1⟩:=(E0.ord h m.CY).rd Bi;have a4:∀cc,AY 1 D.ov (.int .i64 (j:Int)) ⟨h,cc,lo⟩=some (q,⟨h,cc,lo⟩):=fun cc=>a1 _ rfl;obtain⟨s,c2⟩:∃s,s=O[j]:=⟨_,rfl⟩;have a6:s<g.AB.length:=c2▸E0.sub _ (BH Bi);rw[←c2]at b1;have e7:Cells h (.AL a 0) (D.cells t):=Cells.sP m.auto;have r5:∀st:St,st.h=h->AQ st.h (.AL a 5)=some t:=fun st e=>by rw[e,BB,m.auto];rfl
   have a3:AQ h (.AL a 5)=some t:=r5 ⟨h,c,lo⟩ rfl;obtain⟨e2,e3,d0,ix⟩:=m.Xz.idx P;have a7:∀cc,AY 3 t (.int .i64 (i:Int)) ⟨h,cc,lo⟩=some (.AL e2 (i*3),⟨h,cc,lo⟩):=fun cc=>ix _ rfl;have b2:=Gq.cells (enc:=KP g.AB.length) (sz:=3) (fun _=>rfl) (d0▸m.Xz) P;have R:=b2.all;rw[show (KP g.AB.length X[i]).length=3 from rfl]at R;obtain⟨d1,e4⟩:=m.wS _ (BH P);obtain⟨r,hr,eM⟩:=tF (k:=k+1) (lo:=lo) (c:=c+1) s E0.TK (by omega) ((E0.at_ m).more (c':=c+1) (by omega) fun _ _=>rfl) d1.valid (S:=X[i].S) (to:=.AU X[i].id 0 g.AB.length (some g.AB.length)) ⟨rfl,rfl⟩;have a8:Ab E (k+5) 155 [.AL a 0,.agg (KP g.AB.length X[i]),.int .i64 (s:Int)] ⟨h,c+1,lo⟩=.ret (Og r,⟨h,c+1,lo⟩):=eM;cases r with
   |none=>obtain⟨h1,l,n1,s1,f2,t2,b4⟩:=Ih (c':=c+1) (ty:=137) (sz:=3) (n:=3) (v:=.agg [.AO,.AO,.AO]) (cs:=[.AO,.AO,.AO]) (zero:=[.AO,.AO,.AO]) tp (lo:=lo) (by omega) rfl rfl rfl rfl;have I:Vb g a W d h0 D t X A ⟨l,c+1,lo⟩:=m.grow (by omega) t2 fun p hp=>b4 p (by omega);simp[C.f99L1,z0,z4,z5,B,w,u,Bi,a4,b1,a3,a7,R,a8,Og,n1,s1,wi j];exact⟨j+1,by omega,by omega,by simp,t,X,A,I,fun y b hy=>hv _ hy,P,hX⟩
   |some T=>
    obtain⟨e8,hT⟩:=hr;obtain⟨h1,l,n1,s1,f2,t2,b4⟩:=Ih (c':=c+1) (ty:=137) (sz:=3) (n:=3) (v:=Po T) (cs:=[Hr T,Hd T,.AO]) (zero:=[.AO,.AO,.AO]) tp (lo:=lo) (by omega) rfl rfl rfl rfl;have I:Vb g a W d h0 D t X A ⟨l,c+1,lo⟩:=m.grow (by omega) t2 fun p hp=>b4 p (by omega);have b6:Ak l (.AL c 0) 3=some [Hr T,Hd T,.AO]:=by rw[Bv,f2];rfl
    have c7:T.length<=1000:=DV (hT.1.valid.len hs) (by omega);have eK:=dC (k:=k+1) (v:=.agg [Hr T,Hd T,.AO]) (to:=.AO) (S:=T) (whole:=true) (st:=⟨l,c+1,lo⟩) ⟨Hr T,Hd T,rfl,fun h' _=>gH T,fun h' _=>kJ T⟩ hT.2.1 c7 I.tp rfl (dD hs hT.1);have lk:FT (.one .str) (.int .i64 0) true (.Cq d) (.str (keyOf true T)) ⟨l,c+1,lo⟩=some (.tuple [((IE A (keyOf true T)).map fC).getD (.int .i64 0),.bool (IE A (keyOf true T)).isSome],⟨l,c+1,lo⟩):=iP (c:=c+1) (lo:=lo) YA I.Yi (keyOf true T);cases hk:IE A (keyOf true T) with
    |some n=>
     have hn:n<X.length:=by
      have key:∀{M:List (Bz×Nat)},IE M (keyOf true T)=some n->∃y∈M,y.2=n:=fun {M}=>by
       induction M with
       |nil=>intro h;cases h
       |cons y M ih=>
        intro h;unfold IE at h;split at h
        ·cases h;exact⟨_,by simp,rfl⟩
        ·obtain⟨z,h1,l⟩:=ih h;exact⟨z,by simp[h1],l⟩
      obtain⟨y,h1,l⟩:=key hk;rw[←l];exact hv y h1
     rw[hk]at lk;obtain⟨a2,S3⟩:=I.setRow P a6 hn;have a5:AQ l (.AL a 5)=some t:=by rw[BB,I.auto];rfl
     obtain⟨f,b3,L,a9⟩:=I.Xz.idx P;have V:AY 3 t (.int .i64 (i:Int)) ⟨l,c+1,lo⟩=some (.AL f (i*3),⟨l,c+1,lo⟩):=a9 _ rfl;have o:=(Gq.cells (enc:=KP g.AB.length) (sz:=3) (fun _=>rfl) (L▸I.Xz) P).one 2 (by rw[gF];omega);have rt:AQ l (.AL f (i*3+2))=some (.AU X[i].id 0 g.AB.length (some g.AB.length)):=o;obtain⟨q1,q2,_⟩:=I.rows _ (BH P);have ri:AY 1 (.AU X[i].id 0 g.AB.length (some g.AB.length)) (.int .i64 (s:Int)) ⟨l,c+1,lo⟩=some (.AL X[i].id s,⟨l,c+1,lo⟩):=UZ q1 q2 a6;simp[C.f99L1,z0,z4,z5,B,w,u,Bi,a4,b1,a3,a7,R,a8,Og,n1,s1,b6,eK,lk,fC,a5,V,rt,ri,a2,wi j];exact⟨j+1,by omega,by omega,by simp,t,_,A,S3,fun y b hy=>by rw[Nt];exact hv _ hy,by rw[Nt];exact P,by rw[Nt];exact hX⟩
    |none=>
     rw[hk]at lk;have a5:AQ l (.AL a 5)=some t:=by rw[BB,I.auto];rfl
     have c1:∀st:St,BZ .slice t st=some (.int .i64 (X.length:Int),st):=fun st=>I.Xz.BZ st;by_cases hmax:X.length=2000
     ·have hb:(((X.length:Nat):Int)==2000)=true:=by rw[hmax];rfl
      simp[C.f99L1,z0,z4,z5,B,w,u,Bi,a4,b1,a3,a7,R,a8,Og,n1,s1,b6,eK,lk,a5,c1,hb];exact .inl ⟨rfl,by simp⟩
     ·have hb:(((X.length:Nat):Int)==2000)=false:=by rw[Gm];omega
      have up:=Ym (c:=c+1) (lo:=lo) (ev:=fC) YA I.Yi (by have:=I.gp;omega) (keyOf true T) X.length;have S3:=I.ACk (Iw A (keyOf true T) X.length);obtain⟨h3,c0⟩:∃h3,h3=Ah l d (Gj AV.str fC (Iw A (keyOf true T) X.length)):=⟨_,rfl⟩;rw[←c0]at S3 up;have cm:c≠d:=by have h1:d<CL h:=Fb m.Yi;omega
      have f3:AA h3 c=some (.cells 137 3 [Hr T,Hd T,.AO] false):=by rw[c0,Bn (Aj cm)];exact f2
      obtain⟨h4,eN,f4,t4,c5⟩:=Rs (k:=k+4) (c:=c+1) (lo:=lo) (h:=h3) (E0.at_ S3 h3 fun _ _=>rfl) S3.tp (by omega) Z;have e6:CL h3<=c+1:=S3.tp;have Q:Vb g a W d h0 D t X (Iw A (keyOf true T) X.length) ⟨h4,c+1+1,lo⟩:=S3.grow (by omega) t4 fun p hp=>c5 p (by omega);have c3:AA h4 c=some (.cells 137 3 [Hr T,Hd T,.AO] false):=by rw[c5 c (by omega)];exact f3
      have b7:BM 1 (.AL c 2) (.AU (c+1) 0 g.AB.length (some g.AB.length)) ⟨h4,c+1+1,lo⟩=some (.undef,⟨Ah h4 c (.cells 137 3 [Hr T,Hd T,.AU (c+1) 0 g.AB.length (some g.AB.length)] false),c+1+1,lo⟩):=by
       have b8:lo<=c:=by omega
       rw[CE,c3,CW];simp[AV.isTuple,AV.cells,b8]
      obtain⟨h5,a0⟩:∃h5,h5=Ah h4 c (.cells 137 3 [Hr T,Hd T,.AU (c+1) 0 g.AB.length (some g.AB.length)] false):=⟨_,rfl⟩;rw[←a0]at b7;have K:∀p,p≠c->AA h5 p=AA h4 p:=fun p hp=>by rw[a0,Bn (Aj hp)]
      have t5:CL h5<=c+1+1:=by rw[a0,Cg];exact t4
      have f5:AA h5 c=some (.cells 137 3 [Hr T,Hd T,.AU (c+1) 0 g.AB.length (some g.AB.length)] false):=by rw[a0,Fy rfl,c3];rfl
      have d9:∀{p:Nat},p<c->p≠c:=fun h=>by omega
      have S5:Vb g a W d h0 D t X (Iw A (keyOf true T) X.length) ⟨h5,c+1+1,lo⟩:=by
       have lt:∀{p:Nat} {x:BJ},AA h p=some x->p<c:=fun hf=>Bt (Fb hf) tp;exact⟨t5,Q.bc,e0,c8,fun p hp c6=>(K p (by omega)).trans (Q.CY p hp c6),(K a (by omega)).trans Q.auto,Q.Xz.heap fun p hp=>K p (by have:p<CL h:=m.Xz.lt hp;omega),fun x hx=>by
        obtain⟨q1,q2,q3,q4,q5⟩:=Q.rows x hx
        obtain⟨p1,_⟩:=m.rows x hx
        exact⟨(K _ (d9 (lt p1))).trans q1,q2,q3,q4,q5⟩,Q.own,Q.uniq,(K d (Aj cm)).trans Q.Yi,Q.gp,Q.wS,Q.lQ⟩
      have d8:Ak h5 (.AL c 0) 3=some (KP g.AB.length ⟨T,c+1,List.replicate g.AB.length (-1)⟩):=by rw[Bv,f5];rfl
      have d4:AA h5 (c+1)=some (.cells 3 1 (DC (List.replicate g.AB.length (-1))) false):=by rw[K (c+1) (by omega)];exact f4
      obtain⟨p1,h6,w',h7,h8,p2,p3,p4,S8⟩:=S5.push ⟨T,c+1,List.replicate g.AB.length (-1)⟩ d4 (by simp) (by show W<=c+1;omega) (fun e=>by have:c+1<CL h:=m.Xz.lt e;omega) (by show c+1≠d;have h1:d<CL h:=Fb m.Yi;omega) (fun hm=>by
       obtain⟨x,hx,e⟩:=BP.1 hm
       obtain⟨q1,_⟩:=m.rows x hx
       have h1:x.id<CL h:=Fb q1
       simp only at e;omega) ⟨hT.1,hT.2.1⟩ (fun x hx=>(QV.1 hx).2) (by omega)
      have d5:AQ h5 (.AL a 5)=some t:=by rw[BB,S5.auto];rfl
      have c9:AQ h8 (.AL a 5)=some w':=by rw[BB,S8.auto];rfl
      have H:i<(X++[⟨T,c+1,List.replicate g.AB.length (-1)⟩]:List Row).length:=by simp;omega
      obtain⟨f,b3,L,a9⟩:=S8.Xz.idx H;have V:AY 3 w' (.int .i64 (i:Int)) ⟨h8,c+1+1+2,lo⟩=some (.AL f (i*3),⟨h8,c+1+1+2,lo⟩):=a9 _ rfl;have U:(X++[⟨T,c+1,List.replicate g.AB.length (-1)⟩]:List Row)[i]'H=X[i]:=IX P;have o:=(Gq.cells (enc:=KP g.AB.length) (sz:=3) (fun _=>rfl) (L▸S8.Xz) H).one 2 (by rw[gF];omega);have rt:AQ h8 (.AL f (i*3+2))=some (.AU X[i].id 0 g.AB.length (some g.AB.length)):=by have:AQ h8 (.AL f (i*3+2))=some (.AU ((X++[⟨T,c+1,List.replicate g.AB.length (-1)⟩]:List Row)[i]'H).id 0 g.AB.length (some g.AB.length)):=o;rw[U]at this;exact this
      obtain⟨q1,q2,_⟩:=S8.rows _ (BH H);obtain⟨a2,S9⟩:=S8.setRow (k:=X.length) H a6 (by simp);rw[U]at q1 q2 a2;have ri:AY 1 (.AU X[i].id 0 g.AB.length (some g.AB.length)) (.int .i64 (s:Int)) ⟨h8,c+1+1+2,lo⟩=some (.AL X[i].id s,⟨h8,c+1+1+2,lo⟩):=UZ q1 q2 a6;have e1:∀y∈Iw A (keyOf true T) X.length,y.2<X.length+1:=fun y hy=>by
       rw[QD (QG.1 hk)]at hy;rcases Ca.1 hy with h|h
       ·have:=hv y h;omega
       ·simp only[Di]at h;subst h;show X.length<_;omega
      have d7:FL (.one .str) (.Cq d) (.str (keyOf true T)) (.int .i64 (X.length:Int)) ⟨l,c+1,lo⟩=some (.undef,⟨h3,c+1,lo⟩):=up;rw[U]at S9;simp[C.f99L1,z0,z4,z5,B,w,u,Bi,a4,b1,a3,a7,R,a8,Og,n1,s1,b6,eK,lk,a5,c1,hb,d7,eN,b7,d8,d5,p1,p2,p3,p4,c9,V,rt,ri,a2,wi j];refine⟨j+1,by omega,by omega,by simp,w',_,_,S9,fun y b hy=>?_,?_,?_⟩
      ·rw[Nt,Bd,Fq];exact e1 _ hy
      ·rw[Nt];exact H
      ·rw[Nt,Bd,Fq];omega
  ·have:j=O.length:=by omega
   subst this;simp[C.f99L1,w,u];exact .inr ⟨rfl,by simp[z0],by simp[z4],by simp[z5],t,X,A,m,hv,P,hX,rfl⟩
 ·exact FX (by show O.length-0<1000000;have:=E0.len;omega)
 ·exact⟨by omega,by simp[z0,z4,z5,B,w,u],c4,X0,b5,S0,d6,d2,d3,J⟩
def pQ(g:Ac)(a b0:Nat)(h0:Aa)(D:AH)(lo:Nat)(st:St):Prop:=∃mid ss X KM,Vb g a b0 mid h0 D ss X KM st/\0<X.length/\X.length<=2000/\st.lo=lo
theorem AAr{k a z f lo0:Nat}{v:Aa}{D:AH}{g:Ac}{F O:List Nat}{N:List Bool}(Y:kg g F N a z v D O){s:AV}{t:List Row}{m:List (Bz×Nat)}{j:St}(S:Vb g a z f v D s t m j)(L:∀y∈m,y.2<t.length)(Q:0<t.length)(B:t.length<=2000)(d:j.lo=lo0)(n:TS)(p:n.get 0=.AL a 0)(w:n.get 4=.Cq f)(o:n.get 5=.int .i64 0) :
 (Dm (Bc E (Ab E (k+5)) C.f99L0) E.k n j).to fun x=>(x.1=.ret/\x.2.1.get 2=.bool false)∨(x.1=.exit 0/\pQ g a z v D lo0 x.2.2):=by
 refine Cy (fun (i:Nat) n j=>i<=2000/\Has n [(0,.AL a 0),(4,.Cq f),(5,.int .i64 (i:Int))]/\∃r X A,Vb g a z f v D r X A j/\(∀y∈A,y.2<X.length)/\0<X.length/\X.length<=2000/\j.lo=lo0)
  (fun i=>2001-i) ?_ _ 0 _ _ ?_ ?_
 ·clear p w o S;rintro i n ⟨h,c,I⟩ ⟨a2,u,r,X,A,q,hv,R,T,d⟩;simp only[Be,CG,BX]at u;obtain⟨p,w,o⟩:=u;simp only at d;subst d;have U:AQ h (.AL a 5)=some r:=by rw[BB,q.auto];rfl
  have r4:AQ h (.AL a 4)=some D.ov:=by rw[BB,q.auto];rfl
  have sl:∀j:St,BZ .slice r j=some (.int .i64 (X.length:Int),j):=fun j=>q.Xz.BZ j;have ol:BZ .slice D.ov ⟨h,c,I⟩=some (.int .i64 (O.length:Int),⟨h,c,I⟩):=(Y.ord h q.CY).BZ _;by_cases Bi:i<X.length
  ·simp[C.f99L0,p,o,U,r4,sl,ol,Bi];refine M.BG (AAq (k:=k) (lo0:=I) Y q hv Bi T rfl _ (by simp[p]) (by simp[w]) (by simp[o]) (by simp) (by simp) (by simp)) fun x hx=>?_;obtain⟨e,a3,a0⟩:=x;rcases hx with⟨rfl,y2⟩|⟨rfl,y0,Z,V,J,X',P,W,H,a1,K,l⟩
   ·simp only at y2;simp[y2]
   ·simp only at y0 Z V W l;simp[V,wi i];exact⟨i+1,by omega,by omega,by simp[y0,Z],J,X',P,W,fun y b hy=>H _ hy,by omega,K,l⟩
  ·simp[C.f99L0,p,o,U,sl,Bi];exact⟨f,r,X,A,q,R,T,rfl⟩
 ·exact FX (by show 2001-0<1000000;omega)
 ·exact⟨by omega,by simp[p,w,o],s,t,m,S,L,Q,B,d⟩
def K0:Ig:=[((-1,0),2^60)]
theorem zT(g:Ac):Valid g K0:=by
 refine⟨by simp[K0],fun x a=>?_,fun x a=>?_,fun x a j b=>?_⟩
 ·simp only[K0,Di]at a;subst a;exact⟨Int.le_refl _,by show (-1:Int)<_;omega,CZ _⟩
 ·simp only[K0,Di]at a;subst a;decide
 ·simp only[K0,Di]at a;subst a;left;rw[Nat.testBit_two_pow]at b;simpa using (QT b).symm
theorem yL{k a c lo:Nat}{h:Aa}{D:AH}{g:Ac}{F O:List Nat}{N:List Bool}(R:kg g F N a c h D O)(ht:CL h<=c)(w:a<c)(J:lo<=a)(hA:AA h a=some (.cells 81 6 (D.cells .AO) false)) :
 (Ab E (k+6) 99 [.AL a 0] ⟨h,c,lo⟩).to fun x=>x.1=.bool false∨(x.1=.bool true/\pQ g a c h D lo x.2):=by
 have hs:=R.TK.Nf.small;have o:=PE hs;rw[Av (fn:=C.f99) rfl rfl rfl,Ap (by simp)];obtain⟨H,q⟩:∃H:Aa,H=(c,BJ.map [] [] [] 0)::h:=⟨_,rfl⟩;have n1:BA c (.map [] [] [] 0) ⟨h,c+2,lo⟩=some ⟨H,c+2,lo⟩:=by rw[q];exact BF ht
 have t1:CL H<=c+1:=by rw[q,Ay];omega
 have f1:AA H c=some (Gj FR JQ []):=by rw[q,BV rfl];rfl
 have up:=Ym (c:=c+2) (lo:=lo) (ev:=JQ) NM f1 (by omega) (-1,0) (2^60);obtain⟨B,t⟩:∃B,B=Ah H c (Gj FR JQ (Iw [] (-1,0) (2^60))):=⟨_,rfl⟩;rw[←t]at up;have a2:FL (.many [.int,.int]) (.Cq c) (.agg [.int .i64 (-1),.int .i64 0]) (.int .u64 1152921504606846976) ⟨H,c+2,lo⟩=some (.undef,⟨B,c+2,lo⟩):=up;have t2:CL B<=c+1:=by rw[t,Cg];exact t1
 have f2:AA B c=some (Gj FR JQ K0):=by rw[t,Fy rfl,f1];rfl
 have o2:∀p,p<c->AA B p=AA h p:=fun p b=>by rw[t,Bn (by omega),q,Ar (by omega)]
 have A2:Sc (c+2) B (.AL a 0) g F N D.ov .AO:=fun h' e=>R.auto h' .AO ((e a (by omega)).trans ((o2 a w).trans hA)) fun p b _=>(e p (by omega)).trans (o2 p b);obtain⟨S,U,eC⟩:=ZM (k:=k+2) (m:=c) (c:=c+2) (lo:=lo) R.TK (by omega) (by omega) A2 (zT g) (by simp[K0]) f2;obtain⟨h3,h4,n3,s3,f4,t4,a6⟩:=Ih (c:=c+1) (c':=c+2) (ty:=137) (sz:=3) (n:=3) (v:=Po S) (cs:=[Hr S,Hd S,.AO]) (zero:=[.AO,.AO,.AO]) t2 (lo:=lo) (by omega) rfl rfl rfl rfl;have o4:∀p,p<c->AA h4 p=AA h p:=fun p b=>(a6 p (by omega)).trans (o2 p b);have A4:kr h4 (.AL a 0) g F N D.ov .AO:=R.auto h4 .AO ((o4 a w).trans hA) fun p b _=>o4 p b;obtain⟨V,eN,f5,t5,P⟩:=Rs (k:=k+4) (c:=c+2) (lo:=lo) A4 (by omega) (by omega) o;have K:AA V (c+1)=some (.cells 137 3 [Hr S,Hd S,.AO] false):=by rw[P _ (by omega)];exact f4
 have s6:BM 1 (.AL (c+1) 2) (.AU (c+2) 0 g.AB.length (some g.AB.length)) ⟨V,c+2+1,lo⟩=some (.undef,⟨Ah V (c+1) (.cells 137 3 [Hr S,Hd S,.AU (c+2) 0 g.AB.length (some g.AB.length)] false),c+2+1,lo⟩):=by
  have L:lo<=c+1:=by omega
  rw[CE,K,CW];simp[AV.isTuple,AV.cells,L]
 obtain⟨l,d⟩:∃l,l=Ah V (c+1) (.cells 137 3 [Hr S,Hd S,.AU (c+2) 0 g.AB.length (some g.AB.length)] false):=⟨_,rfl⟩;rw[←d]at s6;have f6:AA l (c+1)=some (.cells 137 3 [Hr S,Hd S,.AU (c+2) 0 g.AB.length (some g.AB.length)] false):=by rw[d,Fy rfl,K];rfl
 have a4:AA l (c+2)=some (.cells 3 1 (DC (List.replicate g.AB.length (-1))) false):=by rw[d,Bn (by omega)];exact f5
 have o6:∀p,p<c->AA l p=AA h p:=fun p b=>by rw[d,Bn (by omega),P p (by omega)];exact o4 p b
 have t6:CL l<=c+3:=by rw[d,Cg];exact t5
 obtain⟨i,s⟩:∃i:Aa,i=(c+3,BJ.map [] [] [] 0)::l:=⟨_,rfl⟩;have n7:BA (c+3) (.map [] [] [] 0) ⟨l,c+4,lo⟩=some ⟨i,c+4,lo⟩:=by rw[s];exact BF t6
 have t7:CL i<=c+4:=by rw[s,Ay];omega
 have f7:AA i (c+3)=some (Gj AV.str fC []):=by rw[s,BV rfl];rfl
 have e7:∀p,p≠c+3->AA i p=AA l p:=fun p b=>by rw[s,Ar (Aj b)]
 have Z:Ak i (.AL (c+1) 0) 3=some [Hr S,Hd S,.AU (c+2) 0 g.AB.length (some g.AB.length)]:=by rw[Bv,e7 _ (by omega),f6];rfl
 have eK:=dC (k:=k+1) (v:=.agg [Hr S,Hd S,.AU (c+2) 0 g.AB.length (some g.AB.length)]) (to:=.AU (c+2) 0 g.AB.length (some g.AB.length)) (S:=S) (whole:=true) (st:=⟨i,c+4,lo⟩) ⟨Hr S,Hd S,rfl,fun h' _=>gH S,fun h' _=>kJ S⟩ U.2.1 (DV (U.1.valid.len hs) (by omega)) t7 rfl (dD hs U.1);have Q:=Ym (c:=c+4) (lo:=lo) (ev:=fC) YA f7 (by omega) (keyOf true S) 0;obtain⟨u,z⟩:∃u,u=Ah i (c+3) (Gj AV.str fC (Iw [] (keyOf true S) 0)):=⟨_,rfl⟩;rw[←z]at Q;have I:FL (.one .str) (.Cq (c+3)) (.str (keyOf true S)) (.int .i64 0) ⟨i,c+4,lo⟩=some (.undef,⟨u,c+4,lo⟩):=Q;have Y:∀p,p≠c+3->AA u p=AA l p:=fun p b=>by rw[z,Bn (Aj b)];exact e7 p b
 have t8:CL u<=c+4:=by rw[z,Cg];exact t7
 have a5:Ak u (.AL (c+1) 0) 3=some (KP g.AB.length ⟨S,c+2,List.replicate g.AB.length (-1)⟩):=by rw[Bv,Y _ (by omega),f6];rfl
 have bs:BC (c+4) 137 3 1 [.AO,.AO,.AO] [0] [.agg (KP g.AB.length ⟨S,c+2,List.replicate g.AB.length (-1)⟩)]=some (.AU (c+4) 0 1 (some 1),.cells 137 3 (KP g.AB.length ⟨S,c+2,List.replicate g.AB.length (-1)⟩) false):=rfl;obtain⟨A,r⟩:∃A:Aa,A=(c+4,BJ.cells 137 3 (KP g.AB.length ⟨S,c+2,List.replicate g.AB.length (-1)⟩) false)::u:=⟨_,rfl⟩;have n9:BA (c+4) (.cells 137 3 (KP g.AB.length ⟨S,c+2,List.replicate g.AB.length (-1)⟩) false) ⟨u,c+5,lo⟩=some ⟨A,c+5,lo⟩:=by rw[r];exact BF t8
 have W:∀p,p<c+4->AA A p=AA u p:=fun p b=>by rw[r,Ar (by omega)]
 have T:AA A a=some (.cells 81 6 (D.cells .AO) false):=by rw[W a (by omega),Y a (by omega),o6 a w];exact hA
 have a1:BM 1 (.AL a 5) (.AU (c+4) 0 1 (some 1)) ⟨A,c+5,lo⟩=some (.undef,⟨Ah A a (.cells 81 6 (D.cells (.AU (c+4) 0 1 (some 1))) false),c+5,lo⟩):=by rw[CE,T,CW];simp[AV.isTuple,AV.cells,J,AH.cells,Bl]
 have S0:Vb g a c (c+3) h D (.AU (c+4) 0 1 (some 1)) [⟨S,c+2,List.replicate g.AB.length (-1)⟩] (Iw [] (keyOf true S) 0) ⟨Ah A a (.cells 81 6 (D.cells (.AU (c+4) 0 1 (some 1))) false),c+5,lo⟩:=by
  refine⟨by show CL (Ah _ _ _)<=c+5;rw[Cg,r,Ay];omega,by show c<=c+5;omega,w,J,fun p b a0=>?_,by show AA (Ah _ _ _) _=_;rw[Fy rfl,T];rfl,?_,fun x f=>?_,fun p b=>?_,by simp,?_,by omega,fun x f=>?_,fun x f j hj=>?_⟩
  ·show AA (Ah _ _ _) _=_;rw[Bn (Aj a0),W p (by omega),Y p (by omega)];exact o6 p b
  ·have:=Gq.ob (enc:=KP g.AB.length) (ty:=137) (sz:=3) (h:=Ah A a (.cells 81 6 (D.cells (.AU (c+4) 0 1 (some 1))) false)) (c+4) [⟨S,c+2,List.replicate g.AB.length (-1)⟩] [] false (some 1) (by rw[Bn (by omega),r,BV rfl];simp) (.inr ⟨0,rfl,rfl⟩);exact this
  ·simp only[Di]at f;subst f;refine⟨?_,by simp,by show c<=c+2;omega,?_,by show c+2≠c+3;omega⟩
   ·show AA (Ah _ _ _) _=_;rw[Bn (by show a≠c+2;omega),W _ (by show c+2<c+4;omega),Y _ (by show c+2≠c+3;omega)];exact a4
   ·intro e;have:c+4=c+2:=by simpa [Az]using e
    omega
  ·have:c+4=p:=by simpa [Az]using b
   omega
  ·show AA (Ah _ _ _) _=_;rw[Bn (by omega),W _ (by omega),z,Fy rfl,f7];rfl
  ·simp only[Di]at f;subst f;exact⟨U.1,U.2.1⟩
  ·simp only[Di]at f;subst f;have:=(QV.1 hj).2;subst this;constructor<;>simp
 have a3:Bp [AV.int .i64 0,.int .i64 0] [(0,1),(1,1)] [.int .i64 (-1),.int .i64 0]=some [.int .i64 (-1),.int .i64 0]:=rfl;have goal:((Bc E (Ab E (k+5)) C.f99.body (TS.FK [.AL a 0] 0 .nil) ⟨h,c,lo⟩).bind (Al C.f99.results)).to fun x=>x.1=.bool false∨(x.1=.bool true/\pQ g a c h D lo x.2):=by
  simp[C.f99,n1,a3,a2,eC,n3,s3,eN,s6,n7,Z,eK,I,a5,bs,n9,a1];refine M.BG (AAr (k:=k) (lo0:=lo) R S0 (fun y hy=>by
   have:y.2=0:=by simp only[Iw,Di]at hy;rw[hy]
   simp[this]) (by simp) (by simp) rfl _ (by simp) (by simp) (by simp)) fun x f=>?_
  obtain⟨e,a8,a7⟩:=x;rcases f with⟨rfl,y2⟩|⟨rfl,Fi⟩
  ·simp only at y2;simp[y2,Al,results,Af]
  ·simp only at Fi;simp[Al,results,Af];exact Fi
 exact goal
theorem iR{β:Type}{M:List (Bz×β)}{k:Bz}{v:β}(h:IE M k=some v):(k,v)∈M:=by
 induction M with
 |nil=>cases h
 |cons y M b=>
  obtain⟨a,w⟩:=y;unfold IE at h;split at h
  ·rename_i e;cases h;subst e;simp
  ·exact Cu _ (b h)
structure bK (f:Nat->Bz)(i:Nat)(KM:List (Bz×Nat))(O:List Nat):Prop where
 len:O.length=i
 get:∀j (hj:j<O.length),IE KM (f j)=some O[j]
 num:∀v (hv:v<KM.length),KM[v].2=v
 nod:(KM.map (·.1)).Nodup
 from_:∀y∈KM,∃j,j<i/\f j=y.1
theorem bK.Ai{f:Nat->Bz}:bK f 0 [] []:=⟨rfl,fun j a=>by simp at a,fun v b=>by simp at b,by simp,by simp⟩
theorem bK.lt{f:Nat->Bz}{i j:Nat}{a:List (Bz×Nat)}{O:List Nat}(G:bK f i a O)(d:j<O.length):O[j]<a.length/\∃h:O[j]<a.length,a[O[j]].1=f j:=by have g:=iR (G.get j d);obtain⟨v,b,e⟩:=Du g;have c:=G.num v b;rw[e]at c;simp only at c;rw[c];exact⟨b,b,by rw[e]⟩
theorem bK.CY{f:Nat->Bz}{i n:Nat}{b:List (Bz×Nat)}{O:List Nat}(G:bK f i b O)(h:IE b (f i)=some n):bK f (i+1) b (O++[n]):=by
 refine⟨by rw[Bd,G.len];rfl,fun j c=>?_,G.num,G.nod,fun y d=>?_⟩
 ·by_cases a:j<O.length
  ·rw[IX a];exact G.get j a
  ·have:j=O.length:=by rw[Bd,Fq]at c;omega
   subst this;rw[Oq (Ao _)];simp only[Nat.sub_self,NU];rw[G.len];exact h
 ·obtain⟨j,e,a⟩:=G.from_ y d;exact⟨j,by omega,a⟩
theorem bK.new{f:Nat->Bz}{i:Nat}{a:List (Bz×Nat)}{O:List Nat}(G:bK f i a O)(h:IE a (f i)=none):bK f (i+1) (a++[(f i,a.length)]) (O++[a.length]):=by
 have g:=QG.1 h;have d:=QD (v:=a.length) g;refine⟨by rw[Bd,G.len];rfl,fun j k=>?_,fun v l=>?_,?_,fun y m=>?_⟩
 ·rw[←d,Ry];by_cases b:j<O.length
  ·rw[IX b,AJ,G.get j b];intro e;have:=G.get j b;rw[e,h]at this;cases this
  ·have:j=O.length:=by rw[Bd,Fq]at k;omega
   subst this;rw[Oq (Ao _)];simp only[Nat.sub_self,NU];rw[G.len,AX rfl]
 ·by_cases b:v<a.length
  ·rw[IX b];exact G.num v b
  ·have:v=a.length:=by rw[Bd,Fq]at l;omega
   subst this;rw[Oq (Ao _)];simp
 ·rw[←d];exact Vn G.nod
 ·rcases Ca.1 m with c|c
  ·obtain⟨j,b,n⟩:=G.from_ y c;exact⟨j,by omega,n⟩
  ·simp only[Di]at c;subst c;exact⟨i,by omega,rfl⟩
theorem bK.AFS{f:Nat->Bz}{i v:Nat}{a:List (Bz×Nat)}{O:List Nat}(G:bK f i a O)(b:v<a.length):∃j,∃h:j<O.length,O[j]=v:=by
 obtain⟨j,k,e⟩:=G.from_ _ (BH b);have c:j<O.length:=by rw[G.len];exact k
 refine⟨j,c,?_⟩;have d:=G.get j c;have g:IE a (f j)=some a[v].2:=(Rz G.nod).2 (by rw[e];exact BH b);rw[g,G.num v b]at d;exact (JK d).symm
theorem bK.same{f:Nat->Bz}{i j l:Nat}{g:List (Bz×Nat)}{O:List Nat}(G:bK f i g O)(a:j<O.length)(b:l<O.length)(e:O[j]=O[l]):f j=f l:=by obtain⟨_,h,c⟩:=G.lt a;obtain⟨_,k,d⟩:=G.lt b;rw[←c,←d];congr 2
structure GM (c:Nat)(h0:Aa)(KM:List (Bz×Nat))(w:AV)(O:List Nat)(st:St):Prop where
 lo:st.lo=c
 c1:c+1<=st.c
 tp:CL st.h<=st.c
 CY:∀p,p<c->AA st.h p=AA h0 p
 map:AA st.h c=some (Gj AV.str fC KM)
 out:Gq st.h 3 1 Fx w O
 own:∀p,Az w=some p->c+1<=p
 opn:Opn w
theorem GM.grow{c a b:Nat}{i h f:Aa}{g:List (Bz×Nat)}{w:AV}{O:List Nat}(H:GM c i g w O ⟨h,a,c⟩)(l:a<=b)(k:CL f<=b)(e:∀p,p<a->AA f p=AA h p):GM c i g w O ⟨f,b,c⟩:=by have m:c+1<=a:=H.c1;have j:CL h<=a:=H.tp;exact⟨rfl,by show c+1<=b;omega,k,fun p d=>(e p (by omega)).trans (H.CY p d),(e c (by omega)).trans H.map,H.out.heap fun p d=>e p (Bt (H.out.lt d) j),H.own,H.opn⟩
theorem GM.put{c g:Nat}{f h:Aa}{d:List (Bz×Nat)}{w:AV}{O:List Nat}(H:GM c f d w O ⟨h,g,c⟩)(a:List (Bz×Nat)):GM c f a w O ⟨Ah h c (Gj AV.str fC a),g,c⟩:=by have i:AA h c=some (Gj AV.str fC d):=H.map;exact⟨rfl,H.c1,by show CL (Ah _ _ _)<=_;rw[Cg];exact H.tp,fun p b=>(Bn (by omega)).trans (H.CY p b),by show AA (Ah _ _ _) _=_;rw[Fy rfl,i];rfl,H.out.heap fun p b=>Bn fun e=>by have:=H.own p b;omega,H.own,H.opn⟩
theorem GM.push{c c1:Nat}{g h:Aa}{i:List (Bz×Nat)}{w:AV}{O:List Nat}(H:GM c g i w O ⟨h,c1,c⟩)(n:Nat)(r:O.length<2^20) :
 BC c1 3 1 1 [.int .i64 0] [0] [.int .i64 (n:Int)]=some (.AU c1 0 1 (some 1),.cells 3 1 (Fx n) false)/\∃d a b,BA c1 (.cells 3 1 (Fx n) false) ⟨h,c1+2,c⟩=some ⟨d,c1+2,c⟩/\Bq (c1+1) 3 1 8 w (.AU c1 0 1 (some 1)) ⟨d,c1+2,c⟩=some (a,⟨b,c1+2,c⟩)/\GM c g i a (O++[n]) ⟨b,c1+2,c⟩:=by
 have z:c+1<=c1:=H.c1;have t:CL h<=c1:=H.tp;obtain⟨o,d,a,b,s,l,G,m,j,u,y⟩:=JE (c':=c1+2) (bytes:=8) (zero:=[.int .i64 0]) (v:=.int .i64 (n:Int)) (x:=n) (enc:=Fx) (sz:=1) (fun _=>rfl) (by omega) H.out t (lo:=c) (fun p k=>by have:=H.own p k;omega) rfl rfl rfl r (by omega);refine⟨o,d,a,b,s,l,rfl,by show c+1<=c1+2;omega,m,fun q f=>(j q (by omega) fun e=>by have:=H.own q e;omega).trans (H.CY q f),(j c (by omega) fun e=>by have:=H.own _ e;omega).trans H.map,G,fun q f=>?_,y H.opn⟩;rcases u q f with e|e
 ·omega
 ·exact H.own q e
theorem mI:∀A:List Nat,rows 1 A.length (A.flatMap Fx)=BI A
 |[]=>rfl
 |p::P=>by have a:=mI P;show _::rows 1 P.length _=_;show _=AV.int .i64 (p:Int)::BI P;congr 1
theorem bg(c:Nat):∀A:List Nat,AV.Dq c (A.flatMap Fx)=true
 |[]=>rfl
 |p::P=>by have a:=bg c P;show AV.Dq c (.int .i64 (p:Int)::P.flatMap Fx)=true;simp[AV.Dq,AV.CY,a]
theorem nV{k a c lo a3 b0:Nat}{h h0:Aa}{D:AH}{g:Ac}{A:AV}{X:List Row}{b2:List (Bz×Nat)}(hs:g.Small)(S:Vb g a b0 a3 h0 D A X b2 ⟨h,c,lo⟩)(hX:X.length<=2000)(b5:0<X.length) :
 ∃b O,bK (fun j=>keyOf false (X.getD j ⟨[],0,[]⟩).S) X.length b O/\Ab E (k+5) 156 [.AL a 0] ⟨h,c,lo⟩=.ret (.tuple [.list false 1 (BI O),.int .i64 (b.length:Int)],⟨h,c,lo⟩):=by
 have b6:=S.ab;have b4:b0<=c:=S.bc;have tp:CL h<=c:=S.tp;have a2:∀p,Az A=some p->p<c:=fun p y=>Bt (S.Xz.lt y) tp;have HX:qi c h 3 (KP g.AB.length) A X:=qi.gs S.Xz (fun _=>rfl) a2;rw[FD (fn:=C.f156) rfl rfl rfl,Ap (by simp)];have r5:AQ h (.AL a 5)=some A:=by rw[BB,S.auto];rfl
 obtain⟨u,s⟩:∃u:Aa,u=(c,BJ.map [] [] [] 0)::h:=⟨_,rfl⟩;have n1:BA c (.map [] [] [] 0) ⟨h,c+1,c⟩=some ⟨u,c+1,c⟩:=by rw[s];exact BF tp
 have a7:AQ u (.AL a 5)=some A:=by rw[BB,s,Ar (by omega),←BB];exact r5
 have G0:GM c h [] .AO [] ⟨u,c+1,c⟩:=⟨rfl,Ao _,by show CL u<=c+1;rw[s,Ay];omega,fun p y=>by show AA u p=_;rw[s,Ar (by omega)],by show AA u c=_;rw[s,BV rfl];rfl,.nl,fun p y=>(by cases y),fun id n q e=>(by cases e)⟩;have sl:∀st:St,BZ .slice A st=some (.int .i64 (X.length:Int),st):=fun st=>S.Xz.BZ st;have loop:∀t:TS,t.get 4=.Cq c->t.get 5=.AO->t.get 15=A->t.get 16=.int .i64 (X.length:Int)->t.get 17=.int .i64 0->(Dm (Bc E (Ab E (k+4)) C.f156L0) E.k t ⟨u,c+1,c⟩).to fun x=>x.1=.exit 0/\x.2.1.get 4=.Cq c/\∃b w O,x.2.1.get 5=w/\GM c h b w O x.2.2/\bK (fun j=>keyOf false (X.getD j ⟨[],0,[]⟩).S) X.length b O:=by
  intro t L N r m o;refine Cy (fun (i:Nat) t st=>i<=X.length/\Has t [(4,.Cq c),(15,A),(16,.int .i64 (X.length:Int)),(17,.int .i64 (i:Int))]/\∃b w O,t.get 5=w/\GM c h b w O st/\bK (fun j=>keyOf false (X.getD j ⟨[],0,[]⟩).S) i b O)
   (fun i=>X.length-i) ?_ _ 0 _ _ ?_ ?_
  ·clear L N r m o G0;rintro i t ⟨z,f,a5⟩ ⟨hi,Q,b,w,O,N,l,K⟩;simp only[Be,CG,BX]at Q;obtain⟨L,r,m,o⟩:=Q;have d:=l.lo.symm;simp only at d;subst d;have b8:c+1<=f:=l.c1;have b3:CL z<=f:=l.tp;by_cases Bi:i<X.length
   ·obtain⟨q,a1,b1⟩:=(HX z l.CY).at_ i Bi;have J:=b1.all;rw[show (KP g.AB.length X[i]).length=3 from rfl]at J;have R:∀cc,AY 3 A (.int .i64 (i:Int)) ⟨z,cc,c⟩=some (q,⟨z,cc,c⟩):=fun cc=>a1 _ rfl;obtain⟨h3,I,n3,s3,f4,t4,a9⟩:=Ih (c':=f+1) (ty:=137) (sz:=3) (n:=3) (v:=.agg (KP g.AB.length X[i])) (cs:=KP g.AB.length X[i]) (zero:=[.AO,.AO,.AO]) b3 (lo:=c) (by omega) rfl rfl rfl rfl;have U:GM c h b w O ⟨I,f+1,c⟩:=l.grow (by omega) t4 fun p y=>a9 p (by omega);have P:Ak I (.AL f 0) 3=some (KP g.AB.length X[i]):=by rw[Bv,f4];rfl
    obtain⟨y,a0⟩:=S.wS _ (BH Bi);have eK:=dC (k:=k) (v:=.agg (KP g.AB.length X[i])) (to:=.AU X[i].id 0 g.AB.length (some g.AB.length)) (S:=X[i].S) (whole:=false) (st:=⟨I,f+1,c⟩) ⟨Hr X[i].S,Hd X[i].S,rfl,fun h' _=>gH _,fun h' _=>kJ _⟩ a0 (DV (y.valid.len hs) (by omega)) t4 rfl (dD hs y);have H:(X.getD i ⟨[],0,[]⟩).S=X[i].S:=by simp[List.getD,Bi]
    have W:FT (.one .str) (.int .i64 0) true (.Cq c) (.str (keyOf false X[i].S)) ⟨I,f+1,c⟩=some (.tuple [((IE b (keyOf false X[i].S)).map fC).getD (.int .i64 0),.bool (IE b (keyOf false X[i].S)).isSome],⟨I,f+1,c⟩):=iP (c:=f+1) (lo:=c) YA U.map (keyOf false X[i].S);have T:O.length<2^20:=by rw[K.len];omega
    cases hk:IE b (keyOf false X[i].S) with
    |some n=>rw[hk]at W;obtain⟨p1,Y,w',h6,p2,Z,V⟩:=U.push n T;have B:=K.CY (n:=n) (by simp only[H];exact hk);simp[C.f156L0,L,N,r,m,o,Bi,R,J,n3,s3,P,eK,W,fC,p1,p2,Z,wi i];exact⟨i+1,by omega,by omega,by simp,b,_,V,B⟩
    |none=>rw[hk]at W;have kl:=nL (c:=f+1) (lo:=c) U.map;have up:=Ym (c:=f+1) (lo:=c) (ev:=fC) YA U.map (Ao _) (keyOf false X[i].S) b.length;have V:=U.put (Iw b (keyOf false X[i].S) b.length);obtain⟨Y,a8⟩:∃Y,Y=Ah I c (Gj AV.str fC (Iw b (keyOf false X[i].S) b.length)):=⟨_,rfl⟩;rw[←a8]at V up;have a4:FL (.one .str) (.Cq c) (.str (keyOf false X[i].S)) (.int .i64 (b.length:Int)) ⟨I,f+1,c⟩=some (.undef,⟨Y,f+1,c⟩):=up;obtain⟨p1,h6,w',h7,p2,Z,G4⟩:=V.push b.length T;have B:=K.new (by simp only[H];exact hk);simp only[H]at B;rw[QD (QG.1 hk)]at G4;simp[C.f156L0,L,N,r,m,o,Bi,R,J,n3,s3,P,eK,W,kl,a4,p1,p2,Z,wi i];exact⟨i+1,by omega,by omega,by simp,_,_,G4,B⟩
   ·have:i=X.length:=by omega
    subst this;simp[C.f156L0,L,N,m,o];exact⟨b,O,l,K⟩
  ·exact FX (by show X.length-0<1000000;omega)
  ·exact⟨by omega,by simp[L,r,m,o],[],.AO,[],N,G0,bK.Ai⟩
 have goal:(((Bc E (Ab E (k+4)) C.f156.body (TS.FK [.AL a 0] 0 .nil) ⟨h,c,c⟩).bind (Al C.f156.results)).bind (BU c ⟨h,c,lo⟩)).to fun x=>∃b O,bK (fun j=>keyOf false (X.getD j ⟨[],0,[]⟩).S) X.length b O/\x=(.tuple [.list false 1 (BI O),.int .i64 (b.length:Int)],⟨h,c,lo⟩):=by
  simp[C.f156,n1,a7,sl];refine M.BG (loop _ (by simp) (by simp) (by simp) (by simp) (by simp)) fun x hx=>?_;obtain⟨e,b7,⟨z,f,a5⟩⟩:=x;obtain⟨rfl,y4,b,w,O,y5,l,K⟩:=hx;simp only at y4 y5 l;have d:=l.lo.symm;simp only at d;subst d;have kl:=nL (c:=f) (lo:=c) l.map;have F:O≠[]:=fun e=>by have:=K.len;rw[e]at this;simp at this;omega
  have tw:∀n,Ce c z (n+2) w=some (.list false 1 (BI O)):=fun n=>by have:=Xw (c:=c) (n:=n) (el:=fun n:Nat=>AV.int .i64 (n:Int)) l.out (fun _=>rfl) (by omega) l.opn F (fun p y=>by have:=l.own p y;omega) (bg _ _) (mI _);exact this
  have a6:w.CY c=false:=by
   rcases l.out.mi with⟨_,e⟩|⟨id,cap,e⟩
   ·exact absurd e F
   ·have:=l.own id (by rw[e];rfl);rw[e];simp[AV.CY,blt_eq];omega
  have th:Ce c z Ck (.tuple [w,.int .i64 (b.length:Int)])=some (.tuple [.list false 1 (BI O),.int .i64 (b.length:Int)]):=by
   show Ce c z (63+1) _=_;unfold Ce;have e1:AV.CY c (.tuple [w,.int .i64 (b.length:Int)])=false:=by simp[AV.CY,AV.Dq,a6]
   rw[e1,Bj];have e2:Ce c z 63 (.int .i64 (b.length:Int))=some (.int .i64 (b.length:Int)):=FH rfl;simp only[DD,tw 61,e2]
  simp[y4,y5,kl,Al,results,Af,BU,th];exact⟨b,O,K,rfl,rfl⟩
 obtain⟨x,e,b,O,u,rfl⟩:=goal;exact⟨b,O,u,e⟩
end Go.Am
