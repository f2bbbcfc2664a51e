/- A part of tablesStay. -/
import Derived.Test.YthnghmpbgomacaaGreatDoorQA
set_option maxHeartbeats 8000000
namespace Go.Am
 attribute [local irreducible] bigK
open Go
theorem ADG{α:Type}{enc:α->List AV}{sz i j:Nat}(a:∀x,(enc x).length=sz){L:List α}(b:i<L.length)(g:j<sz){y:α}{v:AV}(d:enc y=(enc L[i]).set j v)(rest:List AV):(L.flatMap enc++rest).set (i*sz+j) v=(L.set i y).flatMap enc++rest:=by
 obtain⟨c,e⟩:=Uv a b;have h:=a L[i];have f:(L.set i y).flatMap enc=(L.take i).flatMap enc++(enc y++(L.drop (i+1)).flatMap enc):=by rw[NY,AX b,KH,Cn]
 rw[c,f,d,Hz,QZ _ _ (by omega),e,show i*sz+j-i*sz=j by omega,Hz,List.set_append_left _ _ (by omega)];simp only[Hz]
theorem Rb.at_{c lo m p n i:Nat}{f h:Aa}{w:AV}(H:Rb c lo m f w ⟨h,p,lo⟩)(j:CV w=some n)(b:i<n) :
 ∃id s,(∀a,AY 5 w (.int .i64 (i:Int)) ⟨h,a,lo⟩=some (.AL id (i*5),⟨h,a,lo⟩))/\AQ h (.AL id (i*5))=some (.int .i64 ((s:Nat):Int))/\s<m:=by
 obtain⟨L,G,_,_,l⟩:=H;have g:Gq h 49 5 Rh w L:=G.g;have e:n=L.length:=by have:=g.len;rw[j,Ct]at this;exact this
 subst e;obtain⟨id,cap,k,d⟩:=g.idx b;refine⟨id,L[i].s,fun a=>d _ rfl,?_,(l _ (BH b)).1⟩;have o:=Gq.cells (enc:=Rh) (sz:=5) (fun _=>rfl) (k▸g) b;have:=o.zero (by simp[Rh]);rw[this];rfl
theorem Rb.AHA{c f m u n i:Nat}{P h:Aa}{w o:AV}(H:Rb c f m P w ⟨h,u,f⟩)(hn:CV w=some n)(F:i<n)(U:WS h c 9 1 o) :
 ∃id k,(∀b,AY 5 w (.int .i64 (i:Int)) ⟨h,b,f⟩=some (.AL id (i*5),⟨h,b,f⟩))/\(∀b,BM 1 (.AL id (i*5+4)) o ⟨h,b,f⟩=some (.undef,⟨k,b,f⟩))/\Rb c f m P w ⟨k,u,f⟩:=by
 obtain⟨L,G,_,hl,S⟩:=H;have g:Gq h 49 5 Rh w L:=G.g;have e:n=L.length:=by have:=g.len;rw[hn,Ct]at this;exact this
 subst e;obtain⟨id,cap,Y,e2⟩:=g.idx F;have own:=G.own id (by rw[Y];rfl);have N:f<=c:=G.lo;have tp:CL h<=u:=G.tp;have d:=U.one;subst Y;have R:=g;generalize q:AV.AU id 0 L.length cap=w at R;cases R with
 |nl=>cases q
 |ob a0 _ rest ext O V hc=>
  cases q;have s:(L.flatMap Rh++rest).length=L.length*5+rest.length:=by rw[Bd,Ib (sz:=5) (fun _=>rfl)]
  obtain⟨y,W⟩:∃y:Cf,y={ L[i]with w:=o }:=⟨_,rfl⟩;have D:=ADG (enc:=Rh) (sz:=5) (fun _=>rfl) F (j:=4) (by omega) (y:=y) (v:=o) (by rw[W];rfl) rest;have Z:i*5+4<(L.flatMap Rh++rest).length:=by rw[s];omega
  have B:∀b,BM 1 (.AL id (i*5+4)) o ⟨h,b,f⟩=some (.undef,⟨Ah h id (.cells 49 5 ((L.set i y).flatMap Rh++rest) ext),b,f⟩):=fun b=>by
   rw[CE,V,CW];have e:Bl (L.flatMap Rh++rest) (i*5+4) [o]=(L.set i y).flatMap Rh++rest:=by rw[←D,NY,AX Z];unfold Bl;simp
   rw[AX ⟨d.1,by rw[d.2];rfl⟩,d.2,AX ⟨by omega,by simp only[Fq];omega⟩,e]
  obtain⟨k,l⟩:∃k,k=Go.Am.Ah h id (.cells 49 5 ((L.set i y).flatMap Rh++rest) ext):=⟨_,rfl⟩;have T:∀p,p≠id->AA k p=AA h p:=fun p t=>by rw[l,Bn (Aj t)]
  have ff:AA k id=some (.cells 49 5 ((L.set i y).flatMap Rh++rest) ext):=by rw[l,Fy rfl,V];rfl
  refine⟨id,k,fun b=>e2 _ rfl,fun b=>by rw[l];exact B b,L.set i y,⟨N,G.c1,by show CL k<=u;rw[l,Cg];exact tp,fun p t=>(T p (by omega)).trans (G.CY p t),?_,G.own⟩,rfl,by simpa using hl,fun x I=>?_⟩
  ·have:=Gq.ob (enc:=Rh) id (L.set i y) rest ext cap ff (by simpa using hc);simpa using this
  ·have a:∀{z sz:Nat} {r:AV},WS h c z sz r->z≠49->WS k c z sz r:=fun {z sz r} H A=>H.heap fun p t=>T p fun e=>by subst e;exact (H.ne g A t) rfl
   rcases Kr I with I|rfl
   ·obtain⟨J,K,Q⟩:=S x I;exact⟨J,a K (by decide),a Q (by decide)⟩
   ·obtain⟨J,K,Q⟩:=S _ (BH F);rw[W];exact⟨J,a K (by decide),a U (by decide)⟩
def AGI(c lo m:Nat)(h0:Aa)(v:AV)(x:KN×TS×St):Prop:=
 (x.1=.ret/\x.2.1.get 6=.AO/\(∃e:Int,x.2.1.get 7=.int .i64 e)/\FrD c lo h0 x.2.2)∨(x.1=.exit 0/\x.2.1.get 8=v/\CfT c lo m h0 (x.2.1.get 10) x.2.2)
theorem tQ{k c lo:Nat}{L:Aa}{Q I K S T ss:AV}{J:List AV}{g:Ac}{F O:List Nat}{N:List Bool}{Z:List VZ}(A:JN (.CB [Q,I,K,S,T,ss]) g F N O Z)(a0:Co ss 3 J)(a5:J.length=Z.length)(hz:∀i (hi:i<Z.length),∃x,J[i]? =some x/\zi x Z[i])(U:lo<=c){st:St}(C0:CfT c lo Z.length L .AO st)(f:TS)(R:f.get 2=.fn (.func 26) [] [])(t:f.get 8=.CB [Q,I,K,S,T,ss])(y:f.get 10=.AO)(l:f.get 34=ss)(a:f.get 35=.int .i64 (Z.length:Int))(b:f.get 36=.int .i64 0) :
 (Dm (Bc E (Ab E (k+3)) C.f25L0) E.k f st).to (AGI c lo Z.length L (.CB [Q,I,K,S,T,ss])):=by
 have a3:=A.xC;generalize hv:AV.CB [Q,I,K,S,T,ss]=v at *
 refine Cy (fun (i:Nat) f st=>i<=Z.length/\Has f [(2,.fn (.func 26) [] []),(8,v),(34,ss),(35,.int .i64 (Z.length:Int)),(36,.int .i64 (i:Int))]/\CfT c lo Z.length L (f.get 10) st)
  (fun i=>Z.length-i) ?_ _ 0 _ _ ?_ ?_
 ·clear R t y l a b C0;rintro i f ⟨h,d,a6⟩ ⟨hi,D,u,r⟩;have m:=u.ng.1.symm;simp only at m;subst m;simp only[Be,CG,BX]at D;obtain⟨R,t,l,a,b⟩:=D;generalize hw:f.get 10=w at u r;have tp:CL h<=d:=u.ng.2.1;have a8:c<=d:=u.ng.2.2.1;by_cases Bi:i<Z.length
  ·obtain⟨zv,e1,q,o,s,rfl⟩:=hz i Bi;have Y:=A.zok _ (BH Bi);have B:i<J.length:=by omega
   have a1:∀st:St,AY 3 ss (.int .i64 (i:Int)) st=some (.CB [.list q 2 (Z[i].P.map FR),.list o 1 (Z[i].A.map JQ),.list s 1 (DC Z[i].row)],st):=fun st=>by rw[a0.idx B];rw[Bu B,Ct]at e1;rw[e1];rfl
   obtain⟨h1,h2,n1,s1,f2,t2,W⟩:=Ih (c':=d+1) (ty:=137) (sz:=3) (n:=3) (v:=.agg [.list q 2 (Z[i].P.map FR),.list o 1 (Z[i].A.map JQ),.list s 1 (DC Z[i].row)]) (cs:=[.list q 2 (Z[i].P.map FR),.list o 1 (Z[i].A.map JQ),.list s 1 (DC Z[i].row)]) (zero:=[.AO,.AO,.AO]) tp (lo:=lo) (by omega) rfl rfl rfl rfl;obtain⟨bw,eB,z⟩:=jo (k:=k+2) (c:=d+1) (lo:=lo) A t2;have bl:∀st:St,BZ .slice bw st=some (.int .i64 ((bitsOf g).length:Int),st):=fun st=>by have:=z.len (st:=st);simpa using this
   have C2:CfT c lo Z.length L w ⟨h2,d+1,lo⟩:=⟨u.grow (by omega) t2 fun p hp=>W p (by omega),r⟩;simp[C.f25L0,t,l,a,b,Bi,a1,n1,s1,eB,bl];refine M.BG (tO (k:=k) (c:=c) (d:=d) (lo:=lo) (si:=i) (ss:=ss) A Y z Bi U C2 f2 _ (by simp[R]) (by simp[t]) (by simp[hw]) (by simp) (by simp) (by simp[l]) (by simp[a]) (by simp[b]) (by simp) (by simp) (by simp)) fun x hx=>?_;obtain⟨e,a9,a7⟩:=x;rcases hx with⟨rfl,y6,⟨e,y7⟩,H⟩|⟨rfl,j,C3⟩
   ·simp only at y6 y7 H;simp;exact .inl ⟨rfl,y6,⟨e,y7⟩,H⟩
   ·simp only at j C3;simp only[Be,CG,BX]at j;obtain⟨y2,y8,a2,V,a4⟩:=j;simp[y2,y8,a2,V,a4,wi i];exact⟨i+1,by omega,by omega,by simp,C3⟩
  ·have:i=Z.length:=by omega
   subst this;simp[C.f25L0,a,b];exact .inr ⟨rfl,by simp[t],by simpa [hw]using ⟨u,r⟩⟩
 ·exact FX (by show Z.length-0<1000000;omega)
 ·exact⟨by omega,by simp[R,t,l,a,b],by rw[y];exact C0⟩
def AGH(c lo m:Nat)(h0:Aa)(x:KN×TS×St):Prop:=
 (x.1=.ret/\x.2.1.get 6=.AO/\(∃e:Int,x.2.1.get 7=.int .i64 e)/\FrD c lo h0 x.2.2)∨(x.1=.exit 4/\Rb c lo m h0 (x.2.1.get 10) x.2.2)
theorem tN{k c lo n:Nat}{h0:Aa}{v aw lw xw w:AV}{g:Ac}{F O L:List Nat}{N:List Bool}{Z:List VZ}{xs ys:List AV}(A:JN v g F N O Z)(a2:Co lw 1 (BI L))(a4:Co xw 1 xs)(hL:L.length=g.AB.length)(a8:∀s,s<L.length->L.getD s 0<=2199023255552)(a3:xs.length=g.AB.length)(hx:∀s,s<g.AB.length->∃u m,xs[s]? =some u/\Co u 1 (BI m)/\(∀x∈m,x<g.AB.length)/\m.length<=L.getD s 0)(a1:Co aw 1 ys)(b3:ys.length=Z.length)(hy:∀i,i<Z.length->∃u l,ys[i]? =some u/\Co u 1 (BI l)/\(∀s∈l,s<g.AB.length)/\l.length<=2000)(b1:lo<=c){y:St}(C0:Rb c lo Z.length h0 w y)(P:CV w=some n)(hn:n<=5001)(o:TS)(Y:o.get 8=v)(a:o.get 10=w)(q:o.get 18=aw)(f:o.get 19=lw)(j:o.get 20=xw)(d:o.get 88=.int .i64 (n:Int))(b:o.get 89=.int .i64 0) :
 (Dm (Bc E (Ab E (k+2)) C.f25L2) E.k o y).to (AGH c lo Z.length h0):=by
 refine Cy (fun (i:Nat) o y=>i<=n/\Has o [(8,v),(10,w),(18,aw),(19,lw),(20,xw),(88,.int .i64 (n:Int)),(89,.int .i64 (i:Int))]/\Rb c lo Z.length h0 w y)
  (fun i=>n-i) ?_ _ 0 _ _ ?_ ?_
 ·clear Y a q f j d b C0;rintro i o ⟨h,U,b4⟩ ⟨hi,J,B⟩;have z:=B.ng.1.symm;simp only at z;subst z;simp only[Be,CG,BX]at J;obtain⟨Y,a,q,f,j,d,b⟩:=J;have tp:CL h<=U:=B.ng.2.1;have b2:c<=U:=B.ng.2.2.1;by_cases Bi:i<n
  ·obtain⟨id,s,R,W,hs⟩:=B.at_ P Bi;obtain⟨u,l,q1,q2,q3,q4⟩:=hy s hs;have H:s<ys.length:=by omega
   have V:∀y:St,AY 1 aw (.int .i64 (s:Int)) y=some (.CB [u],y):=fun y=>by
    rw[a1.idx H];rw[Bu H,Ct]at q1;rw[q1];have:u.cells=[u]:=by rcases q2.out with⟨rfl,_⟩|⟨t,rfl⟩<;>rfl
    rw[this]
   obtain⟨⟨x1,a0⟩,eW,w2,e,T,S⟩:=lH (k:=k) (c:=U) (lo:=lo) (h:=h) A q2 a2 a4 q3 q4 hL a8 a3 hx tp (by omega);simp only at T S;subst T;obtain⟨LS,GS,a9,r⟩:=S;obtain⟨D,c2,K⟩:=a0;simp only at r;subst r;have a7:U<=c2:=GS.c1;have t2:CL D<=c2:=GS.tp;have a5:∀p,p<U->AA D p=AA h p:=GS.CY;have C2:Rb c K Z.length h0 w ⟨D,c2,K⟩:=B.grow a7 t2 a5;have gS:Gq D 9 1 ACT w2 LS:=GS.g;have a6:WS D c 9 1 w2:=Gq.ws (c:=c) gS (fun _=>rfl) (fun p hp=>by have:=GS.own p hp;omega) (by omega);obtain⟨b0,h3,I,Q,C3⟩:=C2.AHA P Bi a6;by_cases he:e=0
   ·subst he;simp[C.f25L2,Y,a,q,f,j,d,b,Bi,R,W,V,eW,I,Q,wi i];exact⟨i+1,by omega,by omega,by simp,C3⟩
   ·have hb:(e !=0)=true:=Ho.2 he;simp[C.f25L2,Y,a,q,f,j,d,b,Bi,R,W,V,eW,I,Q,hb];exact .inl ⟨rfl,by simp,⟨e,by simp⟩,C3.ng⟩
  ·have:i=n:=by omega
   subst this;simp[C.f25L2,d,b];exact .inr ⟨rfl,by simpa [a]using B⟩
 ·exact FX (by show n-0<1000000;omega)
 ·exact⟨by omega,by simp[Y,a,q,f,j,d,b],C0⟩
theorem WS.low{h:Aa}{c b d a:Nat}{w:AV}(H:WS h c d a w)(j:b<=c):WS h b d a w:=by
 rcases H with H|⟨id,len,cap,X,ext,e,i,f,g⟩
 ·exact .inl H
 ·exact .inr ⟨id,len,cap,X,ext,e,i,f,by omega,g.2⟩
def zS(c lo:Nat)(h0:Aa)(x:AV×St):Prop:=∃w e m h1,x.1=.tuple [w,.int .i64 e]/\(∀p,p<c->AA h1 p=AA h0 p)/\Rb (c+1) lo m h1 w x.2
theorem nG{k c lo:Nat}{h:Aa}{gv:AV}{g:Ac}(hg:GD gv g)(hs:g.Small)(kind:Int)(ht:CL h<=c)(a5:lo<=c) :
 (Ab E (k+10) 25 [gv,.int .i64 kind,.fn (.func 26) [] []] ⟨h,c,lo⟩).to (zS c lo h):=by
 rw[Av (fn:=C.f25) rfl rfl rfl,Ap (by simp)];obtain⟨kv,Y,l,rfl,hk,hr,a7⟩:=id hg;obtain⟨a,f⟩:∃a:Aa,a=(c,BJ.cells 29 3 [kv,.str g.Ai,Y] false)::h:=⟨_,rfl⟩;have n1:BA c (.cells 29 3 [kv,.str g.Ai,Y] false) ⟨h,c+1,lo⟩=some ⟨a,c+1,lo⟩:=by rw[f];exact BF ht
 have rg:Ak a (.AL c 0) 3=some [kv,.str g.Ai,Y]:=by rw[Bv,f,BV rfl];rfl
 have t1:CL a<=c+1:=by rw[f,Ay];omega
 have o1:∀p,p<c->AA a p=AA h p:=fun p hp=>by rw[f,Ar (by omega)]
 have d:∀{e:Int} {st:St},FrD (c+1) lo a st->zS c lo h (.tuple [.AO,.int .i64 e],st):=fun {e st} H=>by obtain⟨q1,q2,q3,q4⟩:=H;obtain⟨h',c',b0⟩:=st;simp only at q1;subst q1;exact⟨.AO,e,0,a,rfl,o1,Rb.nil (by omega) q3 q2 q4⟩
 obtain⟨r,eA,K⟩:=WV (k:=k) (st:=⟨a,c+1,lo⟩) hg hs kind;rcases K with⟨e,he,rfl⟩|⟨v,F,N,O,Z,rfl,y⟩
 ·have hb:(e !=0)=true:=Ho.2 he;simp[C.f25,n1,rg,eA,hb,Al,results,Af];exact d ⟨rfl,t1,Ao _,fun _ _=>rfl⟩
 ·have a1:=y;obtain⟨cv,nv,fv,sv,ov,ss,zs,rfl,hC,a3,a8,a2,a6,A,q,hz⟩:=a1.out;have sl:∀st:St,BZ .slice ss st=some (.int .i64 (Z.length:Int),st):=fun st=>by have:=A.len (st:=st);rw[q]at this;exact this
  have C0:CfT (c+1) lo Z.length a .AO ⟨a,c+1,lo⟩:=⟨Rb.nil (by omega) (Ao _) t1 fun _ _=>rfl,fun n e=>by simp[CV]at e;omega⟩;simp[C.f25,n1,rg,eA,sl];refine M.BG (tQ (k:=k+6) (c:=c+1) (lo:=lo) y A q hz (by omega) C0 _ (by simp) (by simp) (by simp) (by simp) (by simp) (by simp)) fun x s=>?_;obtain⟨e,a0,P⟩:=x;rcases s with⟨rfl,z,⟨e,o⟩,b⟩|⟨rfl,R,m,_⟩
  ·simp only at z o b;simp[z,o,Al,results,Af];exact d b
  ·simp only at R m;generalize hw:a0.get 10=w at m;obtain⟨J,I,i⟩:=P;have j:=m.ng.1;simp only at j;subst j;have t2:CL J<=I:=m.ng.2.1;obtain⟨aw,ys,S,Q,V,hy⟩:=ZX (k:=k+7) (c:=I) (lo:=i) y t2;have B:=y.TK.Nf.ok;obtain⟨lw,L,eL,t,u,D,W⟩:=iJ (k:=k+3) (st:=⟨J,I,i⟩) hC hs B;obtain⟨xw,xs,eS,U,T,s⟩:=bS (k:=k+3) (st:=⟨J,I,i⟩) hC hs B t u D W;obtain⟨n,l0,l1,l2⟩:=m.len;simp[R,hw,Dp,DX,Cc,Ci,DK,beq_eq,AV.DU,S,eL,eS,l2];refine M.BG (tN (k:=k+7) (c:=c+1) (lo:=i) y t U u D T s Q V hy (by omega) m l0 l1 _ (by simp[R]) (by simp[hw]) (by simp) (by simp) (by simp) (by simp) (by simp)) fun x s=>?_;obtain⟨e,a9,a4⟩:=x;rcases s with⟨rfl,z,⟨e,o⟩,b⟩|⟨rfl,C2⟩
   ·simp only at z o b;simp[z,o,Al,results,Af];exact d b
   ·simp only at C2;simp[Al,results,Af];exact⟨_,0,Z.length,a,rfl,o1,C2⟩
theorem Zz{k c lo:Nat}{h:Aa}{q:AV}{g:Ac}(r:GD q g)(H:g.Small)(kind:Int)(u:CL h<=c)(K:lo<=c) :
 (Ab E (k+11) 8 [q,.int .i64 kind] ⟨h,c,lo⟩).to (zS c lo h):=by
 rw[Av (fn:=C.f8) rfl rfl rfl,Ap (by simp)];obtain⟨o,j,l,rfl,P,Q,z⟩:=id r;obtain⟨b,a⟩:∃b:Aa,b=(c,BJ.cells 29 3 [o,.str g.Ai,j] false)::h:=⟨_,rfl⟩;have N:BA c (.cells 29 3 [o,.str g.Ai,j] false) ⟨h,c+1,lo⟩=some ⟨b,c+1,lo⟩:=by rw[a];exact BF u
 have D:Ak b (.AL c 0) 3=some [o,.str g.Ai,j]:=by rw[Bv,a,BV rfl];rfl
 have F:CL b<=c+1:=by rw[a,Ay];omega
 have B:∀p,p<c->AA b p=AA h p:=fun p s=>by rw[a,Ar (by omega)]
 simp[C.f8,N,D];refine M.BG (nG (k:=k) (c:=c+1) (lo:=lo) r H kind F (by omega)) fun x I=>?_;obtain⟨R,v⟩:=x;obtain⟨w,e,m,O,d,i,L,G,t,A,f⟩:=I;simp only at d G t f;subst d;simp[Al,results,Af];have J:lo<=c+1:=by omega
 exact⟨w,e,m,b,rfl,B,L,G.low (by omega) (by omega) (fun p s=>i p s),t,A,fun y n=>⟨(f y n).1,(f y n).2.1.low (by omega),(f y n).2.2.low (by omega)⟩⟩
structure Va (c lo:Nat)(h:Aa)(w:AV)(st:St):Prop where
 fB:st.lo=lo
 c1:c<=st.c
 tp:CL st.h<=st.c
 fr:∀p,p<c->Az w≠some p->AA st.h p=AA h p
 sh:∀p ty sz X ext,Az w=some p->AA h p=some (.cells ty sz X ext)->∃X',AA st.h p=some (.cells ty sz X' ext)/\X'.length=X.length
theorem WS.sp{c i lo b a:Nat}{h:Aa}{w u:AV}{g:St}(S:Va c lo h w g)(l:CL h<=c)(H:WS h i b a u):WS g.h i b a u:=by
 have n:=H;rcases H with rfl|⟨id,len,cap,X,ext,rfl,d,e,f⟩
 ·exact .inl rfl
 ·by_cases hw:Az w=some id
  ·obtain⟨k,m,j⟩:=S.sh id b a X ext hw d;exact .inr ⟨id,len,cap,k,ext,rfl,m,by rw[j];exact e,f⟩
  ·exact .inr ⟨id,len,cap,X,ext,rfl,(S.fr id (Bt (Fb d) l) hw).trans d,e,f⟩
theorem pR{h:Aa}{c e b:Nat}{w:AV}(H:WS h c e b w):∃n:Nat,(∀a:St,BZ .slice w a=some (.int .i64 (n:Int),a))/\n<=200000/\(n=0∨∃id cap X ext,w=.AU id 0 n cap/\AA h id=some (.cells e b X ext)/\n*b<=X.length/\c<=id):=by
 rcases H with rfl|⟨id,len,cap,X,ext,rfl,g,f,d⟩
 ·exact⟨0,fun a=>rfl,by omega,.inl rfl⟩
 ·exact⟨len,fun a=>rfl,d.2,.inr ⟨id,cap,X,ext,rfl,g,f,d.1⟩⟩
theorem Va.write{c c0 d n id q a i t:Nat}{h g:Aa}{cap:Option Nat}{vs X:List AV}{v:AV}(S:Va c d h (.AU id 0 n cap) ⟨g,t,d⟩){ext:Bool}(y:AA h id=some (.cells q a X ext))(N:n*a<=X.length)(w:d<=id)(z:i<n)(J:v.isTuple=false)(A:v.cells=vs)(s:vs.length=a) :
 (∀j,AY a (.AU id 0 n cap) (.int .i64 (i:Int)) ⟨g,j,d⟩=some (.AL id (i*a),⟨g,j,d⟩))/\∃b,(∀j,BM a (.AL id (i*a)) v ⟨g,j,d⟩=some (.undef,⟨b,j,d⟩))/\Va c d h (.AU id 0 n cap) ⟨b,t,d⟩/\∀p,p≠id->AA b p=AA g p:=by
 obtain⟨k,o,O⟩:=S.sh id q a X ext rfl y;have o:AA g id=some (.cells q a k ext):=o;have L:i*a+a<=k.length:=by have:(i+1)*a<=n*a:=Im _ z;rw[Il]at this;omega
 refine⟨fun j=>?_,?_⟩
 ·have D:decide (i<n)=true:=Bw z;simp[AY,Bg,o,blt_eq,D]
 ·obtain⟨b,f⟩:∃b,b=Ah g id (.cells q a (Bl k (i*a) vs) ext):=⟨_,rfl⟩;have m:∀p,p≠id->AA b p=AA g p:=fun p u=>by rw[f,Bn (Aj u)]
  have I:AA b id=some (.cells q a (Bl k (i*a) vs) ext):=by rw[f,Fy rfl,o];rfl
  have F:(Bl k (i*a) vs).length=k.length:=by unfold Bl;simp only[Bd,Gv,IV];omega
  refine⟨b,fun j=>?_,⟨rfl,S.c1,by show CL b<=t;rw[f,Cg];exact S.tp,fun p u l=>?_,fun p B H Y ext' K x=>?_⟩,m⟩
  ·rw[CE,o,CW,AX ⟨J,by rw[A];exact s⟩,A,AX ⟨w,by omega⟩,f]
  ·have r:p≠id:=fun e=>l (by rw[e];rfl);exact (m p r).trans (S.fr p u l)
  ·have e:id=p:=by simpa [Az]using K
   subst e;rw[y]at x;cases x;exact⟨_,I,by omega⟩
theorem Zf{k c c0 b:Nat}{h:Aa}{w:AV}(H:WS h c0 3 1 w)(r:b<=c0)(t:CL h<=c) :
 (Ab E (k+1) 9 [w] ⟨h,c,b⟩).to fun x=>Va c b h w x.2:=by
 rw[Av (fn:=C.f9) rfl rfl rfl,Ap (by simp)];obtain⟨n,D,B,F⟩:=pR H;have s:Va c b h w ⟨h,c,b⟩:=⟨rfl,Ao _,t,fun _ _ _=>rfl,fun p P O X ext _ l=>⟨X,l,rfl⟩⟩;simp[C.f9,D];refine M.BG (Df (fun (i:Nat) j g=>i<=n/\Has j [(0,w),(2,.int .i64 0),(5,.int .i64 (n:Int)),(6,.int .i64 (i:Int))]/\Va c b h w g) (fun i=>n-i) (fun e j g=>e=.exit 0/\Va c b h w g) ?_ _ 0 _ _ ?_ ?_) ?_
 ·rintro i j ⟨L,N,z⟩ ⟨Q,f,S⟩;have a:=S.fB.symm;simp only at a;subst a;simp only[Be,CG,BX]at f;obtain⟨I,y,m,o⟩:=f;by_cases Bi:i<n
  ·rcases F with rfl|⟨id,cap,X,ext,rfl,l,u,J⟩
   ·omega
   ·obtain⟨q,K,d,A,_⟩:=S.write (c0:=c0) (v:=.int .i64 0) (vs:=[.int .i64 0]) l u (by omega) Bi rfl rfl rfl;simp only[Fe]at q d;simp[C.f9L0,I,y,m,o,Bi,q,d,wi i];exact⟨i+1,by omega,by omega,by simp,A⟩
  ·have:i=n:=by omega
   subst this;simp[C.f9L0,m,o];exact S
 ·exact FX (by show n-0<1000000;omega)
 ·exact⟨by omega,by simp,s⟩
 ·rintro⟨e,j,g⟩ ⟨rfl,S⟩;simp[Al,results,Af];exact S
theorem YC{k c c0 a:Nat}{h:Aa}{w:AV}(H:WS h c0 41 2 w)(D:a<=c0)(W:a<=c)(A:CL h<=c) :
 (Ab E (k+1) 6 [w] ⟨h,c,a⟩).to fun x=>Va c a h w x.2:=by
 rw[Av (fn:=C.f6) rfl rfl rfl,Ap (by simp)];obtain⟨n,R,Q,U⟩:=pR H;obtain⟨f,b⟩:∃f:Aa,f=(c,BJ.cells 41 2 [.str [],.int .i64 0] false)::h:=⟨_,rfl⟩;have Z:BA c (.cells 41 2 [.str [],.int .i64 0] false) ⟨h,c+1,a⟩=some ⟨f,c+1,a⟩:=by rw[b];exact BF A
 have K:AA f c=some (.cells 41 2 [.str [],.int .i64 0] false):=by rw[b];exact BV rfl
 have l:∀p,Az w=some p->p<c:=fun p q=>Bt (H.lt q) A;have j:∀p,p<c->AA f p=AA h p:=fun p q=>by rw[b,Ar (by omega)]
 have F:Va c a h w ⟨f,c+1,a⟩:=⟨rfl,by show c<=c+1;omega,by show CL f<=c+1;rw[b,Ay];omega,fun p q _=>j p q,fun p ty sz X ext Y y=>⟨X,(j p (l p Y)).trans y,rfl⟩⟩;simp[C.f6,R,Z];refine M.BG (Df (fun (i:Nat) r m=>i<=n/\Has r [(0,w),(2,.AL c 0),(5,.int .i64 (n:Int)),(6,.int .i64 (i:Int))]/\AA m.h c=some (.cells 41 2 [.str [],.int .i64 0] false)/\Va c a h w m) (fun i=>n-i) (fun e r m=>e=.exit 0/\Va c a h w m) ?_ _ 0 _ _ ?_ ?_) ?_
 ·rintro i r ⟨N,c1,O⟩ ⟨hi,o,g,S⟩;have d:=S.fB.symm;simp only at d g;subst d;simp only[Be,CG,BX]at o;obtain⟨V,L,z,B⟩:=o;by_cases Bi:i<n
  ·rcases U with rfl|⟨id,cap,X,ext,rfl,y,I,a0⟩
   ·omega
   ·obtain⟨T,h2,u,P,t⟩:=S.write (c0:=c0) (v:=.agg [.str [],.int .i64 0]) (vs:=[.str [],.int .i64 0]) y I (by omega) Bi rfl rfl rfl;have s:c≠id:=fun e=>by have:=l id rfl;omega
    have J:Ak N (.AL c 0) 2=some [.str [],.int .i64 0]:=by rw[Bv,g];rfl
    simp[C.f6L0,V,L,z,B,Bi,J,T,u,wi i];exact⟨i+1,by omega,by omega,by simp,(t c s).trans g,P⟩
  ·have:i=n:=by omega
   subst this;simp[C.f6L0,z,B];exact S
 ·exact FX (by show n-0<1000000;omega)
 ·exact⟨by omega,by simp,K,F⟩
 ·rintro⟨e,r,m⟩ ⟨rfl,S⟩;simp[Al,results,Af];exact S
theorem Pp{k c c0 b:Nat}{h:Aa}{w:AV}(H:WS h c0 9 1 w)(r:b<=c0)(t:CL h<=c) :
 (Ab E (k+1) 10 [w] ⟨h,c,b⟩).to fun x=>Va c b h w x.2:=by
 rw[Av (fn:=C.f10) rfl rfl rfl,Ap (by simp)];obtain⟨n,D,B,F⟩:=pR H;have s:Va c b h w ⟨h,c,b⟩:=⟨rfl,Ao _,t,fun _ _ _=>rfl,fun p P O X ext _ l=>⟨X,l,rfl⟩⟩;simp[C.f10,D];refine M.BG (Df (fun (i:Nat) j g=>i<=n/\Has j [(0,w),(2,.str []),(5,.int .i64 (n:Int)),(6,.int .i64 (i:Int))]/\Va c b h w g) (fun i=>n-i) (fun e j g=>e=.exit 0/\Va c b h w g) ?_ _ 0 _ _ ?_ ?_) ?_
 ·rintro i j ⟨L,N,z⟩ ⟨Q,f,S⟩;have a:=S.fB.symm;simp only at a;subst a;simp only[Be,CG,BX]at f;obtain⟨I,y,m,o⟩:=f;by_cases Bi:i<n
  ·rcases F with rfl|⟨id,cap,X,ext,rfl,l,u,J⟩
   ·omega
   ·obtain⟨q,K,d,A,_⟩:=S.write (c0:=c0) (v:=.str []) (vs:=[.str []]) l u (by omega) Bi rfl rfl rfl;simp only[Fe]at q d;simp[C.f10L0,I,y,m,o,Bi,q,d,wi i];exact⟨i+1,by omega,by omega,by simp,A⟩
  ·have:i=n:=by omega
   subst this;simp[C.f10L0,m,o];exact S
 ·exact FX (by show n-0<1000000;omega)
 ·exact⟨by omega,by simp,s⟩
 ·rintro⟨e,j,g⟩ ⟨rfl,S⟩;simp[Al,results,Af];exact S
theorem Vg{k c c0 a:Nat}{h:Aa}{w:AV}(H:WS h c0 44 2 w)(D:a<=c0)(W:a<=c)(A:CL h<=c) :
 (Ab E (k+1) 7 [w] ⟨h,c,a⟩).to fun x=>Va c a h w x.2:=by
 rw[Av (fn:=C.f7) rfl rfl rfl,Ap (by simp)];obtain⟨n,R,Q,U⟩:=pR H;obtain⟨f,b⟩:∃f:Aa,f=(c,BJ.cells 44 2 [.str [],.int .i64 0] false)::h:=⟨_,rfl⟩;have Z:BA c (.cells 44 2 [.str [],.int .i64 0] false) ⟨h,c+1,a⟩=some ⟨f,c+1,a⟩:=by rw[b];exact BF A
 have K:AA f c=some (.cells 44 2 [.str [],.int .i64 0] false):=by rw[b];exact BV rfl
 have l:∀p,Az w=some p->p<c:=fun p q=>Bt (H.lt q) A;have j:∀p,p<c->AA f p=AA h p:=fun p q=>by rw[b,Ar (by omega)]
 have F:Va c a h w ⟨f,c+1,a⟩:=⟨rfl,by show c<=c+1;omega,by show CL f<=c+1;rw[b,Ay];omega,fun p q _=>j p q,fun p ty sz X ext Y y=>⟨X,(j p (l p Y)).trans y,rfl⟩⟩;simp[C.f7,R,Z];refine M.BG (Df (fun (i:Nat) r m=>i<=n/\Has r [(0,w),(2,.AL c 0),(5,.int .i64 (n:Int)),(6,.int .i64 (i:Int))]/\AA m.h c=some (.cells 44 2 [.str [],.int .i64 0] false)/\Va c a h w m) (fun i=>n-i) (fun e r m=>e=.exit 0/\Va c a h w m) ?_ _ 0 _ _ ?_ ?_) ?_
 ·rintro i r ⟨N,c1,O⟩ ⟨hi,o,g,S⟩;have d:=S.fB.symm;simp only at d g;subst d;simp only[Be,CG,BX]at o;obtain⟨V,L,z,B⟩:=o;by_cases Bi:i<n
  ·rcases U with rfl|⟨id,cap,X,ext,rfl,y,I,a0⟩
   ·omega
   ·obtain⟨T,h2,u,P,t⟩:=S.write (c0:=c0) (v:=.agg [.str [],.int .i64 0]) (vs:=[.str [],.int .i64 0]) y I (by omega) Bi rfl rfl rfl;have s:c≠id:=fun e=>by have:=l id rfl;omega
    have J:Ak N (.AL c 0) 2=some [.str [],.int .i64 0]:=by rw[Bv,g];rfl
    simp[C.f7L0,V,L,z,B,Bi,J,T,u,wi i];exact⟨i+1,by omega,by omega,by simp,(t c s).trans g,P⟩
  ·have:i=n:=by omega
   subst this;simp[C.f7L0,z,B];exact S
 ·exact FX (by show n-0<1000000;omega)
 ·exact⟨by omega,by simp,K,F⟩
 ·rintro⟨e,r,m⟩ ⟨rfl,S⟩;simp[Al,results,Af];exact S
theorem WS.own{h:Aa}{c d sz p:Nat}{w:AV}(H:WS h c d sz w)(a:Az w=some p):c<=p:=by
 rcases H with rfl|⟨id,len,cap,X,ext,rfl,f,e,b⟩
 ·cases a
 ·cases a;exact b.1
theorem GL.sp{α:Type}{k l a j c f lo:Nat}{b:α->List AV}{n h:Aa}{w u:AV}{L:List α}{o:St}(H:GL k l b c n w L ⟨h,f,lo⟩)(m:WS h c a j u)(i:a≠k)(S:Va f lo h u o):GL k l b c n w L o:=by
 have q:c<=f:=H.c1;have s:lo<=c:=H.lo;have r:CL h<=f:=H.tp;refine⟨by rw[S.fB];exact s,DV q S.c1,S.tp,fun p d=>(S.fr p (by omega) fun e=>?_).trans (H.CY p d),H.g.heap fun p d=>S.fr p (Bt (H.g.lt d) r) fun e=>?_,H.own⟩
 ·have:=m.own e;omega
 ·exact m.ne H.g i e d
theorem Ze.grow{c lo m a b:Nat}{g h f:Aa}{w:AV}(H:Ze c lo g w m ⟨h,a,lo⟩)(r:a<=b)(o:CL f<=b)(e:∀p,p<a->AA f p=AA h p):Ze c lo g w m ⟨f,b,lo⟩:=by obtain⟨L,G,_,l,q⟩:=H;have i:CL h<=a:=G.tp;refine⟨L,G.grow r o e,rfl,l,fun y n=>?_⟩;obtain⟨j,k⟩:=q y n;exact⟨j.heap fun p d=>e p (Bt (j.lt d) i),k.heap fun p d=>e p (Bt (k.lt d) i)⟩
theorem Ze.sp{c lo m f i b:Nat}{d h:Aa}{w u:AV}{g:St}(H:Ze c lo d w m ⟨h,b,lo⟩)(l:WS h c f i u)(a:f≠38)(S:Va b lo h u g):Ze c lo d w m g:=by obtain⟨L,G,_,j,o⟩:=H;have e:CL h<=b:=G.tp;refine⟨L,G.sp l a S,S.fB,j,fun y k=>?_⟩;obtain⟨n,p⟩:=o y k;exact⟨WS.sp S e n,WS.sp S e p⟩
theorem Ze.get{c b m r n i:Nat}{k h:Aa}{w:AV}(H:Ze c b k w m ⟨h,r,b⟩)(l:CV w=some n)(a:i<n) :
 ∃q u v,(∀d,AY 2 w (.int .i64 (i:Int)) ⟨h,d,b⟩=some (q,⟨h,d,b⟩))/\Ak h q 2=some [u,v]/\WS h c 41 2 u/\WS h c 44 2 v:=by
 obtain⟨L,G,_,_,f⟩:=H;have g:Gq h 38 2 wu w L:=G.g;have e:n=L.length:=by have:=g.len;rw[l,Ct]at this;exact this
 subst e;obtain⟨id,cap,o,j⟩:=g.idx a;have p:=Gq.cells (enc:=wu) (sz:=2) (fun _=>rfl) (o▸g) a;exact⟨_,L[i].1,L[i].2,fun d=>j _ rfl,p.all,(f _ (BH a)).1,(f _ (BH a)).2⟩
theorem Rb.sp{c lo m f i b:Nat}{d h:Aa}{w u:AV}{g:St}(H:Rb c lo m d w ⟨h,b,lo⟩)(l:WS h c f i u)(a:f≠49)(S:Va b lo h u g):Rb c lo m d w g:=by obtain⟨L,G,_,j,p⟩:=H;have e:CL h<=b:=G.tp;refine⟨L,G.sp l a S,S.fB,j,fun y k=>?_⟩;obtain⟨n,o,q⟩:=p y k;exact⟨n,WS.sp S e o,WS.sp S e q⟩
theorem Rb.get{c b m s n i:Nat}{k h:Aa}{w:AV}(H:Rb c b m k w ⟨h,s,b⟩)(l:CV w=some n)(a:i<n) :
 ∃q y,(∀d,AY 5 w (.int .i64 (i:Int)) ⟨h,d,b⟩=some (q,⟨h,d,b⟩))/\Ak h q 5=some (Rh y)/\WS h c 3 1 y.r/\WS h c 9 1 y.w:=by
 obtain⟨L,G,_,_,f⟩:=H;have g:Gq h 49 5 Rh w L:=G.g;have e:n=L.length:=by have:=g.len;rw[l,Ct]at this;exact this
 subst e;obtain⟨id,cap,o,j⟩:=g.idx a;have p:=Gq.cells (enc:=Rh) (sz:=5) (fun _=>rfl) (o▸g) a;exact⟨_,L[i],fun d=>j _ rfl,p.all,(f _ (BH a)).2.1,(f _ (BH a)).2.2⟩
theorem Za.ws{b c lo d:Nat}{a h:Aa}{w:AV}(H:Za b c lo a w ⟨h,d,lo⟩):WS h c 9 1 w:=by obtain⟨L,G,e,_⟩:=H;exact G.g.ws (fun _=>rfl) G.own (by omega)
theorem xg{k c lo n m:Nat}{L:Aa}{w U W:AV}(hm:m<=2000)(hn:CV w=some n)(a1:n<=m)(a0:lo<=c)(b:TS)(F:St)(J:b.get 5=U)(O:b.get 6=W)(o:b.get 32=w)(g:b.get 33=.int .i64 (n:Int))(j:b.get 34=.int .i64 ((0:Nat):Int))(H:Ze c lo L w m F) :
 (Dm (Bc E (Ab E (k+1)) C.f3L0) E.k b F).to fun x=>x.1=.exit 0/\Has x.2.1 [(5,U),(6,W)]/\Ze c lo L w m x.2.2:=by
 refine Cy (fun (i:Nat) ts st=>i<=n/\Has ts [(5,U),(6,W),(32,w),(33,.int .i64 (n:Int)),(34,.int .i64 (i:Int))]/\Ze c lo L w m st) (fun i=>n-i) ?_ _ 0 _ _ ?_ ?_
 ·rintro i ts ⟨h,f,a⟩ ⟨hi,I,S⟩;have B:a=lo:=by obtain⟨_,_,e,_⟩:=S;exact e
  subst B;simp only[Be,CG,BX]at I;obtain⟨J,O,o,g,j⟩:=I;by_cases Bi:i<n
  ·obtain⟨q,u,v,ix,rd,R,Y⟩:=S.get hn Bi;have ht:CL h<=f:=by obtain⟨_,G,_⟩:=S;exact G.tp
   have a3:c<=f:=by obtain⟨_,G,_⟩:=S;exact G.c1
   obtain⟨h1,z,n1,s1,Z,V,l⟩:=Ih (c':=f+1) (ty:=38) (sz:=2) (n:=2) (v:=.agg [u,v]) (cs:=[u,v]) (zero:=[.AO,.AO]) ht (lo:=a) (by omega) rfl rfl rfl rfl;have S2:Ze c a L w m ⟨z,f+1,a⟩:=S.grow (by omega) V fun p N=>l p (by omega);have y:WS z c 41 2 u:=R.heap fun p N=>l p (by have:=R.lt N;omega);have P:WS z c 44 2 v:=Y.heap fun p N=>l p (by have:=Y.lt N;omega);have r0:AQ z (.AL f 0)=some u:=(Cells.sP Z).one 0 (by simp);obtain⟨⟨y3,t⟩,e3,S3⟩:=YC (k:=k) (c:=f+1) y (by omega) (by omega) V;have d:Va (f+1) a z u t:=S3;obtain⟨s,K,r⟩:=t;have D:r=a:=d.fB;subst D;have L3:=S2.sp y (by decide) d;have t3:CL s<=K:=d.tp;have a2:f+1<=K:=d.c1;have f3:AA s f=some (.cells 38 2 [u,v] false):=(d.fr f (by omega) fun e=>by have:=R.lt e;omega).trans Z;have r1:AQ s (.AL f 1)=some v:=(Cells.sP f3).one 1 (by simp);have A:WS s c 44 2 v:=WS.sp d V P;obtain⟨⟨y4,Q⟩,e4,S4⟩:=Vg (k:=k) (c:=K) A (by omega) (by omega) t3;have T:Va K r s v Q:=S4;have L4:=L3.sp A (by decide) T;simp[C.f3L0,J,O,o,g,j,Bi,ix,rd,n1,s1,r0,e3,r1,e4,wi i];exact⟨i+1,by omega,by omega,by simp,L4⟩
  ·have:i=n:=by omega
   subst this;simp[C.f3L0,J,O,g,j];exact S
 ·exact FX (by show n-0<1000000;omega)
 ·exact⟨by omega,by simp[J,O,o,g,j],H⟩
theorem xe{k c lo n m:Nat}{Q:Aa}{w Z a6:AV}(hn:CV w=some n)(a1:n<=10000)(a0:lo<=c)(f:TS)(K:St)(O:f.get 5=Z)(T:f.get 6=a6)(t:f.get 50=w)(o:f.get 51=.int .i64 (n:Int))(l:f.get 52=.int .i64 ((0:Nat):Int))(H:Rb c lo m Q w K) :
 (Dm (Bc E (Ab E (k+1)) C.f3L1) E.k f K).to fun x=>x.1=.exit 2/\Has x.2.1 [(5,Z),(6,a6)]/\Rb c lo m Q w x.2.2:=by
 refine Cy (fun (i:Nat) ts st=>i<=n/\Has ts [(5,Z),(6,a6),(50,w),(51,.int .i64 (n:Int)),(52,.int .i64 (i:Int))]/\Rb c lo m Q w st) (fun i=>n-i) ?_ _ 0 _ _ ?_ ?_
 ·rintro i ts ⟨h,j,d⟩ ⟨hi,L,S⟩;have I:d=lo:=by obtain⟨_,_,e,_⟩:=S;exact e
  subst I;simp only[Be,CG,BX]at L;obtain⟨O,T,t,o,l⟩:=L;by_cases Bi:i<n
  ·obtain⟨q,⟨s,a,b,u,v⟩,ix,rd,N,Y⟩:=S.get hn Bi;simp only[Rh]at rd N Y;have ht:CL h<=j:=by obtain⟨_,G,_⟩:=S;exact G.tp
   have a3:c<=j:=by obtain⟨_,G,_⟩:=S;exact G.c1
   obtain⟨h1,D,n1,s1,f2,t2,r⟩:=Ih (c':=j+1) (ty:=49) (sz:=5) (n:=5) (v:=.agg [.int .i64 (s:Int),.str a,.bool b,u,v]) (cs:=[.int .i64 (s:Int),.str a,.bool b,u,v]) (zero:=[.int .i64 0,.str [],.bool false,.AO,.AO]) ht (lo:=d) (by omega) rfl rfl rfl rfl;have S2:Rb c d m Q w ⟨D,j+1,d⟩:=S.grow (by omega) t2 fun p R=>r p (by omega);have B:WS D c 3 1 u:=N.heap fun p R=>r p (by have:=N.lt R;omega);have U:WS D c 9 1 v:=Y.heap fun p R=>r p (by have:=Y.lt R;omega);have r0:AQ D (.AL j 3)=some u:=(Cells.sP f2).one 3 (by simp);obtain⟨⟨y3,A⟩,e3,S3⟩:=Zf (k:=k) (c:=j+1) B (by omega) t2;have g:Va (j+1) d D u A:=S3;obtain⟨z,P,y⟩:=A;have J:y=d:=g.fB;subst J;have L3:=S2.sp B (by decide) g;have t3:CL z<=P:=g.tp;have a2:j+1<=P:=g.c1;have f3:AA z j=some (.cells 49 5 [.int .i64 (s:Int),.str a,.bool b,u,v] false):=(g.fr j (by omega) fun e=>by have:=N.lt e;omega).trans f2;have r1:AQ z (.AL j 4)=some v:=(Cells.sP f3).one 4 (by simp);have F:WS z c 9 1 v:=WS.sp g t2 U;obtain⟨⟨y4,V⟩,e4,S4⟩:=Pp (k:=k) (c:=P) F (by omega) t3;have W:Va P y z v V:=S4;have L4:=L3.sp F (by decide) W;simp[C.f3L1,O,T,t,o,l,Bi,ix,rd,n1,s1,r0,e3,r1,e4,wi i];exact⟨i+1,by omega,by omega,by simp,L4⟩
  ·have:i=n:=by omega
   subst this;simp[C.f3L1,O,T,o,l];exact S
 ·exact FX (by show n-0<1000000;omega)
 ·exact⟨by omega,by simp[O,T,t,o,l],H⟩
theorem M.qc{α β:Type}{m:M α}{f:α->M β}{R:α->Prop}{S:β->Prop}(h:m.all R)(k:∀a,R a->(f a).all S):(m.bind f).all S:=M.Jo.2 (M.GU h k)
theorem M.kG{α β:Type}{m:M α}{f:α->M β}{R:α->Prop}{S:β->Prop}(h:m.to R)(k:∀a,R a->(f a).all S):(m.bind f).all S:=M.qc (M.lT h) k
theorem yD{o:Nat}{i:AV}{a:Int}{e d:St}(K:Fa e.c o i a e d)(j:d.c=e.c)(k:HO e)(f:i.CY e.c=true):HO d:=by
 intro p x g;have l:=K.hb p x g;rcases K.mem p x g (by omega)with h|⟨rfl,b,rfl⟩
 ·rw[j];exact k p x h
 ·rw[j];simp[BJ.CY,AV.Dq,AV.CY,f]
theorem tY{F m:Nat}(hF:F=m+30){v:AV}{zs:List Int}(hv:GI v zs)(d7:∀c,v.CY c=true)(f2:v.isTuple=false/\v.cells=[v]){P:Ac->Prop}(hP:∀g1 g2,P g1->P g2->g1=g2)(hA:∀{st:St} {o:Nat},RO st o v 0->o<st.c->HB st->HO st->st.lo<=o->∃w g b b3,Ab E F 4 [.AL o 0] st=.ret (w,b3)/\b3.c=st.c/\Fa st.c o v (0+b) st b3/\GD w g/\P g/\g.Small)(hR:∀st,(Ab E F 13 [] st).all fun r=>r=(.bool true,st)):(Ab E (F+1) 3 [v] ⟨[],0,0⟩).all fun r=>r.1=.bool true:=by
 rw[Av (fn:=C.f3) rfl rfl rfl,Ap (by simp)];have g3:Bp [.AO,.int .i64 0] [(0,1)] [v]=some [v,.int .i64 0]:=by simp[Bp,f2.1,f2.2,ble_eq,Bl]
 obtain⟨h0,z⟩:∃h:Aa,h=[(0,BJ.cells 25 2 [v,.int .i64 0] false)]:=⟨_,rfl⟩;obtain⟨J,q⟩:∃h:Aa,h=(1,BJ.cells 25 2 [v,.int .i64 0] false)::h0:=⟨_,rfl⟩;have f4:Ls 0 25 2 (.agg [v,.int .i64 0])=some (.AL 0 0,.cells 25 2 [v,.int .i64 0] false):=rfl;have e7:Ls 1 25 2 (.agg [v,.int .i64 0])=some (.AL 1 0,.cells 25 2 [v,.int .i64 0] false):=rfl;have n0:BA 0 (.cells 25 2 [v,.int .i64 0] false) ⟨[],2,0⟩=some ⟨h0,2,0⟩:=by rw[z];rfl
 have i7:CL h0<=1:=by rw[z];simp[CL]
 have nb:BA 1 (.cells 25 2 [v,.int .i64 0] false) ⟨h0,2,0⟩=some ⟨J,2,0⟩:=by rw[q];exact BF i7
 have k6:AA J 0=some (.cells 25 2 [v,.int .i64 0] false):=by rw[q,z];rfl
 have i1:AA J 1=some (.cells 25 2 [v,.int .i64 0] false):=by rw[q];rfl
 have m7:CL J<=2:=by rw[q,Ay];omega
 have S0:RO ⟨J,4,0⟩ 0 v 0:=⟨k6,CZ _⟩;have j7:HB ⟨J,4,0⟩:=lS (by omega);have f9:HO ⟨J,4,0⟩:=fun p x f=>by have f:(p,x)∈J:=f;rw[q,z]at f;simp only[BK,JL,Ju,Jp]at f;rcases f with⟨_,rfl⟩|⟨_,rfl⟩<;>simp[BJ.CY,AV.Dq,AV.CY,d7]
 obtain⟨u,g,b,i,a1,a2,a3,a4,a5,a6⟩:=hA S0 (by show 0<4;omega) j7 f9 (Ao _);have a2:i.c=4:=a2;have g8:HO i:=yD a3 a2 f9 (d7 _);have g6:i.lo=0:=a3.lo;have S1:RO i 1 v 0:=⟨(a3.CY 1 (by show 1<4;omega) (by omega)).trans i1,by omega⟩;obtain⟨u2,g2,b2,i3,c1,c2,c3,c4,c5,c6⟩:=hA S1 (by omega) a3.hb g8 (by omega);have j8:g=g2:=hP g g2 a5 c5;subst j8;obtain⟨h2,q2,l2⟩:=i3;have c2:q2=4:=c2.trans a2;have h1:l2=0:=c3.lo.trans g6;subst c2 h1;have k7:CL h2<=4:=HB.CL c3.hb;have a9:∀p,p<4->2<=p->AA h2 p=none:=fun p hp m8=>by have e2:AA h2 p=AA i.h p:=c3.CY p (by omega) (by omega);have e3:AA i.h p=AA J p:=a3.CY p (by show p<4;omega) (by omega);rw[e2,e3,q,Ar (by omega),z,Ar (by omega)];rfl
 have S:=a4;have f6:=c4;obtain⟨O,W,l,rfl,k1,k2,k3⟩:=a4;obtain⟨H,D,l2,rfl,n1,m4,m2⟩:=c4;obtain⟨h3,e1,e2,e3⟩:=Qr (st:=⟨h2,4,0⟩) (o:=2) (y:=.cells 29 3 [.AO,.str [],.AO] false) (a9 2 (by omega) (by omega));have e2:∀p,AA h3 p=if 2=p then some (.cells 29 3 [.AO,.str [],.AO] false) else AA h2 p:=e2
 have f3:AA h3 2=some (.cells 29 3 [.AO,.str [],.AO] false):=by rw[e2,AX rfl]
 have i6:AA h3 3=none:=by rw[e2,AJ (by omega)];exact a9 3 (by omega) (by omega)
 have i2:CL h3<=4:=OW.2 fun p x f=>by
  rcases e3 p x f with⟨rfl,_⟩|f
  ·omega
  ·exact OW.1 k7 p x f
 obtain⟨h4,g7,Q,j9⟩:=Qr (st:=⟨h3,4,0⟩) (o:=3) (y:=.cells 29 3 [.AO,.str [],.AO] false) i6;have Q:∀p,AA h4 p=if 3=p then some (.cells 29 3 [.AO,.str [],.AO] false) else AA h3 p:=Q
 have d5:AA h4 2=some (.cells 29 3 [.AO,.str [],.AO] false):=by rw[Q,AJ (by omega)];exact f3
 have k9:AA h4 3=some (.cells 29 3 [.AO,.str [],.AO] false):=by rw[Q,AX rfl]
 have i5:CL h4<=4:=OW.2 fun p x f=>by
  rcases j9 p x f with⟨rfl,_⟩|f
  ·omega
  ·exact OW.1 i2 p x f
 have s5:BM 3 (.AL 2 0) (.agg [O,.str g.Ai,W]) ⟨h4,4,0⟩=some (.undef,⟨Ah h4 2 (.cells 29 3 [O,.str g.Ai,W] false),4,0⟩):=by rw[CE,d5,CW];simp[AV.isTuple,AV.cells]
 obtain⟨Z,K⟩:∃Z,Z=Ah h4 2 (BJ.cells 29 3 [O,.str g.Ai,W] false):=⟨_,rfl⟩;rw[←K]at s5;have h9:AA Z 2=some (.cells 29 3 [O,.str g.Ai,W] false):=by rw[K,Fy rfl,d5];rfl
 have g0:AA Z 3=some (.cells 29 3 [.AO,.str [],.AO] false):=by rw[K,Bn (by omega)];exact k9
 have g5:CL Z<=4:=by rw[K,Cg];exact i5
 have s6:BM 3 (.AL 3 0) (.agg [H,.str g.Ai,D]) ⟨Z,4,0⟩=some (.undef,⟨Ah Z 3 (.cells 29 3 [H,.str g.Ai,D] false),4,0⟩):=by rw[CE,g0,CW];simp[AV.isTuple,AV.cells]
 obtain⟨I,V⟩:∃I,I=Ah Z 3 (BJ.cells 29 3 [H,.str g.Ai,D] false):=⟨_,rfl⟩;rw[←V]at s6;have U:AA I 2=some (.cells 29 3 [O,.str g.Ai,W] false):=by rw[V,Bn (by omega)];exact h9
 have k0:AA I 3=some (.cells 29 3 [H,.str g.Ai,D] false):=by rw[V,Fy rfl,g0];rfl
 have j4:CL I<=4:=by rw[V,Cg];exact g5
 have h7:Ak I (.AL 2 0) 3=some [O,.str g.Ai,W]:=by rw[Bv,U];simp
 obtain⟨⟨y7,l9⟩,r7,w7,l7,d2,e6,i0,b8⟩:=xN (k:=m+20) (c:=4) (lo:=0) S a6 1 j4 (by omega);simp only at e6 b8;subst e6;rw[show m+20+10=F by omega]at r7;obtain⟨n7,k8,i4,j3⟩:=(show ∃n:Nat,n<=2000/\(∀st:St,BZ .slice w7 st=some (.int .i64 (n:Int),st))/\CV w7=some n by
  obtain⟨L,G,_,hl,_⟩:=b8
  have e:CV w7=some L.length:=G.g.len
  exact⟨L.length,hl,fun st=>by simp[BZ,e],e⟩)
 obtain⟨b1,b9⟩:∃b,F=b+1:=⟨F-1,by omega⟩;simp[C.f3,g3,f4,e7,n0,nb,a1,c1,e1,g7,s5,s6,h7,r7,i4];refine M.kG (R:=fun x=>x.1=.exit 0/\Has x.2.1 [(5,.AL 2 0),(6,.AL 3 0)]/\Ze 5 0 d2 w7 2000 x.2.2) (by
  rw[b9]
  exact xg (k:=b1) (c:=5) (by omega) j3 k8 (by omega) _ _ (by simp) (by simp) (by simp) (by simp) (by simp) b8) fun x hx=>?_
 obtain⟨e8,m3,⟨h8,c8,i8⟩⟩:=x;obtain⟨rfl,a8,A⟩:=hx;simp only[Be,CG,BX]at a8;obtain⟨z5,z6⟩:=a8;simp only at A;have c0:i8=0:=by obtain⟨_,_,e,_⟩:=A;exact e
 subst c0;have t8:CL h8<=c8:=by obtain⟨_,G,_⟩:=A;exact G.tp
 have m6:5<=c8:=by obtain⟨_,G,_⟩:=A;exact G.c1
 have f8:∀p,p<4->AA h8 p=AA I p:=fun p hp=>by
  have e:AA h8 p=AA d2 p:=by obtain⟨_,G,_⟩:=A;exact G.CY p (by omega)
  exact e.trans (i0 p hp)
 have i9:Ak h8 (.AL 2 0) 3=some [O,.str g.Ai,W]:=by rw[Bv,f8 2 (by omega),U];simp
 obtain⟨⟨y9,l8⟩,r9,w9,m0,m9,d1,g4,k5,b6⟩:=Zz (k:=m+19) (c:=c8) (lo:=0) S a6 2 t8 (by omega);simp only at g4 b6;subst g4;rw[show m+19+11=F by omega]at r9;obtain⟨n9,l0,g9,j6⟩:=(show ∃n:Nat,n<=10000/\(∀st:St,BZ .slice w9 st=some (.int .i64 (n:Int),st))/\CV w9=some n by
  obtain⟨L,G,_,hl,_⟩:=b6
  have e:CV w9=some L.length:=G.g.len
  exact⟨L.length,by omega,fun st=>by simp[BZ,e],e⟩)
 simp[z5,i9,r9,g9];refine M.kG (R:=fun x=>x.1=.exit 2/\Has x.2.1 [(5,.AL 2 0),(6,.AL 3 0)]/\Rb (c8+1) 0 m9 d1 w9 x.2.2) (by
  rw[b9]
  exact xe (k:=b1) (c:=c8+1) j6 l0 (by omega) _ _ (by simp[z5]) (by simp[z6]) (by simp) (by simp) (by simp) b6) fun x hx=>?_
 obtain⟨m1,l5,⟨N,B,d9⟩⟩:=x;obtain⟨rfl,t,d⟩:=hx;simp only[Be,CG,BX]at t;obtain⟨z5,z6⟩:=t;simp only at d;have b7:d9=0:=by obtain⟨_,_,e,_⟩:=d;exact e
 subst b7;have j2:CL N<=B:=by obtain⟨_,G,_⟩:=d;exact G.tp
 have l4:c8+1<=B:=by obtain⟨_,G,_⟩:=d;exact G.c1
 have e0:∀p,p<4->AA N p=AA I p:=fun p hp=>by
  have e:AA N p=AA d1 p:=by obtain⟨_,G,_⟩:=d;exact G.CY p (by omega)
  exact (e.trans (k5 p (by omega))).trans (f8 p hp)
 have c7:Ak N (.AL 2 0) 3=some [O,.str g.Ai,W]:=by rw[Bv,e0 2 (by omega),U];simp
 obtain⟨⟨m5,d4⟩,d3,d6,l3,f5,a7,e4,a⟩:=eU (k:=m+20) (c:=B) (lo:=0) S a6 1 1 j2 (by omega);simp only at a7 a;subst a7;rw[show m+20+10=F by omega]at d3;obtain⟨j,T,c9⟩:=d4;have b5:c9=0:=by obtain⟨_,_,_,e⟩:=a;exact e
 subst b5;have j1:CL j<=T:=by obtain⟨_,G,_⟩:=a;exact G.tp
 have l1:B+1<=T:=by obtain⟨_,G,_⟩:=a;exact G.c1
 have j0:∀p,p<4->AA j p=AA I p:=fun p hp=>by
  have e:AA j p=AA f5 p:=by obtain⟨_,G,_⟩:=a;exact G.CY p (by omega)
  exact (e.trans (e4 p (by omega))).trans (e0 p hp)
 have b0:WS j (B+1) 9 1 d6:=a.ws;obtain⟨⟨l6,a0⟩,e5,k4⟩:=Pp (k:=b1) (c:=T) b0 (CZ _) j1;have Y:Va T 0 j d6 a0:=k4;rw[←b9]at e5;obtain⟨s,f7,d8⟩:=a0;have b4:d8=0:=Y.fB;subst b4;have e9:∀p,p<4->AA s p=AA I p:=fun p hp=>by
  have e:AA s p=AA j p:=Y.fr p (by omega) fun e=>by have:=b0.own e;omega
  exact e.trans (j0 p hp)
 have f0:Ak s (.AL 2 0) 3=some [O,.str g.Ai,W]:=by rw[Bv,e9 2 (by omega),U];simp
 have d0:Ak s (.AL 3 0) 3=some [H,.str g.Ai,D]:=by rw[Bv,e9 3 (by omega),k0];simp
 have f1:=XK (k:=m+26) (st:=⟨s,f7,0⟩) S f6 a6.wide;rw[show m+26+4=F by omega,Bw rfl]at f1;have j5:=hR ⟨s,f7,0⟩;simp[z5,z6,c7,d3,e5,f0,d0,f1,Cm,-M.bind_assoc];simp only[M.bind_assoc];refine M.qc j5 fun r hr=>?_;subst hr;simp[Al,results,Af]
end Go.Am
