/- A part of tablesStay. -/
import Derived.Test.YthnghmpbgomacaaGreatDoorQ6
set_option maxHeartbeats 4000000
namespace Go.Am
 attribute [local irreducible] bigK
open Go
def TN(B:List Bool):Nat:=B.countP (!·)
theorem ZK:∀{B:List Bool} {k:Nat} (a:k<B.length),B[k]=false->TN (B.set k true)+1=TN B
 |b::B,0,_,h=>by simp at h;subst h;simp[TN]
 |b::B,k+1,a,h=>by have c:=ZK (B:=B) (k:=k) (by simpa using a) (by simpa using h);unfold TN at c⊢;rw[Jg,TD,TD];omega
theorem KQ{h:Aa}{o d m c lo i:Nat}{b:List AV}{ext:Bool}(a:AA h o=some (.cells d 1 b ext))(e:i<m):AY 1 (.AU o 0 m (some m)) (.int .i64 (i:Int)) ⟨h,c,lo⟩=some (.AL o i,⟨h,c,lo⟩):=by simp[AY,Bg,a,blt_eq,e]
theorem Oz{h:Aa}{o d c lo i:Nat}{a:List AV}{ext:Bool}(g:AA h o=some (.cells d 1 a ext))(b:lo<=o)(j:i<a.length){x:AV}(k:x.isTuple=false)(f:x.cells=[x]):BM 1 (.AL o i) x ⟨h,c,lo⟩=some (.undef,⟨Ah h o (.cells d 1 (a.set i x) ext),c,lo⟩):=by
 rw[CE,g,CW];have e:Bl a i [x]=a.set i x:=by rw[NY,AX j];unfold Bl;simp
 rw[AX ⟨k,by rw[f];rfl⟩,f,AX ⟨b,by simp;omega⟩,e]
structure AC (c m n:Nat)(h0:Aa)(Y:List (AV×List Nat))(B:List Bool)(w:AV)(Q:List Nat)(st:St):Prop where
 lo:st.lo=c
 c3:c+3<=st.c
 tp:CL st.h<=st.c
 CY:∀p,p<c->AA st.h p=AA h0 p
 yl:Y.length=m
 Pv:AA st.h c=some (.cells 22 1 (Y.map (·.1)) false)
 bl:B.length=m
 ABj:AA st.h (c+1)=some (.cells 4 1 (Cj B) false)
 UB:∀y∈Y,VX st.h y.1 y.2/\(∀s∈y.2,s<n)/\y.2.length+TN B<=m/\∀p,Az y.1=some p->c+2<=p/\Az w≠some p
 q:QQ st.h w Q
 qm:∀x∈Q,x<m
 ql:Q.length+TN B<=m
 own:∀p,Az w=some p->c+2<=p
theorem tov{v:AV}{z:VZ}{k:Nat}(i:zi v z)(d:k<z.row.length):∃g f b q,v=.agg [g,f,b]/\(∀a:St,AY 1 b (.int .i64 (k:Int)) a=some (q,a))/\∀h,AQ h q=some (.int .i64 z.row[k]):=by
 obtain⟨l,j,c,rfl⟩:=i;have H:Co (.list c 1 (DC z.row)) 1 (DC z.row):=⟨.inr ⟨c,rfl⟩⟩;have e:k<(DC z.row).length:=by rw[Ns];exact d
 refine⟨_,_,_,.CB [(DC z.row)[k]],rfl,fun a=>?_,fun h=>?_⟩
 ·rw[H.idx e];simp[DC,AV.cells]
 ·simp[DC]
theorem vH{k c d:Nat}{h0:Aa}{cv nv fv sv ov ss w:AV}{zs:List AV}{g:Ac}{O Q:List Nat}{Z:List VZ}(d2:Co ov 1 (BI O))(d3:Co ss 3 zs)(f3:zs.length=Z.length)(hz:∀i (hi:i<Z.length),∃x,zs[i]? =some x/\zi x Z[i])(c0:∀s∈O,s<g.AB.length)(f0:O.length<=1000)(c5:∀z∈Z,ZOk g Z.length z)(d6:Z.length<=2000)(N:d<Z.length){Y:List (AV×List Nat)}{B:List Bool}{V:St}(A0:AC c Z.length g.AB.length h0 Y B w Q V)(r:TS)(z0:r.get 0=.CB [cv,nv,fv,sv,ov,ss])(z3:r.get 3=.AU c 0 Z.length (some Z.length))(z4:r.get 4=.AU (c+1) 0 Z.length (some Z.length))(z5:r.get 5=w)(z6:r.get 6=.int .i64 (d:Int))(t:r.get 36=ov)(m:r.get 37=.int .i64 (O.length:Int))(n:r.get 38=.int .i64 0) :
 (Dm (Bc E (Ab E (k+1)) C.f28L1) E.k r V).to fun x=>x.1=.exit 2/\Has x.2.1 [(0,.CB [cv,nv,fv,sv,ov,ss]),(3,.AU c 0 Z.length (some Z.length)),(4,.AU (c+1) 0 Z.length (some Z.length))]/\∃Y' l D,AC c Z.length g.AB.length h0 Y' l (x.2.1.get 5) D x.2.2/\2*TN l+D.length<=2*TN B+Q.length:=by
 refine Cy (fun (j:Nat) r V=>j<=O.length/\Has r [(0,.CB [cv,nv,fv,sv,ov,ss]),(3,.AU c 0 Z.length (some Z.length)),(4,.AU (c+1) 0 Z.length (some Z.length)),(6,.int .i64 (d:Int)),(36,ov),(37,.int .i64 (O.length:Int)),(38,.int .i64 (j:Int))]/\∃Y' l D,AC c Z.length g.AB.length h0 Y' l (r.get 5) D V/\2*TN l+D.length<=2*TN B+Q.length)
  (fun j=>O.length-j) ?_ _ 0 _ _ ?_ ?_
 ·clear z0 z3 z4 z5 z6 t m n A0;rintro j r ⟨h,c1,lo⟩ ⟨hj,b9,Y,l,D,b,b0⟩;have b4:=b.lo.symm;simp only at b4;subst b4;simp only[Be,CG,BX]at b9;obtain⟨z0,z3,z4,z6,t,m,n⟩:=b9;generalize K:r.get 5=w5 at b;have h3:c+3<=c1:=b.c3;have d5:CL h<=c1:=b.tp;by_cases Bi:j<O.length
  ·obtain⟨q1,a1,b1⟩:=(RL.sl (h:=h) d2).rs.rd Bi;have a3:∀J,AY 1 ov (.int .i64 (j:Int)) ⟨h,J,c⟩=some (q1,⟨h,J,c⟩):=fun J=>a1 _ rfl;obtain⟨s,c9⟩:∃s,s=O[j]:=⟨_,rfl⟩;have c6:s<g.AB.length:=c9▸c0 _ (BH Bi);rw[←c9]at b1;have b6:=c5 _ (BH N);have c8:s<Z[d].row.length:=by rw[b6.rl];exact c6
   obtain⟨zv,e1,e2⟩:=hz d N;obtain⟨pl,ah,to,q2,rfl,a2,b2⟩:=tov e2 c8;have c4:d<zs.length:=by omega
   have a6:∀V:St,AY 3 ss (.int .i64 (d:Int)) V=some (.CB [pl,ah,to],V):=fun V=>by rw[d3.idx c4];rw[Bu c4,Ct]at e1;rw[e1];rfl
   obtain⟨t1,t2⟩:=b6.lQ _ (BH c8);by_cases hneg:0<=Z[d].row[s]
   ·obtain⟨f,d8⟩:∃f:Nat,Z[d].row[s]=(f:Int):=⟨Z[d].row[s].toNat,by omega⟩;have A:=b2 h;rw[d8]at A t2;have v:f<Z.length:=by omega
    have a8:f<l.length:=by rw[b.bl];exact v
    have sf:AA h (c+1)=some (.cells 4 1 (Cj l) false):=b.ABj;have c7:=fun J=>KQ (c:=J) (lo:=c) sf v;have P:AQ h (.AL (c+1) f)=some (.bool l[f]):=by rw[BB,sf,Ik];simp[Cj,a8]
    cases hB:l[f] with
    |true=>rw[hB]at P;simp[C.f28L1,z0,z3,z4,K,z6,t,m,n,Bi,a3,b1,a6,a2,A,Cm,c7,P,wi j];exact⟨j+1,by omega,by omega,by simp,Y,l,D,b,b0⟩
    |false=>
     rw[hB]at P;have d4:f<(Cj l).length:=by simpa [Cj]using a8
     have W:=Oz (c:=c1) (lo:=c) sf (by omega) d4 (x:=.bool true) rfl rfl;have d1:(Cj l).set f (.bool true)=Cj (l.set f true):=by simp[Cj,GX]
     rw[d1]at W;obtain⟨H,L⟩:∃H,H=Ah h (c+1) (.cells 4 1 (Cj (l.set f true)) false):=⟨_,rfl⟩;rw[←L]at W;have S:∀p,p≠c+1->AA H p=AA h p:=fun p a=>by rw[L,Bn (Aj a)]
     have e8:CL H<=c1:=by rw[L,Cg];exact d5
     have f4:=ZK a8 hB;have d0:d<Y.length:=by rw[b.yl];exact N
     have e0:f<Y.length:=by rw[b.yl];exact v
     have a5:AA H c=some (.cells 22 1 (Y.map (·.1)) false):=(S c (by omega)).trans b.Pv;have e3:=fun J=>KQ (c:=J) (lo:=c) a5 N;have d9:AQ H (.AL c d)=some Y[d].1:=by rw[BB,a5,Ik];simp[d0]
     obtain⟨y1,y2,y3,y4⟩:=b.UB _ (BH d0);have y1:VX h Y[d].1 Y[d].2:=y1;have d7:VX H Y[d].1 Y[d].2:=y1.heap fun p a=>S p (by have:=(y4 p a).1;omega);obtain⟨w',b8,c3,eC,E3,f1,t3,a7,b7⟩:=oO (k:=k) (lo:=c) (c:=c1+2) d7 (by omega) (by omega);have F:∀p,c1<=p->AA H p=none:=fun p a=>by
      cases hf:AA H p with
      |none=>rfl
      |some x=>have:=Fb hf;omega
     obtain⟨h4,h5,n4,ap,f5,t5,e4⟩:=E3.more (c1:=c1) (c2:=c3) (lo:=c) (by omega) (by rw[a7 c1 (by omega)];exact F _ (Ao _)) (by rw[a7 (c1+1) (by omega)];exact F _ (by omega)) t3 (by omega) (fun p a=>by have:=b7 p a;omega) s;have o:∀p,p<c1->AA h5 p=AA H p:=fun p a=>by rw[e4 p (by omega) (by omega) fun e=>by have:=b7 p e;omega];exact a7 p (by omega)
     have a4:AA h5 c=some (.cells 22 1 (Y.map (·.1)) false):=(o c (by omega)).trans a5;have e6:=fun J=>KQ (c:=J) (lo:=c) a4 v;have b3:=Oz (c:=c3) (lo:=c) a4 (Ao _) (i:=f) (by simpa using e0) (x:=.AU (c1+1) 0 (Y[d].2.length+1) none) rfl rfl;obtain⟨h6,R⟩:∃h6,h6=Ah h5 c (.cells 22 1 ((Y.map (·.1)).set f (.AU (c1+1) 0 (Y[d].2.length+1) none)) false):=⟨_,rfl⟩;rw[←R]at b3;have I:∀p,p≠c->AA h6 p=AA h5 p:=fun p a=>by rw[R,Bn (Aj a)]
     have t6:CL h6<=c3:=by rw[R,Cg];exact t5
     have a9:∀p,Az w5=some p->p<c1/\p≠c+1/\p≠c:=fun p a=>by have h1:p<CL h:=b.q.lt a;have:=b.own p a;exact⟨by omega,by omega,by omega⟩
     have Q6:QQ h6 w5 D:=b.q.heap fun p a=>by obtain⟨i1,i2,i3⟩:=a9 p a;rw[I p i3,o p i1];exact S p i2
     obtain⟨p1,h7,w7,h8,p2,p3,Q8,t8,T,a0⟩:=Q6.push (c1:=c3) (lo:=c) t6 (fun p a=>by have:=b.own p a;omega) (by have:=b.ql;omega) f;have U:∀p,p<c1->p≠c->p≠c+1->Az w5≠some p->AA h8 p=AA h p:=fun p h1 e5 b8 e7=>by rw[T p (by omega) e7,I p e5,o p h1];exact S p b8
     have A8:AC c Z.length g.AB.length h0 (Y.set f (.AU (c1+1) 0 (Y[d].2.length+1) none,Y[d].2++[s])) (l.set f true) w7 (D++[f]) ⟨h8,c3+2,c⟩:=by
      have f2:=b.ql;refine⟨rfl,by show c+3<=c3+2;omega,t8,fun p a=>?_,by rw[IU];exact b.yl,?_,by rw[IU];exact b.bl,?_,fun y hy=>?_,Q8,fun x u=>?_,by rw[Bd,Fq];omega,fun p a=>?_⟩
      ·show AA h8 p=_;rw[U p (by omega) (by omega) (by omega) fun e=>by have:=b.own p e;omega];exact b.CY p a
      ·show AA h8 c=_;rw[T c (by omega) (fun e=>by have:=b.own c e;omega),R,Fy rfl,a4,GX];rfl
      ·show AA h8 (c+1)=_;rw[T (c+1) (by omega) (fun e=>by have:=b.own _ e;omega),I _ (by omega),o _ (by omega),L,Fy rfl,sf];rfl
      ·rcases Kr hy with hy|rfl
       ·obtain⟨x1,x2,x3,x4⟩:=b.UB y hy;have x1:VX h y.1 y.2:=x1;have b5:∀p,Az y.1=some p->p<c1:=fun p a=>by have:=x1.lt a;omega
        refine⟨x1.heap fun p a=>U p (b5 p a) (by have:=(x4 p a).1;omega) (by have:=(x4 p a).1;omega) (x4 p a).2,x2,by omega,fun p a=>⟨(x4 p a).1,fun e=>?_⟩⟩;rcases a0 p e with e|e
        ·have:=b5 p a;omega
        ·exact (x4 p a).2 e
       ·refine⟨.inr ⟨c1+1,by simp,by simp,?_⟩,fun x u=>?_,by rw[Bd,Fq];omega,fun p a=>?_⟩
        ·show AA h8 (c1+1)=_;rw[T (c1+1) (by omega) (fun e=>by have:=a9 _ e;omega),I _ (by omega)];exact f5
        ·rcases Ca.1 u with u|u
         ·exact y2 x u
         ·simp only[Di]at u;subst u;exact c6
        ·have e9:c1+1=p:=by simpa [Az]using a
         refine⟨by omega,fun e=>?_⟩;rcases a0 p e with e|e
         ·omega
         ·have:=a9 p e;omega
      ·rcases Ca.1 u with u|u
       ·exact b.qm x u
       ·simp only[Di]at u;subst u;exact v
      ·rcases a0 p a with e|e
       ·omega
       ·exact b.own p e
     have bs:BC c1 3 1 1 [.int .i64 0] [0] [.int .i64 (s:Int)]=some (.AU c1 0 1 (some 1),.cells 3 1 [.int .i64 (s:Int)] false):=rfl;simp[C.f28L1,z0,z3,z4,K,z6,t,m,n,Bi,a3,b1,a6,a2,A,Cm,c7,P,W,e3,d9,eC,bs,n4,ap,e6,b3,p1,p2,p3,wi j];exact⟨j+1,by omega,by omega,by simp,_,_,_,A8,by rw[Bd,Fq];omega⟩
   ·have hd:decide (0<=Z[d].row[s])=false:=FP hneg;have A:=b2 h;simp[C.f28L1,z0,z3,z4,K,z6,t,m,n,Bi,a3,b1,a6,a2,A,Da,hneg,wi j];exact⟨j+1,by omega,by omega,by simp,Y,l,D,b,b0⟩
  ·have:j=O.length:=by omega
   subst this;simp[C.f28L1,z0,z3,z4,K,m,n];exact⟨Y,l,D,b,b0⟩
 ·exact FX (by show O.length-0<1000000;omega)
 ·exact⟨by omega,by simp[z0,z3,z4,z6,t,m,n],Y,B,Q,by rw[z5];exact A0,Ao _⟩
def ZG(y:AV×List Nat):AV:=if y.2=[] then .AO else .list false 1 (BI y.2)
theorem AA2(y:AV×List Nat):Co (ZG y) 1 (BI y.2):=by
 unfold ZG;split
 ·rename_i h;rw[h];exact⟨.inl ⟨rfl,rfl⟩⟩
 ·exact⟨.inr ⟨false,rfl⟩⟩
theorem Tq(c:Nat):∀l:List Nat,AV.Dq c (BI l)=true
 |[]=>rfl
 |x::l=>by show (true&&AV.Dq c (BI l))=true;rw[Tq c l];rfl
theorem uR{c:Nat}{h:Aa}{y:AV×List Nat}(H:VX h y.1 y.2)(f:∀p,Az y.1=some p->c<=p)(n:Nat):Ce c h (n+2) y.1=some (ZG y):=by
 obtain⟨w,l⟩:=y;rcases H with⟨b,a⟩|⟨id,b,a,e⟩
 ·simp only at b a;subst b a;exact FH rfl
 ·simp only at b a e f;subst b;have d:(BI l).length=l.length:=by simp
  rw[Gh (f id rfl) e (by omega) (by omega) (cs':=BI l) (by rw[FB,Fe,←d,FQ];exact Hu (Tq c l))];unfold ZG;rw[AJ a];rw[←d,Jw]
theorem ZX{k c lo:Nat}{h:Aa}{v:AV}{g:Ac}{F O:List Nat}{N:List Bool}{Z:List VZ}(A:JN v g F N O Z)(ht:CL h<=c) :
 ∃w I,Ab E (k+2) 28 [v] ⟨h,c,lo⟩=.ret (w,⟨h,c,lo⟩)/\Co w 1 I/\I.length=Z.length/\∀i,i<Z.length->∃u l,I[i]? =some u/\Co u 1 (BI l)/\(∀s∈l,s<g.AB.length)/\l.length<=2000:=by
 have T:=A.xC;have b:=A.pos;have a5:=PE A.TK.Nf.small;obtain⟨cv,nv,fv,sv,ov,ss,zs,rfl,hC,c1,c6,c0,a4,a6,R,hz⟩:=A.out;obtain⟨m,U⟩:∃m,Z.length=m:=⟨_,rfl⟩;rw[U]at T b R ⊢;have sl:∀st:St,BZ .slice ss st=some (.int .i64 (m:Int),st):=fun st=>by have:=a6.len (st:=st);rw[R]at this;exact this
 have ol:∀st:St,BZ .slice ov st=some (.int .i64 (O.length:Int),st):=fun st=>by have:=a4.len (st:=st);simpa using this
 have d:m*24<=room/\m<=room:=by unfold room;omega
 have b5:Dy c 22 1 24 [.AO] (.int .i64 (m:Int)) (.int .i64 (m:Int))=some (.AU c 0 m (some m),.cells 22 1 (List.replicate m .AO) false):=by simp[Dy,Bg,ble_eq,blt_eq,d.1,d.2,Iq]
 have b2:Dy (c+1) 4 1 1 [.bool false] (.int .i64 (m:Int)) (.int .i64 (m:Int))=some (.AU (c+1) 0 m (some m),.cells 4 1 (Cj (List.replicate m false)) false):=by simp[Dy,Bg,ble_eq,blt_eq,d.2,Iq,Cj]
 obtain⟨V,D⟩:∃V:Aa,V=(c,BJ.cells 22 1 (List.replicate m .AO) false)::h:=⟨_,rfl⟩;have n1:BA c (.cells 22 1 (List.replicate m .AO) false) ⟨h,c+1,c⟩=some ⟨V,c+1,c⟩:=by rw[D];exact BF ht
 have t1:CL V<=c+1:=by rw[D,Ay];omega
 obtain⟨J,j⟩:∃J:Aa,J=(c+1,BJ.cells 4 1 (Cj (List.replicate m false)) false)::V:=⟨_,rfl⟩;have n2:BA (c+1) (.cells 4 1 (Cj (List.replicate m false)) false) ⟨V,c+2,c⟩=some ⟨J,c+2,c⟩:=by rw[j];exact BF t1
 have t2:CL J<=c+2:=by rw[j,Ay];omega
 have f2:AA J (c+1)=some (.cells 4 1 (Cj (List.replicate m false)) false):=by rw[j,BV rfl]
 have b3:AY 1 (.AU (c+1) 0 m (some m)) (.int .i64 0) ⟨J,c+2,c⟩=some (.AL (c+1) 0,⟨J,c+2,c⟩):=KQ (c:=c+2) (lo:=c) f2 (i:=0) b;have P:=Oz (c:=c+2) (lo:=c) f2 (by omega) (i:=0) (by simpa [Cj]using b) (x:=.bool true) rfl rfl;have a9:(Cj (List.replicate m false)).set 0 (.bool true)=Cj ((List.replicate m false).set 0 true):=by simp[Cj,GX]
 rw[a9]at P;obtain⟨W,o⟩:∃W,W=Ah J (c+1) (.cells 4 1 (Cj ((List.replicate m false).set 0 true)) false):=⟨_,rfl⟩;rw[←o]at P;have bs:BC (c+2) 3 1 1 [.int .i64 0] [0] [.int .i64 0]=some (.AU (c+2) 0 1 (some 1),.cells 3 1 [.int .i64 0] false):=rfl;obtain⟨z,f⟩:∃z:Aa,z=(c+2,BJ.cells 3 1 [.int .i64 0] false)::W:=⟨_,rfl⟩;have t3:CL W<=c+2:=by rw[o,Cg];exact t2
 have n4:BA (c+2) (.cells 3 1 [.int .i64 0] false) ⟨W,c+3,c⟩=some ⟨z,c+3,c⟩:=by rw[f];exact BF t3
 have c4:TN ((List.replicate m false).set 0 true)+1=m:=by have:=ZK (B:=List.replicate m false) (k:=0) (by simpa using b) (by simp);rw[this];unfold TN;rw[List.countP_eq_length.2 fun x K=>by rw[(QV.1 K).2];rfl];simp
 have A0:AC c m g.AB.length h (List.replicate m (.AO,[])) ((List.replicate m false).set 0 true) (.AU (c+2) 0 1 (some 1)) [0] ⟨z,c+3,c⟩:=by
  refine⟨rfl,Ao _,by show CL z<=c+3;rw[f,Ay];omega,fun p t=>?_,by simp,?_,by simp,?_,fun y hy=>?_,⟨c+2,some 1,[],[],false,rfl,by show AA z (c+2)=_;rw[f,BV rfl];rfl,.inr rfl⟩,fun x K=>?_,by simp;omega,fun p t=>?_⟩
  ·show AA z p=_;rw[f,Ar (by omega),o,Bn (by omega),j,Ar (by omega),D,Ar (by omega)]
  ·show AA z c=_;rw[f,Ar (by omega),o,Bn (by omega),j,Ar (by omega),D,BV rfl];simp
  ·show AA z (c+1)=_;rw[f,Ar (by omega),o,Fy rfl,f2];rfl
  ·have:=(QV.1 hy).2;subst this;exact⟨.inl ⟨rfl,rfl⟩,by simp,by simp;omega,fun p t=>by cases t⟩
  ·simp only[Di]at K;subst K;exact b
  ·have:c+2=p:=by simpa [Az]using t
   omega
 have b1:O.length<=1000:=by rw[A.AAK];exact a5
 have a7:=A.zok;rw[FD (fn:=C.f28) rfl rfl rfl,Ap (by simp)];have goal:(((Bc E (Ab E (k+1)) C.f28.body (TS.FK [.CB [cv,nv,fv,sv,ov,ss]] 0 .nil) ⟨h,c,c⟩).bind (Al C.f28.results)).bind (BU c ⟨h,c,lo⟩)).to fun x=>x.2=⟨h,c,lo⟩/\∃I,Co x.1 1 I/\I.length=m/\∀i,i<m->∃u l,I[i]? =some u/\Co u 1 (BI l)/\(∀s∈l,s<g.AB.length)/\l.length<=2000:=by
  simp[C.f28,sl,b5,n1,b2,n2,b3,P,bs,n4];refine M.BG (Df (fun (n:Nat) S st=>Has S [(0,.CB [cv,nv,fv,sv,ov,ss]),(3,.AU c 0 m (some m)),(4,.AU (c+1) 0 m (some m))]/\n<=10000/\∃Y B Q,AC c m g.AB.length h Y B (S.get 5) Q st/\2*TN B+Q.length=n) (fun n=>n) (fun e S st=>e=.exit 0/\S.get 3=.AU c 0 m (some m)/\∃Y B w Q,AC c m g.AB.length h Y B w Q st) ?_ _ (2*TN ((List.replicate m false).set 0 true)+1) _ _ ?_ ?_) ?_
  ·rintro n S ⟨H,c5,b6⟩ ⟨a2,hn,Y,B,Q,a,b7⟩;have L:=a.lo.symm;simp only at L;subst L;simp only[Be,CG,BX]at a2;obtain⟨z0,z3,z4⟩:=a2;generalize a8:S.get 5=w5 at a;have wl:=a.q.len (st:=⟨H,c5,c⟩);cases Q with
   |nil=>simp[C.f28L0,z3,a8,wl];exact⟨Y,B,w5,[],a⟩
   |cons ni Q=>
    obtain⟨q,w',ix,rd,sp,Q',a3⟩:=QQ.pop (c:=c5) (lo:=c) a.q;have A2:AC c m g.AB.length h Y B w' Q ⟨H,c5,c⟩:=⟨rfl,a.c3,a.tp,a.CY,a.yl,a.Pv,a.bl,a.ABj,fun y hy=>by
     obtain⟨x1,x2,x3,x4⟩:=a.UB y hy
     exact⟨x1,x2,x3,fun p t=>by rw[a3];exact x4 p t⟩,Q',fun x K=>a.qm x (by simp[K]),by have:=a.ql;simp at this;omega,fun p t=>a.own p (by rw[←a3];exact t)⟩
    have a1:ni<m:=a.qm ni (by simp);rw[←U]at A2 a1;simp only[FV]at wl b7;have hd:decide ((0:Int)<((Q.length+1:Nat):Int))=true:=Bw (by omega);have b9:decide ((0:Int)<(Q.length:Int)+1)=true:=Bw (by omega);simp[C.f28L0,z0,a8,wl,ix,rd,sp,ol];refine M.BG (vH (k:=k) (cv:=cv) (nv:=nv) (fv:=fv) (sv:=sv) a4 a6 (by rw[U];exact R) hz A.sub b1 a7 (by omega) a1 A2 _ (by simp[z0]) (by simp[z3,U]) (by simp[z4,U]) (by simp) (by simp) (by simp) (by simp) (by simp)) fun x K=>?_;obtain⟨e,c7,c2⟩:=x;obtain⟨rfl,r,Y1,B1,Q1,A3,b8⟩:=K;simp only at r A3;simp only[Be,CG,BX,U]at r;rw[U]at A3;obtain⟨k0,k3,k4⟩:=r;simp[k0,k3,k4];exact⟨2*TN B1+Q1.length,by omega,by omega,Y1,B1,Q1,A3,rfl⟩
  ·exact FX (by show 2*TN ((List.replicate m false).set 0 true)+1<1000000;omega)
  ·exact⟨by simp,by omega,_,_,_,by simpa using A0,rfl⟩
  ·rintro⟨e,S,⟨H,c5,b6⟩⟩ ⟨rfl,z3,Y,B,w,Q,a⟩;simp only at z3 a;have b0:AA H c=some (.cells 22 1 (Y.map (·.1)) false):=a.Pv;have b4:(Y.map (·.1)).length=m:=by simp;exact a.yl
   have e1:Y.map (·.1)=Y.flatMap fun y=>[y.1]:=by rw[MM]
   have e2:Y.map ZG=Y.flatMap fun y=>[ZG y]:=by rw[MM]
   have th:Ce c H Ck (.AU c 0 m (some m))=some (.list (tight (some m) m) 1 (Y.map ZG)):=by
    show Ce c H (63+1) _=_;rw[Gh (Ao _) b0 (by omega) (by omega) (cs':=Y.map ZG) (by
     rw[FB,Fe,←b4,FQ,e1,e2]
     exact Ti fun y hy=>by
      obtain⟨x1,_,_,x4⟩:=a.UB y hy
      have:=uR (c:=c) x1 (fun p t=>by have:=(x4 p t).1;omega) 61
      simp only[Nat.reduceAdd]at this
      simp[DD,this])]
    have:(Y.map ZG).length=m:=by simp;exact a.yl
    rw[←this,Jw];rfl
   simp[z3,Al,results,Af,BU,th];refine⟨Y.map ZG,⟨.inr ⟨_,rfl⟩⟩,by simp;exact a.yl,fun i hi=>?_⟩;have a0:i<Y.length:=by rw[a.yl];exact hi
   obtain⟨x1,x2,x3,x4⟩:=a.UB _ (BH a0);exact⟨ZG Y[i],by simp[a0],Y[i].2,AA2 _,x2,by omega⟩
 obtain⟨⟨w,c8⟩,e,H,I,h6,h7,h8⟩:=goal;simp only at H h6;subst H;exact⟨w,I,e,h6,h7,h8⟩
def ACT(s:Bz):List AV:=[.str s]
def Za(ty:Nat)(c lo:Nat)(h0:Aa)(w:AV)(st:St):Prop:=∃L:List Bz,GL 9 1 ACT c h0 w L st/\L.length<=100000/\st.lo=lo
theorem ZQ{k c lo:Nat}{h:Aa}{I m:AV}{g:Ac}{l:List Nat}(R:Gu I g)(D:∀s∈l,s<g.AB.length)(T:l.length<=100000)(W:CL h<=c)(F:lo<=c)(O:qi c h 1 Fx m l) :
 ∃w d,Ab E (k+1) 27 [I,m] ⟨h,c,lo⟩=.ret (w,d)/\Za 9 c lo h w d:=by
 obtain⟨u,r,f,a0,Q,rfl,H,_⟩:=R.out;rw[Av (fn:=C.f27) rfl rfl rfl,Ap (by simp)];have B:∀b:St,BZ .slice m b=some (.int .i64 (l.length:Int),b):=fun b=>by have:=O.self.len;simp[BZ,this]
 have goal:((Bc E (Ab E k) C.f27.body (TS.FK [.CB [u,.int .i64 (g.Ae.length:Nat),.int .i64 (g.ix g.Ai:Nat),r,f,.CR (Bf g.AB) (BI (List.range g.AB.length))],m] 0 .nil) ⟨h,c,lo⟩).bind (Al C.f27.results)).to fun x=>Za 9 c lo h x.1 x.2:=by
  simp[C.f27,B];refine M.BG (Df (fun (i:Nat) j b=>i<=l.length/\Has j [(0,.CB [u,.int .i64 (g.Ae.length:Nat),.int .i64 (g.ix g.Ai:Nat),r,f,.CR (Bf g.AB) (BI (List.range g.AB.length))]),(8,m),(9,.int .i64 (l.length:Int)),(10,.int .i64 (i:Int))]/\b.lo=lo/\∃L:List Bz,GL 9 1 ACT c h (j.get 5) L b/\L.length=i) (fun i=>l.length-i) (fun e j b=>e=.exit 0/\Za 9 c lo h (j.get 5) b) ?_ _ 0 _ _ ?_ ?_) ?_
  ·rintro i j ⟨o,c1,Z⟩ ⟨hi,t,a,L,G,Y⟩;simp only at a;have a:=a.symm;subst a;simp only[Be,CG,BX]at t;obtain⟨z0,z8,N,n⟩:=t;generalize K:j.get 5=w at G;by_cases Bi:i<l.length
   ·obtain⟨q,a1,U⟩:=(O o G.CY).rd Bi;have A:∀y,AY 1 m (.int .i64 (i:Int)) ⟨o,y,lo⟩=some (q,⟨o,y,lo⟩):=fun y=>a1 _ rfl;have z:=D _ (BH Bi);have ix:∀b:St,AY 1 u (.int .i64 (l[i]:Int)) b=some (.CB [.str g.AB[l[i]]],b):=fun b=>by
     have D:l[i]<(Bf g.AB).length:=by rw[Gb];exact z
     rw[H.idx D];simp[Bf,AV.cells]
    obtain⟨p1,h3,w',h4,V,P,G2,_⟩:=G.push (bytes:=16) (v:=.str g.AB[l[i]]) (x:=g.AB[l[i]]) (zero:=[.str []]) (fun _=>rfl) (by omega) rfl rfl rfl (by omega) (by omega);simp[C.f27L0,z0,z8,N,n,K,Bi,A,U,ix,p1,V,P,wi i];exact⟨i+1,by omega,by omega,by simp,_,G2,by simp[Y]⟩
   ·have:i=l.length:=by omega
    subst this;simp[C.f27L0,N,n,K];exact⟨L,G,by omega,rfl⟩
  ·exact FX (by show l.length-0<1000000;omega)
  ·exact⟨by omega,by simp,rfl,[],⟨F,Ao _,W,fun _ _=>rfl,by simp;exact .nl,fun p J=>by simp at J;cases J⟩,rfl⟩
  ·rintro⟨e,j,b⟩ ⟨rfl,S⟩;simp only at S;simp[Al,results,Af];exact S
 obtain⟨⟨w,d⟩,e,o⟩:=goal;exact⟨w,d,e,o⟩
def qy(c lo:Nat)(h0:Aa)(x:AV×St):Prop:=∃w e h1,x.1=.tuple [w,.int .i64 e]/\(∀p,p<c->AA h1 p=AA h0 p)/\Za 9 (c+1) lo h1 w x.2
theorem eU{k c lo:Nat}{h:Aa}{W:AV}{g:Ac}(T:GD W g)(hs:g.Small)(kind state:Int)(ht:CL h<=c)(a3:lo<=c) :
 (Ab E (k+10) 11 [W,.int .i64 kind,.int .i64 state] ⟨h,c,lo⟩).to (qy c lo h):=by
 rw[Av (fn:=C.f11) rfl rfl rfl,Ap (by simp)];obtain⟨B,y,l,rfl,hk,hr,a7⟩:=id T;obtain⟨a,b⟩:∃a:Aa,a=(c,BJ.cells 29 3 [B,.str g.Ai,y] false)::h:=⟨_,rfl⟩;have j:BA c (.cells 29 3 [B,.str g.Ai,y] false) ⟨h,c+1,lo⟩=some ⟨a,c+1,lo⟩:=by rw[b];exact BF ht
 have n:Ak a (.AL c 0) 3=some [B,.str g.Ai,y]:=by rw[Bv,b,BV rfl];rfl
 have I:CL a<=c+1:=by rw[b,Ay];omega
 have V:∀p,p<c->AA a p=AA h p:=fun p hp=>by rw[b,Ar (by omega)]
 have none_:∀e:Int,qy c lo h (.tuple [.AO,.int .i64 e],⟨a,c+1,lo⟩):=fun e=>⟨.AO,e,a,rfl,V,[],⟨by show lo<=c+1;omega,Ao _,I,fun _ _=>rfl,.nl,fun p hp=>by cases hp⟩,by simp,rfl⟩;obtain⟨r,m,q⟩:=WV (k:=k) (st:=⟨a,c+1,lo⟩) T hs kind;rcases q with⟨e,he,rfl⟩|⟨v,F,N,O,Z,rfl,U⟩
 ·have hb:(e !=0)=true:=Ho.2 he;simp[C.f11,j,n,m,hb,Al,results,Af];exact none_ e
 ·have Q:=U;obtain⟨cv,nv,fv,sv,ov,o,zs,K,hC,a2,a8,a1,a5,A,x,hz⟩:=Q.out;have sl:∀st:St,BZ .slice o st=some (.int .i64 (Z.length:Int),st):=fun st=>by have:=A.len (st:=st);rw[x]at this;exact this
  have f:∀st:St,DT v st=some (v,st):=fun st=>by rw[K];rfl
  have d:∀st:St,Cx 5 v st=some (.CB [o],st):=fun st=>by rw[K];rfl
  have P:∀st:St,Cx 0 v st=some (.CB [cv,nv,fv,sv,ov,o],st):=fun st=>by rw[K];rfl
  by_cases hlt0:state<0
  ·simp[C.f11,j,n,m,hlt0,Da,Al,results,Af];exact none_ 8
  ·by_cases hge:(Z.length:Int)<=state
   ·simp[C.f11,j,n,m,hlt0,hge,f,d,sl,Cm,Al,results,Af];exact none_ 8
   ·obtain⟨s,rfl⟩:∃s:Nat,state=(s:Int):=⟨state.toNat,by omega⟩;have z:s<Z.length:=by omega
    obtain⟨w,xs,J,hw,a4,hx⟩:=ZX (k:=k+7) (c:=c+1) (lo:=lo) U I;obtain⟨u,lu,R,Y,e3,e4⟩:=hx s z;have i:s<xs.length:=by omega
    have H:∀st:St,AY 1 w (.int .i64 (s:Int)) st=some (.CB [u],st):=fun st=>by
     rw[hw.idx i];rw[Bu i,Ct]at R;rw[R];have:u.cells=[u]:=by rcases Y.out with⟨rfl,_⟩|⟨t,rfl⟩<;>rfl
     rw[this]
    obtain⟨w2,a6,L,S⟩:=ZQ (k:=k+8) (c:=c+1) (lo:=lo) (h:=a) hC e3 (by omega) I (by omega) (fun h' _=>Ku Y);have a0:¬(Z.length:Int)<=(s:Int):=hge;have D:¬Z.length<=s:=by omega
    simp[C.f11,j,n,m,hlt0,D,f,d,P,sl,Cm,Dp,DX,Cc,Ci,DK,beq_eq,AV.DU,J,H,L,Al,results,Af];exact⟨w2,0,a,rfl,V,S⟩
def WS(h:Aa)(c ty sz:Nat)(w:AV):Prop:=w=.AO∨∃id len cap X ext,w=.AU id 0 len cap/\AA h id=some (.cells ty sz X ext)/\len*sz<=X.length/\c<=id/\len<=200000
theorem WS.heap{h h':Aa}{c ty sz:Nat}{w:AV}(H:WS h c ty sz w)(e:∀p,Az w=some p->AA h' p=AA h p):WS h' c ty sz w:=by
 rcases H with H|⟨id,len,cap,X,ext,rfl,d,a,b⟩
 ·exact .inl H
 ·exact .inr ⟨id,len,cap,X,ext,rfl,(e id rfl).trans d,a,b⟩
theorem WS.lt{h:Aa}{c ty sz p:Nat}{w:AV}(H:WS h c ty sz w)(a:Az w=some p):p<CL h:=by
 rcases H with rfl|⟨id,len,cap,X,ext,rfl,b,d,e⟩
 ·cases a
 ·cases a;exact Fb b
theorem WS.one{h:Aa}{c ty sz:Nat}{w:AV}(H:WS h c ty sz w):w.isTuple=false/\w.cells=[w]:=by rcases H with rfl|⟨id,len,cap,X,ext,rfl,b,a,d⟩<;>exact⟨rfl,rfl⟩
theorem Gq.ws{α:Type}{b:α->List AV}{h:Aa}{e d c:Nat}{w:AV}{L:List α}(G:Gq h e d b w L)(i:∀x,(b x).length=d)(j:∀p,Az w=some p->c<=p)(a:L.length<=200000):WS h c e d w:=by
 cases G with
 |nl=>exact .inl rfl
 |ob id _ rest ext cap f g=>exact .inr ⟨id,L.length,cap,_,ext,rfl,f,by rw[Bd,Ib i];omega,j id rfl,a⟩
theorem ve{h:Aa}{e c lo ty sz n:Nat}{v:AV}{zero cs:List AV}(f:AA h e=none)(d:lo<=e)(q:v.isTuple=false)(l:v.cells=cs)(i:cs.length=n)(s:zero.length=n) :
 ∃a b,BA e (.cells ty sz zero false) ⟨h,c,lo⟩=some ⟨a,c,lo⟩/\BM n (.AL e 0) v ⟨a,c,lo⟩=some (.undef,⟨b,c,lo⟩)/\AA b e=some (.cells ty sz cs false)/\CL b<=max (CL h) (e+1)/\∀p,p≠e->AA b p=AA h p:=by
 obtain⟨a,o,j,m⟩:=PD (c:=c) (lo:=lo) (y:=.cells ty sz zero false) f;have k:AA a e=some (.cells ty sz zero false):=by rw[j,AX rfl]
 refine⟨a,Ah a e (.cells ty sz cs false),o,?_,by rw[Fy rfl,k];rfl,by rw[Cg];exact m,fun p g=>by rw[Bn (Aj g),j,AJ (Aj g)]⟩;rw[CE,k,CW,AX ⟨q,by rw[l];exact i⟩,l,AX ⟨d,by omega⟩];have r:Bl zero 0 cs=cs:=by unfold Bl;simp[i,s]
 rw[r]
theorem wy{h:Aa}{p:Nat}(a:CL h<=p):AA h p=none:=by
 cases hf:AA h p with
 |none=>rfl
 |some x=>have:=Fb hf;omega
def PY(x:Bz×Int):List AV:=[.str x.1,.int .i64 x.2]
def FrD(d lo:Nat)(h0:Aa)(st:St):Prop:=st.lo=lo/\CL st.h<=st.c/\d<=st.c/\∀p,p<d->AA st.h p=AA h0 p
structure MI (d lo n:Nat)(h0:Aa)(sv:List AV)(mv rd:AV)(LM LR:List (Bz×Int))(B:List Bool)(st:St):Prop where
 fB:st.lo=lo
 lod:lo<=d
 c3:d+3<=st.c
 tp:CL st.h<=st.c
 CY:∀p,p<d->AA st.h p=AA h0 p
 sf:AA st.h d=some (.cells 137 3 sv false)
 xf:AA st.h (d+1)=some (.cells 38 2 [mv,rd] false)
 bf:AA st.h (d+2)=some (.cells 4 1 (Cj B) false)
 bl:B.length=n
 gm:Gq st.h 41 2 PY mv LM
 gr:Gq st.h 44 2 PY rd LR
 om:∀p,Az mv=some p->d+3<=p
 wV:∀p,Az rd=some p->d+3<=p
section
variable {d lo n:Nat}{h0:Aa}{sv:List AV}{mv rd:AV}{LM LR:List (Bz×Int)}{B:List Bool}
theorem MI.ng{a:St}(H:MI d lo n h0 sv mv rd LM LR B a):FrD d lo h0 a:=⟨H.fB,H.tp,by have:=H.c3;omega,H.CY⟩
theorem MI.grow{h f:Aa}{b c:Nat}(H:MI d lo n h0 sv mv rd LM LR B ⟨h,b,lo⟩)(k:b<=c)(i:CL f<=c)(e:∀p,p<b->AA f p=AA h p):MI d lo n h0 sv mv rd LM LR B ⟨f,c,lo⟩:=by have j:d+3<=b:=H.c3;have g:CL h<=b:=H.tp;exact⟨rfl,H.lod,by show d+3<=c;omega,i,fun p a=>(e p (by omega)).trans (H.CY p a),(e d (by omega)).trans H.sf,(e (d+1) (by omega)).trans H.xf,(e (d+2) (by omega)).trans H.bf,H.bl,H.gm.heap fun p a=>e p (Bt (H.gm.lt a) g),H.gr.heap fun p a=>e p (Bt (H.gr.lt a) g),H.om,H.wV⟩
theorem MI.ne{o:St}(H:MI d lo n h0 sv mv rd LM LR B o){p:Nat}(g:Az mv=some p):Az rd≠some p:=fun j=>by
 have q:=H.gm;have i:=H.gr;cases q with
 |nl=>cases g
 |ob id _ rest ext cap l s=>
  cases g;generalize b:rd=r at i;cases i with
  |nl=>subst b;cases j
  |ob f _ c h k a m=>
   subst b;have e:f=p:=by simpa [Az]using j
   rw[e,l]at a;cases a
theorem MI.AFL{h:Aa}{a:Nat}(H:MI d lo n h0 sv mv rd LM LR B ⟨h,a,lo⟩)(x:Bz×Int)(D:LR.length<2^20) :
 BC a 44 2 1 [.str [],.int .i64 0] [0] [.agg (PY x)]=some (.AU a 0 1 (some 1),.cells 44 2 (PY x) false)/\∃l f g r,BA a (.cells 44 2 (PY x) false) ⟨h,a+2,lo⟩=some ⟨l,a+2,lo⟩/\Bq (a+1) 44 2 24 rd (.AU a 0 1 (some 1)) ⟨l,a+2,lo⟩=some (f,⟨g,a+2,lo⟩) /\
  BM 1 (.AL (d+1) 1) f ⟨g,a+2,lo⟩=some (.undef,⟨r,a+2,lo⟩)/\MI d lo n h0 sv mv f LM (LR++[x]) B ⟨r,a+2,lo⟩:=by
 have k:=H.lod;have r:d+3<=a:=H.c3;have u:CL h<=a:=H.tp;obtain⟨A,l,f,g,F,y,G,z,w,I,K⟩:=JE (c':=a+2) (bytes:=24) (zero:=[.str [],.int .i64 0]) (v:=.agg (PY x)) (x:=x) (enc:=PY) (sz:=2) (fun _=>rfl) (by omega) H.gr u (lo:=lo) (fun p m=>by have:=H.wV p m;omega) rfl rfl rfl D (by omega);have c:∀q,q<d+3->AA g q=AA h q:=fun q b=>w q (by omega) fun e=>by have:=H.wV q e;omega
 have t:AA g (d+1)=some (.cells 38 2 [mv,rd] false):=(c _ (by omega)).trans H.xf;have j:=G.one;have s:BM 1 (.AL (d+1) 1) f ⟨g,a+2,lo⟩=some (.undef,⟨Ah g (d+1) (.cells 38 2 [mv,f] false),a+2,lo⟩):=by
  have o:lo<=d+1:=by omega
  rw[CE,t,CW];simp[j,o]
 have i:∀q,Az f=some q->d+3<=q:=fun q b=>by
  rcases I q b with e|e
  ·omega
  ·exact H.wV q e
 have J:∀q,Az mv=some q->q<a:=fun q b=>Bt (H.gm.lt b) u;refine⟨A,l,f,g,_,F,y,s,rfl,k,by show d+3<=a+2;omega,by show CL (Ah _ _ _)<=_;rw[Cg];exact z,fun p m=>(Bn (by omega)).trans ((c p (by omega)).trans (H.CY p m)),(Bn (by omega)).trans ((c d (by omega)).trans H.sf),by show AA (Ah _ _ _) _=_;rw[Fy rfl,t];rfl,(Bn (by omega)).trans ((c _ (by omega)).trans H.bf),H.bl,H.gm.heap fun q b=>(Bn (by have:=H.om q b;omega)).trans (w q (J q b) (H.ne b)),G.heap fun q b=>Bn (by have:=i q b;omega),H.om,i⟩
theorem MI.AFN{h:Aa}{a:Nat}(H:MI d lo n h0 sv mv rd LM LR B ⟨h,a,lo⟩)(x:Bz×Int)(D:LM.length<2^20) :
 BC a 41 2 1 [.str [],.int .i64 0] [0] [.agg (PY x)]=some (.AU a 0 1 (some 1),.cells 41 2 (PY x) false)/\∃l f g r,BA a (.cells 41 2 (PY x) false) ⟨h,a+2,lo⟩=some ⟨l,a+2,lo⟩/\Bq (a+1) 41 2 24 mv (.AU a 0 1 (some 1)) ⟨l,a+2,lo⟩=some (f,⟨g,a+2,lo⟩) /\
  BM 1 (.AL (d+1) 0) f ⟨g,a+2,lo⟩=some (.undef,⟨r,a+2,lo⟩)/\MI d lo n h0 sv f rd (LM++[x]) LR B ⟨r,a+2,lo⟩:=by
 have k:=H.lod;have r:d+3<=a:=H.c3;have u:CL h<=a:=H.tp;obtain⟨A,l,f,g,F,y,G,z,w,I,K⟩:=JE (c':=a+2) (bytes:=24) (zero:=[.str [],.int .i64 0]) (v:=.agg (PY x)) (x:=x) (enc:=PY) (sz:=2) (fun _=>rfl) (by omega) H.gm u (lo:=lo) (fun p m=>by have:=H.om p m;omega) rfl rfl rfl D (by omega);have c:∀q,q<d+3->AA g q=AA h q:=fun q b=>w q (by omega) fun e=>by have:=H.om q e;omega
 have t:AA g (d+1)=some (.cells 38 2 [mv,rd] false):=(c _ (by omega)).trans H.xf;have j:=G.one;have s:BM 1 (.AL (d+1) 0) f ⟨g,a+2,lo⟩=some (.undef,⟨Ah g (d+1) (.cells 38 2 [f,rd] false),a+2,lo⟩):=by
  have o:lo<=d+1:=by omega
  rw[CE,t,CW];simp[j,o]
 have i:∀q,Az f=some q->d+3<=q:=fun q b=>by
  rcases I q b with e|e
  ·omega
  ·exact H.om q e
 have J:∀q,Az rd=some q->q<a:=fun q b=>Bt (H.gr.lt b) u;refine⟨A,l,f,g,_,F,y,s,rfl,k,by show d+3<=a+2;omega,by show CL (Ah _ _ _)<=_;rw[Cg];exact z,fun p m=>(Bn (by omega)).trans ((c p (by omega)).trans (H.CY p m)),(Bn (by omega)).trans ((c d (by omega)).trans H.sf),by show AA (Ah _ _ _) _=_;rw[Fy rfl,t];rfl,(Bn (by omega)).trans ((c _ (by omega)).trans H.bf),H.bl,G.heap fun q b=>Bn (by have:=i q b;omega),H.gr.heap fun q b=>(Bn (by have:=H.wV q b;omega)).trans (w q (J q b) fun e=>H.ne e b),i,H.wV⟩
theorem MI.AHC{h:Aa}{f j:Nat}(H:MI d lo n h0 sv mv rd LM LR B ⟨h,f,lo⟩)(r:j<n)(b:Bool):BM 1 (.AL (d+2) j) (.bool b) ⟨h,f,lo⟩=some (.undef,⟨Ah h (d+2) (.cells 4 1 (Cj (B.set j b)) false),f,lo⟩)/\MI d lo n h0 sv mv rd LM LR (B.set j b) ⟨Ah h (d+2) (.cells 4 1 (Cj (B.set j b)) false),f,lo⟩:=by
 have a:=H.lod;have l:AA h (d+2)=some (.cells 4 1 (Cj B) false):=H.bf;have g:=H.bl;have e:(Cj B).set j (.bool b)=Cj (B.set j b):=by simp[Cj,GX]
 have m:=Oz (c:=f) (lo:=lo) l (by omega) (i:=j) (by simp;omega) (x:=.bool b) rfl rfl;rw[e]at m;exact⟨m,rfl,a,H.c3,by show CL (Ah _ _ _)<=_;rw[Cg];exact H.tp,fun p o=>(Bn (by omega)).trans (H.CY p o),(Bn (by omega)).trans H.sf,(Bn (by omega)).trans H.xf,by show AA (Ah _ _ _) _=_;rw[Fy rfl,l];rfl,by rw[IU];exact g,H.gm.heap fun q k=>Bn (by have:=H.om q k;omega),H.gr.heap fun q k=>Bn (by have:=H.wV q k;omega),H.om,H.wV⟩
end
def MIx(d lo n:Nat)(h0:Aa)(sv:List AV)(i:Nat)(st:St):Prop:=∃mv rd LM LR B,MI d lo n h0 sv mv rd LM LR B st/\LM.length<=i/\LR.length<=i
def ADb(d lo n:Nat)(h0:Aa)(sv:List AV)(Bo:TS->Prop)(i:Nat)(x:KN×TS×St):Prop:=
 (x.1=.ret/\x.2.1.get 2=.AO/\x.2.1.get 3=.bool false/\FrD d lo h0 x.2.2)∨(x.1=.exit 2/\Bo x.2.1/\MIx d lo n h0 sv i x.2.2)
theorem AAY{k d lo:Nat}{h0:Aa}{v bw:AV}{g:Ac}{F O:List Nat}{N:List Bool}{Z:List VZ}(A:JN v g F N O Z){z:VZ}(U:ZOk g Z.length z){tp ta tt:Bool}(c8:Co bw 1 (BI (bitsOf g))){st:St}(M0:MIx d lo g.AB.length h0 [.list tp 2 (z.P.map FR),.list ta 1 (z.A.map JQ),.list tt 1 (DC z.row)] 0 st)(l:List (Nat×AV))(a2:∀p∈l,p.1<10/\p.1≠2/\p.1≠3∨(13<p.1/\p.1<20))(R:TS)(zk:∀p∈l,R.get p.1=p.2)(z0:R.get 0=v)(z6:R.get 6=.AL d 0)(z7:R.get 7=.AL (d+1) 0)(z8:R.get 8=.AU (d+2) 0 g.AB.length (some g.AB.length))(K:R.get 33=bw)(D:R.get 34=.int .i64 ((bitsOf g).length:Int))(w:R.get 35=.int .i64 0) :
 (Dm (Bc E (Ab E (k+3)) C.f24L1) E.k R st).to (ADb d lo g.AB.length h0 [.list tp 2 (z.P.map FR),.list ta 1 (z.A.map JQ),.list tt 1 (DC z.row)] (fun T=>Has T [(0,v),(6,.AL d 0),(7,.AL (d+1) 0),(8,.AU (d+2) 0 g.AB.length (some g.AB.length))]/\∀p∈l,T.get p.1=p.2) (bitsOf g).length):=by
 have hs:=A.TK.Nf.small;have d7:=hs.Ae;have e0:(bitsOf g).length=g.Ae.length+1:=by simp[bitsOf]
 have e2:g.Ae.length<=g.AB.length:=by unfold Ac.AB;rw[Bd];omega
 generalize b7:[AV.list tp 2 (z.P.map FR),.list ta 1 (z.A.map JQ),.list tt 1 (DC z.row)]=sv at *
 refine Cy (fun (i:Nat) R st=>i<=(bitsOf g).length/\Has R [(0,v),(6,.AL d 0),(7,.AL (d+1) 0),(8,.AU (d+2) 0 g.AB.length (some g.AB.length)),(33,bw),(34,.int .i64 ((bitsOf g).length:Int)),(35,.int .i64 (i:Int))]/\(∀p∈l,R.get p.1=p.2)/\MIx d lo g.AB.length h0 sv i st)
  (fun i=>(bitsOf g).length-i) ?_ _ 0 _ _ ?_ ?_
 ·clear z0 z6 z7 z8 K D w M0 zk;rintro i R ⟨h,m,e4⟩ ⟨hi,b4,zk,mv,rd,LM,LR,B,M1,d5,c7⟩;have a6:=M1.fB.symm;simp only at a6;subst a6;simp only[Be,CG,BX]at b4;obtain⟨z0,z6,z7,z8,K,D,w⟩:=b4;have d8:=M1.lod;have h3:d+3<=m:=M1.c3;have d0:CL h<=m:=M1.tp;have a0:∀(T:TS) (j:Nat) (x:AV),(j=2∨j=3∨(10<=j/\j<=13)∨20<=j)/\j<65535->(∀p∈l,T.get p.1=p.2)->∀p∈l,(T.set j x).get p.1=p.2:=fun T j x hj H p t=>by rw[TS.SG _ _ _ _ hj.2,AJ (fun e=>by have:=a2 p t;omega)];exact H p t
  by_cases Bi:i<(bitsOf g).length
  ·obtain⟨q,a1,b1⟩:=(RL.sl (h:=h) c8).rs.rd Bi;have a3:∀cc,AY 1 bw (.int .i64 (i:Int)) ⟨h,cc,lo⟩=some (q,⟨h,cc,lo⟩):=fun cc=>a1 _ rfl;obtain⟨b,hb⟩:∃b,b=(bitsOf g)[i]:=⟨_,rfl⟩;have b5:b∈bitsOf g:=hb▸BH Bi;rw[←hb]at b1;have rs:Ak h (.AL d 0) 3=some sv:=by rw[Bv,M1.sf,←b7];rfl
   have Ch:=ZN (k:=k) (c:=m+1) (lo:=lo) (b:=b) (h:=h) A U (tp:=tp) (ta:=ta) (to:=.list tt 1 (DC z.row)) (by omega) (by omega) ⟨rfl,rfl⟩;rw[b7]at Ch;obtain⟨⟨d9,e7⟩,eC,b3,Y,one,FJ,shift,S,Lc,h2,f,hx,Gc,_,_,t2,e3,a5⟩:=Ch;cases hx;have a5:∀p,p<m+1->AA h2 p=AA h p:=a5;have t2:CL h2<=f:=t2;obtain⟨e1,u,n3,s3,f4,t4,d4⟩:=ve (h:=h2) (e:=m) (c:=f) (lo:=lo) (ty:=74) (sz:=6) (n:=6) (v:=.agg (RD b3 Y one FJ shift S)) (cs:=RD b3 Y one FJ shift S) (zero:=[.AO,.bool false,.bool false,.int .i64 0,.bool false,.bool false]) (by rw[a5 m (by omega)];exact wy d0) (by omega) rfl rfl rfl rfl;have M2:MI d lo g.AB.length h0 sv mv rd LM LR B ⟨u,f,lo⟩:=M1.grow (by omega) (by omega) fun p t=>(d4 p (by omega)).trans (a5 p (by omega));have r5:AQ u (.AL m 5)=some (.bool S):=by rw[BB,f4];rfl
   have r2:AQ u (.AL m 2)=some (.bool one):=by rw[BB,f4];rfl
   have r3:AQ u (.AL m 3)=some (.int .i64 FJ):=by rw[BB,f4];rfl
   have r4:∀{h':Aa},AA h' m=AA u m->AQ h' (.AL m 4)=some (.bool shift):=fun {h'} e=>by rw[BB,e,f4];rfl
   cases S with
   |true=>simp[C.f24L1,z0,z6,K,D,w,Bi,a3,b1,rs,eC,n3,s3,r5];exact .inl ⟨rfl,by simp,by simp,M2.ng⟩
   |false=>
    have a8:∃a9 L h6 c6,MI d lo g.AB.length h0 sv mv a9 LM L B ⟨h6,c6,lo⟩/\L.length<=i+1/\AA h6 m=AA u m/\(one=false->a9=rd/\h6=u/\c6=f)/\(one=true->∃s a4 W o w',Ab E (k+3) 55 [v,.int .i64 (b:Int)] ⟨u,f+2,lo⟩=.ret (.str s,⟨u,f+2,lo⟩)/\c6=f+2/\BC f 44 2 1 [.str [],.int .i64 0] [0] [.agg [.str s,.int .i64 FJ]]=some (.AU f 0 1 (some 1),a4)/\BA f a4 ⟨u,f+2,lo⟩=some ⟨W,f+2,lo⟩/\Bq (f+1) 44 2 24 rd (.AU f 0 1 (some 1)) ⟨W,f+2,lo⟩=some (w',⟨o,f+2,lo⟩)/\BM 1 (.AL (d+1) 1) w' ⟨o,f+2,lo⟩=some (.undef,⟨h6,f+2,lo⟩)):=by
     cases one with
     |false=>exact⟨rd,LR,u,f,M2,by omega,rfl,fun _=>⟨rfl,rfl,rfl⟩,fun e=>by cases e⟩
     |true=>
      obtain⟨s,eN⟩:=aN (k:=k+2) (c:=f+2) (lo:=lo) (h:=u) A b5;obtain⟨p1,W,w',o,h6,p2,p3,I,M3⟩:=M2.AFL (s,FJ) (by omega);have a7:CL u<=f:=M2.tp;have e8:m<f:=by omega
      refine⟨w',LR++[(s,FJ)],h6,f+2,M3,by simp;omega,?_,fun e=>(by cases e),fun _=>⟨s,_,W,o,w',eN,rfl,p1,p2,p3,I⟩⟩;have b8:AA W m=AA u m:=by
       have:=BF (y:=.cells 44 2 (PY (s,FJ)) false) (c:=f+2) (lo:=lo) a7;rw[p2]at this;have e:W=(f,BJ.cells 44 2 (PY (s,FJ)) false)::u:=by simpa using this
       rw[e,Ar (by omega)]
      have c4:AA o m=AA W m:=by
       have G5:Gq W 44 2 PY rd LR:=M2.gr.heap fun p t=>by
        have h1:p<CL u:=M2.gr.lt t;have:=BF (y:=.cells 44 2 (PY (s,FJ)) false) (c:=f+2) (lo:=lo) a7;rw[p2]at this;have e:W=(f,BJ.cells 44 2 (PY (s,FJ)) false)::u:=by simpa using this
        rw[e,Ar (by omega)]
       have c5:Az rd≠some m:=fun e=>by
        have G4:Gq u 44 2 PY rd LR:=M2.gr;generalize hr:rd=r at G4;cases G4 with
        |nl=>subst hr;cases e
        |ob id _ rest ext cap hf hc=>
         subst hr;have:id=m:=by simpa [Az]using e
         subst this;rw[f4]at hf;cases hf
       obtain⟨_,d2,w2,c0,q2,q3,_,_,d6,_⟩:=JE (c':=f+2) (bytes:=24) (zero:=[.str [],.int .i64 0]) (v:=.agg (PY (s,FJ))) (x:=(s,FJ)) (enc:=PY) (sz:=2) (fun _=>rfl) (by omega) M2.gr a7 (lo:=lo) (fun p t=>by have:=M2.wV p t;omega) rfl rfl rfl (by omega:LR.length<2^20) (by omega:24<=1024);rw[p2]at q2;have e5:d2=W:=by simpa using q2.symm
       subst e5;rw[p3]at q3;have e6:c0=o:=by have:=q3.symm;simp only[Ct,JL,St.mk.injEq]at this;exact this.2.1
       subst e6;rw[d6 m (by omega) c5,b8]
      have c9:AA h6 m=AA o m:=by
       have b2:∃X,AA o (d+1)=some X:=by
        rw[CE]at I;cases hh:AA o (d+1) with
        |none=>rw[hh]at I;simp[putAt]at I
        |some X=>exact⟨X,rfl⟩
       obtain⟨X,hX⟩:=b2;rw[CE,hX]at I;cases X with
       |cells ty sz cs ext=>
        rw[CW]at I;split at I
        ·split at I
         ·have:=(JK I);simp only[JL,St.mk.injEq,true_and,BX]at this;rw[←this,Bn (by omega)]
         ·cases I
        ·cases I
       |map a V c' d'=>simp[putAt]at I
       |iter a V c' d'=>simp[putAt]at I
      rw[c9,c4,b8]
    obtain⟨a9,L,h6,c6,M6,Q,d3,no,yes⟩:=a8;have bs:∀s:Bz,Bp [.str [],.int .i64 0] [(0,1),(1,1)] [.str s,.int .i64 FJ]=some [.str s,.int .i64 FJ]:=fun _=>rfl;have b9:=r4 d3;by_cases h60:b=60
    ·have J:(((b:Nat):Int) !=60)=false:=by rw[h60];rfl
     cases one with
     |false=>obtain⟨rfl,rfl,rfl⟩:=no rfl;simp[C.f24L1,z0,z6,z7,z8,K,D,w,Bi,a3,b1,rs,eC,n3,s3,r5,r2,J,wi i];refine⟨i+1,by omega,by omega,by simp,?_,mv,_,LM,L,B,M6,by omega,Q⟩;intro a V t;have:=fun j (hj:(j=2∨j=3∨(10<=j/\j<=13)∨20<=j)/\j<65535)=>hj;have hk:=a2 (a,V) t;simp only at hk;have U:=zk (a,V) t;simp only at U;simp[show ¬35=a by omega,show ¬65=a by omega,show ¬59=a by omega,show ¬58=a by omega,show ¬46=a by omega,show ¬45=a by omega,show ¬44=a by omega,show ¬43=a by omega,show ¬11=a by omega,show ¬42=a by omega,show ¬41=a by omega,show ¬40=a by omega,show ¬39=a by omega,show ¬10=a by omega,show ¬38=a by omega,show ¬37=a by omega,show ¬36=a by omega,U]
     |true=>
      obtain⟨s,a4,W,o,w',eN,rfl,p1,p2,p3,I⟩:=yes rfl;have rx:AQ u (.AL (d+1) 1)=some rd:=by rw[BB,M2.xf];rfl
      simp[C.f24L1,z0,z6,z7,z8,K,D,w,Bi,a3,b1,rs,eC,n3,s3,r5,r2,Dp,DX,Dl,Cc,Ci,DK,beq_eq,AV.DU,rx,r3,eN,bs,p1,p2,p3,I,J,wi i];refine⟨i+1,by omega,by omega,by simp,?_,mv,_,LM,L,B,M6,by omega,Q⟩;intro a V t;have hk:=a2 (a,V) t;simp only at hk;have U:=zk (a,V) t;simp only at U;simp[show ¬35=a by omega,show ¬65=a by omega,show ¬59=a by omega,show ¬58=a by omega,show ¬57=a by omega,show ¬56=a by omega,show ¬55=a by omega,show ¬54=a by omega,show ¬51=a by omega,show ¬53=a by omega,show ¬52=a by omega,show ¬50=a by omega,show ¬49=a by omega,show ¬48=a by omega,show ¬47=a by omega,show ¬46=a by omega,show ¬45=a by omega,show ¬44=a by omega,show ¬43=a by omega,show ¬11=a by omega,show ¬42=a by omega,show ¬41=a by omega,show ¬40=a by omega,show ¬39=a by omega,show ¬10=a by omega,show ¬38=a by omega,show ¬37=a by omega,show ¬36=a by omega,U]
    ·have J:(((b:Nat):Int) !=60)=true:=Ho.2 (by omega);have b6:b<g.AB.length:=by
      rcases BK.1 b5 with e|e
      ·exact absurd e h60
      ·have:=Gd.1 e;omega
     have d1:AA h6 (d+2)=some (.cells 4 1 (Cj B) false):=M6.bf;have b0:=fun cc=>KQ (c:=cc) (lo:=lo) d1 b6;obtain⟨sb,M7⟩:=M6.AHC b6 shift;cases one with
     |false=>obtain⟨rfl,rfl,rfl⟩:=no rfl;simp[C.f24L1,z0,z6,z7,z8,K,D,w,Bi,a3,b1,rs,eC,n3,s3,r5,r2,J,b9,b0,sb,wi i];refine⟨i+1,by omega,by omega,by simp,?_,mv,_,LM,L,_,M7,by omega,Q⟩;intro a V t;have hk:=a2 (a,V) t;simp only at hk;have U:=zk (a,V) t;simp only at U;simp[show ¬35=a by omega,show ¬65=a by omega,show ¬64=a by omega,show ¬63=a by omega,show ¬62=a by omega,show ¬61=a by omega,show ¬60=a by omega,show ¬59=a by omega,show ¬58=a by omega,show ¬46=a by omega,show ¬45=a by omega,show ¬44=a by omega,show ¬43=a by omega,show ¬11=a by omega,show ¬42=a by omega,show ¬41=a by omega,show ¬40=a by omega,show ¬39=a by omega,show ¬10=a by omega,show ¬38=a by omega,show ¬37=a by omega,show ¬36=a by omega,U]
     |true=>
      obtain⟨s,a4,W,o,w',eN,rfl,p1,p2,p3,I⟩:=yes rfl;have rx:AQ u (.AL (d+1) 1)=some rd:=by rw[BB,M2.xf];rfl
      simp[C.f24L1,z0,z6,z7,z8,K,D,w,Bi,a3,b1,rs,eC,n3,s3,r5,r2,Dp,DX,Dl,Cc,Ci,DK,beq_eq,AV.DU,rx,r3,eN,bs,p1,p2,p3,I,J,b9,b0,sb,wi i];refine⟨i+1,by omega,by omega,by simp,?_,mv,_,LM,L,_,M7,by omega,Q⟩;intro a V t;have hk:=a2 (a,V) t;simp only at hk;have U:=zk (a,V) t;simp only at U;simp[show ¬35=a by omega,show ¬65=a by omega,show ¬64=a by omega,show ¬63=a by omega,show ¬62=a by omega,show ¬61=a by omega,show ¬60=a by omega,show ¬59=a by omega,show ¬58=a by omega,show ¬57=a by omega,show ¬56=a by omega,show ¬55=a by omega,show ¬54=a by omega,show ¬51=a by omega,show ¬53=a by omega,show ¬52=a by omega,show ¬50=a by omega,show ¬49=a by omega,show ¬48=a by omega,show ¬47=a by omega,show ¬46=a by omega,show ¬45=a by omega,show ¬44=a by omega,show ¬43=a by omega,show ¬11=a by omega,show ¬42=a by omega,show ¬41=a by omega,show ¬40=a by omega,show ¬39=a by omega,show ¬10=a by omega,show ¬38=a by omega,show ¬37=a by omega,show ¬36=a by omega,U]
  ·have:i=(bitsOf g).length:=by omega
   subst this;simp[C.f24L1,D,w];refine .inr ⟨rfl,⟨by simp[z0,z6,z7,z8],?_⟩,mv,rd,LM,LR,B,M1,d5,c7⟩;exact fun a b t=>a0 R 36 _ (by omega) zk (a,b) t
 ·exact FX (by show (bitsOf g).length-0<1000000;omega)
 ·exact⟨by omega,by simp[z0,z6,z7,z8,K,D,w],zk,M0⟩
end Go.Am
