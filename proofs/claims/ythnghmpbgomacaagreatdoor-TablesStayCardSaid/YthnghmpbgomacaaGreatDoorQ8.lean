/- A part of tablesStay. -/
import Derived.Test.YthnghmpbgomacaaGreatDoorQ7
set_option exponentiation.threshold 99999
set_option maxHeartbeats 4000000
namespace Go.Am
 attribute [local irreducible] bigK
open Go
theorem ABR{E:Env}{call:Nat->List AV->St->M (AV×St)}{s d q:Nat}{b:Bool}{k:AK}{args:List Ki}{a:List Dr}{c:TS}{e:St}(h:c.get q=.undef):MV E call s (⟨some d,some (q,b),k,args⟩::a) c e=MV E call s a (c.set d .undef) e:=by rw[RH,h];rfl
def Ri(K:List (Nat×AV))(ts:TS):Prop:=∀p∈K,ts.get p.1=p.2
def KOk(K:List (Nat×AV)):Prop:=∀p∈K,p.1<10/\p.1≠2/\p.1≠3∨(13<p.1/\p.1<20)
theorem Ri.set{K:List (Nat×AV)}(d:KOk K){b:TS}{j:Nat}{x:AV}(c:(j=2∨j=3∨(10<=j/\j<=13)∨20<=j)/\j<65535)(H:Ri K b):Ri K (b.set j x):=fun p a=>by rw[TS.SG _ _ _ _ c.2,AJ (fun e=>by have:=d p a;omega)];exact H p a
theorem AAX{k d lo i0:Nat}{h0:Aa}{v ov:AV}{g:Ac}{F O:List Nat}{N:List Bool}{Z:List VZ}(A:JN v g F N O Z){z:VZ}(hz:ZOk g Z.length z){tp ta D:Bool}(b4:Co ov 1 (BI O))(c2:i0<=1000){a:St}(M0:MIx d lo g.AB.length h0 [.list tp 2 (z.P.map FR),.list ta 1 (z.A.map JQ),.list D 1 (DC z.row)] i0 a)(K:List (Nat×AV))(hK:KOk K)(j:TS)(u:Ri K j)(H:j.get 0=v)(L:j.get 6=.AL d 0)(w:j.get 7=.AL (d+1) 0)(Q:j.get 8=.AU (d+2) 0 g.AB.length (some g.AB.length))(f:j.get 69=ov)(e:j.get 70=.int .i64 (O.length:Int))(b:j.get 71=.int .i64 0) :
 (Dm (Bc E (Ab E (k+1)) C.f24L2) E.k j a).to fun x=>x.1=.exit 4/\Ri K x.2.1/\x.2.1.get 7=.AL (d+1) 0/\MIx d lo g.AB.length h0 [.list tp 2 (z.P.map FR),.list ta 1 (z.A.map JQ),.list D 1 (DC z.row)] (i0+O.length) x.2.2:=by
 have hs:=A.TK.Nf.small;have a3:=PE hs;have c3:O.length<=1000:=by rw[A.AAK];exact a3
 have a2:=A.sub;obtain⟨S,nv,fv,b3,a9,ss,zs,hv,hC,_⟩:=A.out;have b2:=hC;obtain⟨nm,b7,a4,c4,c0,R,b0,_⟩:=b2.out;have I:∀a:St,DT v a=some (v,a):=fun a=>by rw[hv];rfl
 have J:∀a:St,Cx 0 v a=some (.CB [S,nv,fv,b3,a9,ss],a):=fun a=>by rw[hv];rfl
 have T:∀a:St,DT S a=some (S,a):=fun a=>by rw[R];rfl
 have b9:∀a:St,∃l,Cx 0 S a=some (.CB (nm::l),a):=fun a=>⟨_,by rw[R];rfl⟩;obtain⟨cl,a5⟩:∃cl,∀a:St,Cx 0 S a=some (.CB (nm::cl),a):=⟨[.int .i64 (g.Ae.length:Nat),.int .i64 (g.ix g.Ai:Nat),b7,a4,.CR (Bf g.AB) (BI (List.range g.AB.length))],fun a=>by rw[R];rfl⟩;generalize a7:[AV.list tp 2 (z.P.map FR),.list ta 1 (z.A.map JQ),.list D 1 (DC z.row)]=sv at *
 refine Cy (fun (i:Nat) j a=>i<=O.length/\Has j [(0,v),(6,.AL d 0),(7,.AL (d+1) 0),(8,.AU (d+2) 0 g.AB.length (some g.AB.length)),(69,ov),(70,.int .i64 (O.length:Int)),(71,.int .i64 (i:Int))]/\Ri K j/\MIx d lo g.AB.length h0 sv (i0+i) a)
  (fun i=>O.length-i) ?_ _ 0 _ _ ?_ ?_
 ·clear H L w Q f e b M0 u;rintro i j ⟨h,c1,c5⟩ ⟨hi,a0,u,mv,rd,LM,LR,B,n,b8,a8⟩;have y:=n.fB.symm;simp only at y;subst y;simp only[Be,CG,BX]at a0;obtain⟨H,L,w,Q,f,e,b⟩:=a0;by_cases Bi:i<O.length
  ·obtain⟨q,a1,b1⟩:=(RL.sl (h:=h) b4).rs.rd Bi;have r:∀cc,AY 1 ov (.int .i64 (i:Int)) ⟨h,cc,lo⟩=some (q,⟨h,cc,lo⟩):=fun cc=>a1 _ rfl;obtain⟨s,a6⟩:∃s,s=O[i]:=⟨_,rfl⟩;have p:s<g.AB.length:=a6▸a2 _ (BH Bi);rw[←a6]at b1;have t:AQ h (.AL d 2)=some (.list D 1 (DC z.row)):=by rw[BB,n.sf,←a7];rfl
   have b6:s<z.row.length:=by rw[hz.rl];exact p
   have W:Co (.list D 1 (DC z.row)) 1 (DC z.row):=⟨.inr ⟨D,rfl⟩⟩;have m:∀a:St,AY 1 (.list D 1 (DC z.row)) (.int .i64 (s:Int)) a=some (.CB [.int .i64 z.row[s]],a):=fun a=>by rw[W.idx (by rw[Ns];exact b6)];simp[DC,AV.cells]
   have U:∀a:St,AY 1 nm (.int .i64 (s:Int)) a=some (.CB [.str g.AB[s]],a):=fun a=>by
    have hl:s<(Bf g.AB).length:=by rw[Gb];exact p
    rw[b0.idx hl];simp[Bf,AV.cells]
   have bf:AA h (d+2)=some (.cells 4 1 (Cj B) false):=n.bf;have Y:=fun cc=>KQ (c:=cc) (lo:=lo) bf p;have b5:s<B.length:=by rw[n.bl];exact p
   have o:AQ h (.AL (d+2) s)=some (.bool B[s]):=by rw[BB,bf,Ik];simp[Cj,b5]
   have eK:Ab E (k+1) 56 [S,.int .i64 (s:Int)] ⟨h,c1,lo⟩=.ret (.bool (decide (s<g.Ae.length)),⟨h,c1,lo⟩):=TE (k:=k) hC s;have V:AQ h (.AL (d+1) 0)=some mv:=by rw[BB,n.xf];rfl
   have bs:Bp [.str [],.int .i64 0] [(0,1),(1,1)] [.str g.AB[s],.int .i64 z.row[s]]=some [.str g.AB[s],.int .i64 z.row[s]]:=rfl;obtain⟨p1,h3,w',h4,h5,p2,p3,p4,M2⟩:=n.AFN (g.AB[s],z.row[s]) (by omega);have pv:PY (g.AB[s],z.row[s])=[.str g.AB[s],.int .i64 z.row[s]]:=rfl;rw[pv]at p1 p2;by_cases hneg:0<=z.row[s]
   ·have hd:decide (0<=z.row[s])=true:=Bw hneg;by_cases hkind:s<g.Ae.length
    ·cases hB:B[s] with
     |true=>rw[hB]at o;simp[C.f24L2,H,L,w,Q,f,e,b,Bi,r,b1,t,m,hneg,Cm,I,J,eK,hkind,Y,o,V,T,a5,U,bs,p1,p2,p3,p4,wi i];refine⟨i+1,by omega,by omega,by simp,?_,_,_,_,LR,B,M2,by simp;omega,by omega⟩;repeat' first|with_reducible exact u|with_reducible refine Ri.set hK (by omega) ?_
     |false=>rw[hB]at o;simp[C.f24L2,H,L,w,Q,f,e,b,Bi,r,b1,t,m,hneg,Cm,I,J,eK,hkind,Y,o,wi i];refine⟨i+1,by omega,by omega,by simp,?_,_,_,LM,LR,B,n,by omega,by omega⟩;repeat' first|with_reducible exact u|with_reducible refine Ri.set hK (by omega) ?_
    ·simp[C.f24L2,H,L,w,Q,f,e,b,Bi,r,b1,t,m,hneg,Cm,Da,I,J,eK,hkind,V,T,a5,U,bs,p1,p2,p3,p4,wi i];refine⟨i+1,by omega,by omega,by simp,?_,_,_,_,LR,B,M2,by simp;omega,by omega⟩;repeat' first|with_reducible exact u|with_reducible refine Ri.set hK (by omega) ?_
   ·have hd:decide (0<=z.row[s])=false:=FP hneg;simp[C.f24L2,H,L,w,Q,f,e,b,Bi,r,b1,t,m,hneg,Da,ABR,wi i];refine⟨i+1,by omega,by omega,by simp,?_,_,_,LM,LR,B,n,by omega,by omega⟩;repeat' first|with_reducible exact u|with_reducible refine Ri.set hK (by omega) ?_
  ·have:i=O.length:=by omega
   subst this;simp[C.f24L2,w,e,b];exact⟨Ri.set hK (by omega) u,mv,rd,LM,LR,B,n,b8,a8⟩
 ·exact FX (by show O.length-0<1000000;omega)
 ·exact⟨by omega,by simp[H,L,w,Q,f,e,b],u,M0⟩
def wu(x:AV×AV):List AV:=[x.1,x.2]
def Ze(c lo:Nat)(h0:Aa)(w:AV)(i:Nat)(st:St):Prop:=∃L,GL 38 2 wu c h0 w L st/\st.lo=lo/\L.length<=i/\∀y∈L,WS st.h c 41 2 y.1/\WS st.h c 44 2 y.2
theorem WS.ne{h:Aa}{c ty a sz f p:Nat}{α:Type}{enc:α->List AV}{u w:AV}{L:List α}(H:WS h c ty sz u)(G:Gq h a f enc w L)(d:ty≠a)(g:Az u=some p):Az w≠some p:=fun l=>by
 rcases H with rfl|⟨id,len,cap,X,ext,rfl,m,_⟩
 ·cases g
 ·cases g;cases G with
  |nl=>cases l
  |ob b _ rest j k i n=>
   have e:b=p:=by simpa [Az]using l
   rw[e,m]at i;cases i;exact d rfl
theorem Ze.nil{c lo:Nat}{h0:Aa}{st:St}(H:FrD c lo h0 st)(b:lo<=c):Ze c lo h0 .AO 0 st:=by obtain⟨f,d,g,e⟩:=H;exact⟨[],⟨by omega,g,d,e,.nl,fun p a=>by cases a⟩,f,by simp,by simp⟩
def ABE(c lo:Nat)(h0:Aa)(x:AV×St):Prop:=∃w b,x.1=.tuple [w,.bool b]/\Ze c lo h0 w 2000 x.2
theorem xO{k c lo:Nat}{h0:Aa}{v:AV}{g:Ac}{F O:List Nat}{N:List Bool}{Z:List VZ}(A:JN v g F N O Z)(ht:CL h0<=c)(Y:lo<=c) :
 (Ab E (k+4) 24 [v] ⟨h0,c,lo⟩).to (ABE c lo h0):=by
 have hs:=A.TK.Nf.small;have a5:=PE hs;have c9:=A.xC;rw[Av (fn:=C.f24) rfl rfl rfl,Ap (by simp)];obtain⟨cv,nv,fv,c6,ov,r,zs,hv,hC,e4,e9,e0,a0,a7,d3,hz⟩:=A.out;have c8:=hC;obtain⟨nm,c7,c0,e7,e3,b3,c4,_⟩:=c8.out;have R:∀st:St,DT v st=some (v,st):=fun st=>by rw[hv];rfl
 have d0:∀st:St,Cx 0 v st=some (.CB [cv,nv,fv,c6,ov,r],st):=fun st=>by rw[hv];rfl
 have d4:∀st:St,Cx 4 v st=some (.CB [ov,r],st):=fun st=>by rw[hv];rfl
 have d6:∀st:St,Cx 5 v st=some (.CB [r],st):=fun st=>by rw[hv];rfl
 have d2:∀st:St,DT cv st=some (cv,st):=fun st=>by rw[b3];rfl
 obtain⟨cl,d8⟩:∃cl,∀st:St,Cx 0 cv st=some (.CB (nm::cl),st):=⟨[.int .i64 (g.Ae.length:Nat),.int .i64 (g.ix g.Ai:Nat),c7,c0,.CR (Bf g.AB) (BI (List.range g.AB.length))],fun st=>by rw[b3];rfl⟩;have sl:∀st:St,BZ .slice r st=some (.int .i64 (Z.length:Int),st):=fun st=>by have:=a7.len (st:=st);rw[d3]at this;exact this
 have ol:∀st:St,BZ .slice ov st=some (.int .i64 (O.length:Int),st):=fun st=>by have:=a0.len (st:=st);simpa using this
 have nl:∀st:St,BZ .slice nm st=some (.int .i64 (g.AB.length:Int),st):=fun st=>by have:=c4.len (st:=st);simpa using this
 have goal:((Bc E (Ab E (k+3)) C.f24.body (TS.FK [v] 0 .nil) ⟨h0,c,lo⟩).bind (Al C.f24.results)).to (ABE c lo h0):=by
  simp[C.f24,R,d6,sl];refine M.BG (Cy (P:=fun x=>(x.1=.ret/\x.2.1.get 2=.AO/\x.2.1.get 3=.bool false/\FrD c lo h0 x.2.2)∨(x.1=.exit 0/\Ze c lo h0 (x.2.1.get 4) 2000 x.2.2)) (fun (i:Nat) ts st=>i<=Z.length/\Has ts [(0,v),(17,r),(18,.int .i64 (Z.length:Int)),(19,.int .i64 (i:Int))]/\Ze c lo h0 (ts.get 4) i st)
   (fun i=>Z.length-i) ?_ _ 0 _ _ ?_ ?_) ?_
  ·rintro i ts ⟨h,d,f0⟩ ⟨hi,a9,L,G,f,f3,hL⟩;have f:=f.symm;simp only at f;subst f;simp only[Be,CG,BX]at a9;obtain⟨z0,b2,K,J⟩:=a9;generalize b1:ts.get 4=w at G;have f1:c<=d:=G.c1;have tp:CL h<=d:=G.tp;by_cases Bi:i<Z.length
   ·obtain⟨zv,e1,H,t,D,rfl⟩:=hz i Bi;have a6:=A.zok _ (BH Bi);have b5:i<zs.length:=by omega
    have d7:∀st:St,AY 3 r (.int .i64 (i:Int)) st=some (.CB [.list H 2 (Z[i].P.map FR),.list t 1 (Z[i].A.map JQ),.list D 1 (DC Z[i].row)],st):=fun st=>by rw[a7.idx b5];rw[Bu b5,Ct]at e1;rw[e1];rfl
    obtain⟨h1,h2,n1,s1,f2,t2,d5⟩:=Ih (c':=d+1) (ty:=137) (sz:=3) (n:=3) (v:=.agg [.list H 2 (Z[i].P.map FR),.list t 1 (Z[i].A.map JQ),.list D 1 (DC Z[i].row)]) (cs:=[.list H 2 (Z[i].P.map FR),.list t 1 (Z[i].A.map JQ),.list D 1 (DC Z[i].row)]) (zero:=[.AO,.AO,.AO]) tp (lo:=lo) (by omega) rfl rfl rfl rfl;obtain⟨U,q⟩:∃U:Aa,U=(d+1,BJ.cells 38 2 [.AO,.AO] false)::h2:=⟨_,rfl⟩;have n3:BA (d+1) (.cells 38 2 [.AO,.AO] false) ⟨h2,d+2,lo⟩=some ⟨U,d+2,lo⟩:=by rw[q];exact BF t2
    have t3:CL U<=d+2:=by rw[q,Ay];omega
    have mk:Dy (d+2) 4 1 1 [.bool false] (.int .i64 (g.AB.length:Int)) (.int .i64 (g.AB.length:Int))=some (.AU (d+2) 0 g.AB.length (some g.AB.length),.cells 4 1 (Cj (List.replicate g.AB.length false)) false):=Ye a5;obtain⟨u,j⟩:∃u:Aa,u=(d+2,BJ.cells 4 1 (Cj (List.replicate g.AB.length false)) false)::U:=⟨_,rfl⟩;have n4:BA (d+2) (.cells 4 1 (Cj (List.replicate g.AB.length false)) false) ⟨U,d+3,lo⟩=some ⟨u,d+3,lo⟩:=by rw[j];exact BF t3
    have t4:CL u<=d+3:=by rw[j,Ay];omega
    obtain⟨bw,eB,a8⟩:=jo (k:=k+2) (c:=d+3) (lo:=lo) A t4;have bl:∀st:St,BZ .slice bw st=some (.int .i64 ((bitsOf g).length:Int),st):=fun st=>by have:=a8.len (st:=st);simpa using this
    have M0:MIx d lo g.AB.length h [.list H 2 (Z[i].P.map FR),.list t 1 (Z[i].A.map JQ),.list D 1 (DC Z[i].row)] 0 ⟨u,d+3,lo⟩:=by
     refine⟨.AO,.AO,[],[],List.replicate g.AB.length false,⟨rfl,by omega,Ao _,t4,fun p a=>?_,?_,?_,?_,by simp,.nl,.nl,fun p a=>(by cases a),fun p a=>(by cases a)⟩,by simp,by simp⟩
     ·show AA u p=_;rw[j,Ar (by omega),q,Ar (by omega)];exact d5 p (by omega)
     ·show AA u d=_;rw[j,Ar (by omega),q,Ar (by omega)];exact f2
     ·show AA u (d+1)=_;rw[j,Ar (by omega),q,BV rfl]
     ·show AA u (d+2)=_;rw[j,BV rfl]
    have b:KOk [(0,v),(4,w),(17,r),(18,.int .i64 (Z.length:Int)),(19,.int .i64 (i:Int))]:=fun p a=>by simp only[BK,Ju,Jp]at a;rcases a with rfl|rfl|rfl|rfl|rfl<;>simp
    simp[C.f24L0,z0,b2,K,J,Bi,d7,n1,s1,n3,R,d0,d2,d8,nl,mk,n4,eB,bl];refine M.BG (AAY (k:=k) A a6 a8 M0 [(0,v),(4,w),(17,r),(18,.int .i64 (Z.length:Int)),(19,.int .i64 (i:Int))] b _ (fun p a=>by
     simp only[BK,Ju,Jp]at a
     rcases a with rfl|rfl|rfl|rfl|rfl<;>simp[z0,b1,b2,K,J]) (by simp[z0]) (by simp) (by simp) (by simp) (by simp) (by simp) (by simp)) fun x hx=>?_
    obtain⟨e,d1,e8⟩:=x;rcases hx with⟨rfl,y2,y3,o⟩|⟨rfl,⟨m,z⟩,M1⟩
    ·simp only at y2 y3 o;obtain⟨q1,q2,q3,q4⟩:=o;simp;exact⟨y2,y3,q1,q2,by omega,fun p a=>(q4 p (by omega)).trans (G.CY p a)⟩
    ·simp only at m z M1;simp only[Be,CG,BX]at m;obtain⟨y0,y6,y7,y8⟩:=m;have z:Ri [(0,v),(4,w),(17,r),(18,.int .i64 (Z.length:Int)),(19,.int .i64 (i:Int))] d1:=z;simp[y0,R,d4,ol];have b6:(bitsOf g).length<=1000:=by have:=hs.Ae;simp[bitsOf];omega
     refine M.BG (AAX (k:=k+2) A a6 a0 b6 M1 [(0,v),(4,w),(17,r),(18,.int .i64 (Z.length:Int)),(19,.int .i64 (i:Int))] b _ (Ri.set b (by omega) (Ri.set b (by omega) (Ri.set b (by omega) (Ri.set b (by omega) (Ri.set b (by omega) (Ri.set b (by omega) z)))))) (by simp[y0]) (by simp[y6]) (by simp[y7]) (by simp[y8]) (by simp) (by simp) (by simp)) fun x hx=>?_;obtain⟨e,f4,⟨h5,c5,e6⟩⟩:=x;obtain⟨rfl,l,b4,W,V,LM,LR,B,M2,e2,d9⟩:=hx;have I:=M2.fB.symm;simp only at I l b4 M2;subst I;have k0:=l (0,v) (by simp);have k4:=l (4,w) (by simp);have b9:=l (17,r) (by simp);have b0:=l (18,.int .i64 (Z.length:Int)) (by simp);have b8:=l (19,.int .i64 (i:Int)) (by simp);simp only at k0 k4 b9 b0 b8;have rx:Ak h5 (.AL (d+1) 0) 2=some [W,V]:=by rw[Bv,M2.xf];rfl
     have e5:d+3<=c5:=M2.c3;have c2:CL h5<=c5:=M2.tp;have G2:GL 38 2 wu c h0 w L ⟨h5,c5,lo⟩:=G.grow (by omega) c2 M2.CY;have b7:∀p,Az w=some p->p<d:=fun p a=>Bt (G.g.lt a) tp;obtain⟨p1,h6,w',h7,p2,p3,G3,s,_⟩:=G2.push (bytes:=48) (v:=.agg [W,V]) (x:=(W,V)) (zero:=[.AO,.AO]) (fun _=>rfl) (by omega) rfl rfl rfl (by omega) (by omega);have om:wu (W,V)=[W,V]:=rfl;rw[om]at p1 p2;simp[b4,rx,k0,k4,b9,b0,b8,p1,p2,p3,wi i];refine⟨i+1,by omega,by omega,by simp,L++[(W,V)],G3,rfl,by simp;omega,fun y T=>?_⟩;show WS h7 c _ 2 y.1/\WS h7 c _ 2 y.2;rcases Ca.1 T with T|T
     ·obtain⟨w1,w2⟩:=hL y T;have w1:WS h c 41 2 y.1:=w1;have w2:WS h c 44 2 y.2:=w2;constructor
      ·refine w1.heap fun p a=>?_;have Q:p<d:=by have:=w1.lt a;omega
       rw[s p (by omega) (w1.ne G.g (by decide) a)];exact M2.CY p Q
      ·refine w2.heap fun p a=>?_;have Q:p<d:=by have:=w2.lt a;omega
       rw[s p (by omega) (w2.ne G.g (by decide) a)];exact M2.CY p Q
     ·simp only[Di]at T;subst T;constructor
      ·refine (M2.gm.ws (c:=c) (fun _=>rfl) (fun p a=>by have:=M2.om p a;omega) (by have:=A.AAK;omega)).heap fun p a=>?_;have h1:p<CL h5:=M2.gm.lt a;exact s p (by omega) fun e=>by have:=b7 p e;have:=M2.om p a;omega
      ·refine (M2.gr.ws (c:=c) (fun _=>rfl) (fun p a=>by have:=M2.wV p a;omega) (by have:=A.AAK;omega)).heap fun p a=>?_;have h1:p<CL h5:=M2.gr.lt a;exact s p (by omega) fun e=>by have:=b7 p e;have:=M2.wV p a;omega
   ·have:i=Z.length:=by omega
    subst this;simp[C.f24L0,K,J,b1];exact⟨L,G,rfl,by omega,hL⟩
  ·exact FX (by show Z.length-0<1000000;omega)
  ·exact⟨by omega,by simp,by simpa using Ze.nil (c:=c) (lo:=lo) (h0:=h0) (st:=⟨h0,c,lo⟩) ⟨rfl,ht,Ao _,fun _ _=>rfl⟩ Y⟩
  ·rintro⟨e,ts,st⟩ hx;rcases hx with⟨rfl,y2,y3,o⟩|⟨rfl,S⟩
   ·simp only at y2 y3 o;simp[y2,y3,Al,results,Af];obtain⟨L,a1,a2,a3,a4⟩:=Ze.nil o Y;exact⟨.AO,false,rfl,L,a1,a2,by omega,a4⟩
   ·simp only at S;simp[Al,results,Af];exact⟨_,true,rfl,S⟩
 exact goal
def ABz(c lo:Nat)(h0:Aa)(x:AV×St):Prop:=∃w e h1,x.1=.tuple [w,.int .i64 e]/\(∀p,p<c->AA h1 p=AA h0 p)/\Ze (c+1) lo h1 w 2000 x.2
theorem xN{k c lo:Nat}{h:Aa}{s:AV}{g:Ac}(u:GD s g)(R:g.Small)(kind:Int)(H:CL h<=c)(U:lo<=c) :
 (Ab E (k+10) 5 [s,.int .i64 kind] ⟨h,c,lo⟩).to (ABz c lo h):=by
 rw[Av (fn:=C.f5) rfl rfl rfl,Ap (by simp)];obtain⟨o,m,l,rfl,Y,hr,K⟩:=id u;obtain⟨a,d⟩:∃a:Aa,a=(c,BJ.cells 29 3 [o,.str g.Ai,m] false)::h:=⟨_,rfl⟩;have D:BA c (.cells 29 3 [o,.str g.Ai,m] false) ⟨h,c+1,lo⟩=some ⟨a,c+1,lo⟩:=by rw[d];exact BF H
 have A:Ak a (.AL c 0) 3=some [o,.str g.Ai,m]:=by rw[Bv,d,BV rfl];rfl
 have B:CL a<=c+1:=by rw[d,Ay];omega
 have n:∀p,p<c->AA a p=AA h p:=fun p z=>by rw[d,Ar (by omega)]
 have i:∀e:Int,ABz c lo h (.tuple [.AO,.int .i64 e],⟨a,c+1,lo⟩):=fun e=>by obtain⟨L,V,q,P,y⟩:=Ze.nil (c:=c+1) (lo:=lo) (h0:=a) (st:=⟨a,c+1,lo⟩) ⟨rfl,B,Ao _,fun _ _=>rfl⟩ (by omega);exact⟨.AO,e,a,rfl,n,L,V,q,by omega,y⟩
 obtain⟨r,t,j⟩:=WV (k:=k) (st:=⟨a,c+1,lo⟩) u R kind;rcases j with⟨e,W,rfl⟩|⟨v,F,N,O,Z,rfl,Q⟩
 ·have I:(e !=0)=true:=Ho.2 W;simp[C.f5,D,A,t,I,Al,results,Af];exact i e
 ·simp[C.f5,D,A,t];refine M.BG (xO (k:=k+5) (c:=c+1) (lo:=lo) Q B (by omega)) fun x T=>?_;obtain⟨x1,J⟩:=x;obtain⟨w,b,f,S⟩:=T;simp only at f S;subst f;cases b with
  |false=>simp[Al,results,Af];obtain⟨L,G,q,P,y⟩:=S;exact⟨.AO,13,a,rfl,n,[],⟨G.lo,G.c1,G.tp,G.CY,.nl,fun p z=>by cases z⟩,q,by simp,by simp⟩
  |true=>simp[Al,results,Af];exact⟨w,0,a,rfl,n,S⟩
def Xy(a b:Nat):Nat:=if a=2199023255552∨b=2199023255552 then 2199023255552 else min (a+b) 1099511627776
theorem zx(a b:Nat):Xy a b<=2199023255552:=by unfold Xy;split<;>omega
def Rw(L:List Nat):List Nat->Nat->Nat
 |[],n=>n
 |s::l,n=>Rw L l (Xy n (L.getD s 0))
theorem cu(L:List Nat):∀(l:List Nat) (n:Nat),n<=2199023255552->Rw L l n<=2199023255552
 |[],_,h=>h
 |_::l,_,_=>cu L l _ (zx _ _)
theorem aW(L:List Nat):∀(l:List Nat) (s n:Nat),Rw L (l++[s]) n=Xy (Rw L l n) (L.getD s 0)
 |[],_,_=>rfl
 |x::l,s,n=>aW L l s _
theorem Yk(L:List Nat):∀(l:List Nat) (n:Nat),Rw L l n<=2000->Rw L l n=n+(l.map fun s=>L.getD s 0).sum/\n<=2000
 |[],n,h=>by simpa [Rw]using h
 |s::l,n,h=>by
  obtain⟨b,a⟩:=Yk L l _ h;simp only[Rw,Dh,List.sum_cons]at *
  rw[b];generalize (l.map fun s=>L.getD s 0).sum=S;unfold Xy at a⊢;split at a
  ·omega
  ·rename_i c;rw[AJ c];omega
theorem ABh{x:Int}(a:-9223372036854775808<=x)(b:x<9223372036854775808):IntKind.i64.wrap x=x:=wrap64 a b
theorem zw{k a b:Nat}(g:a<=2199023255552)(h:b<=2199023255552)(e:St):Ab E (k+1) 159 [.int .i64 (a:Int),.int .i64 (b:Int)] e=.ret (.int .i64 (Xy a b:Nat),e):=by
 rw[Av (fn:=C.f159) rfl rfl rfl,Ap (by simp)];by_cases h1:a=2199023255552
 ·subst h1;have c:(((2199023255552:Nat):Int)==2199023255552)=true:=rfl;simp[C.f159,Da,Al,results,Af,Xy]
 ·have c:((a:Int)==2199023255552)=false:=by rw[Gm];omega
  by_cases h2:b=2199023255552
  ·subst h2;simp[C.f159,c,Cm,Al,results,Af,Xy]
  ·have d:((b:Int)==2199023255552)=false:=by rw[Gm];omega
   have f:Xy a b=min (a+b) 1099511627776:=by unfold Xy;rw[AJ (by omega)]
   rw[f];simp[C.f159,c,d,Cm,Al,results,Af,ABh (x:=(a:Int)+b) (by omega) (by omega),Ub,Tt,Ia];omega
theorem Uk{k c lo:Nat}{h:Aa}{n a:AV}{L l:List Nat}(D:RS h 1 Fx n L)(v:RS h 1 Fx a l)(B:∀s,s<L.length->L.getD s 0<=2199023255552)(I:∀s∈l,s<L.length)(A:l.length<=100000) :
 Ab E (k+2) 106 [n,a] ⟨h,c,lo⟩=.ret (.int .i64 (Rw L l 0:Nat),⟨h,c,lo⟩):=by
 rw[Av (fn:=C.f106) rfl rfl rfl,Ap (by simp)];have P:∀b:St,BZ .slice a b=some (.int .i64 (l.length:Int),b):=fun b=>by have:=v.len;simp[BZ,this]
 have goal:((Bc E (Ab E (k+1)) C.f106.body (TS.FK [n,a] 0 .nil) ⟨h,c,lo⟩).bind (Al C.f106.results)).to fun x=>x=(.int .i64 (Rw L l 0:Nat),⟨h,c,lo⟩):=by
  simp[C.f106,P];refine M.BG (Df (fun (i:Nat) r b=>i<=l.length/\Has r [(0,n),(5,.int .i64 (Rw L (l.take i) 0:Nat)),(8,a),(9,.int .i64 (l.length:Int)),(10,.int .i64 (i:Int))]/\b=⟨h,c,lo⟩) (fun i=>l.length-i) (fun e r b=>e=.exit 0/\r.get 5=.int .i64 (Rw L l 0:Nat)/\b=⟨h,c,lo⟩) ?_ _ 0 _ _ ?_ ?_) ?_
  ·rintro i r b ⟨R,p,rfl⟩;simp only[Be,CG,BX]at p;obtain⟨J,g,K,w,j⟩:=p;by_cases Bi:i<l.length
   ·obtain⟨q,N,z⟩:=v.rd Bi;have t:∀d,AY 1 a (.int .i64 (i:Int)) ⟨h,d,lo⟩=some (q,⟨h,d,lo⟩):=fun d=>N _ rfl;have f:=I _ (BH Bi);obtain⟨Q,O,H⟩:=D.rd f;have u:∀d,AY 1 n (.int .i64 ((l[i]:Nat):Int)) ⟨h,d,lo⟩=some (Q,⟨h,d,lo⟩):=fun d=>O _ rfl;have o:=B _ f;have y:L.getD l[i] 0=L[l[i]]:=by simp[List.getD,f]
    rw[y]at o;have m:=zw (k:=k) (cu L (l.take i) 0 (by omega)) o ⟨h,c,lo⟩;have F:Rw L (l.take (i+1)) 0=Xy (Rw L (l.take i) 0) L[l[i]]:=by rw[Gy Bi,aW,y]
    simp[C.f106L0,J,g,K,w,j,Bi,t,z,u,H,m,wi i];exact⟨i+1,by omega,by omega,by simp[F]⟩
   ·have:i=l.length:=by omega
    subst this;rw[FQ]at g;simp[C.f106L0,g,w,j]
  ·exact FX (by show l.length-0<1000000;omega)
  ·exact⟨by omega,by simp[Rw],rfl⟩
  ·rintro⟨e,r,b⟩ ⟨rfl,g,rfl⟩;simp only at g;simp[g,Al,results,Af]
 obtain⟨x,e,rfl⟩:=goal;exact e
structure LV (cv:AV)(g:Ac)(A ib gb:Nat)(L:List Nat)(st:St):Prop where
 hb:HB st
 lo:st.lo<=A
 a:AA st.h A=some (.cells 3 1 (BI L) false)
 len:L.length=g.AB.length
 i:AA st.h ib=some (.cells 22 1 [.AU A 0 g.AB.length (some g.AB.length)] false)
 gf:AA st.h gb=some (.cells 76 1 [cv] false)
 ids:A<st.c/\ib<st.c/\gb<st.c/\A≠ib/\A≠gb/\st.lo<=st.c
 le:∀s,s<L.length->L.getD s 0<=2199023255552
 one:∀s,s<g.Ae.length->L.getD s 0=1
theorem nums_get? (B:List Nat)(j:Nat)(h:j<B.length):(BI B)[j]? =some (.int .i64 ((B.getD j 0:Nat):Int)):=by simp[BI,List.getD,h]
theorem ints_set(B:List Nat)(j b:Nat):(BI B).set j (.int .i64 (b:Int))=BI (B.set j b):=by simp[BI,GX]
theorem Ru{B:List Nat}{j b:Nat}(a:j<B.length)(x:Nat):(B.set j b).getD x 0=if x=j then b else B.getD x 0:=by
 simp only[List.getD,FW];by_cases h:j=x
 ·subst h;simp[a]
 ·rw[AJ h,AJ (fun e=>h e.symm)]
theorem bN:∀{B:List Nat} {j b:Nat},j<B.length->b<B.getD j 0->(B.set j b).sum<B.sum
 |[],_,_,h,_=>by simp at h
 |x::B,0,b,_,h=>by simp at h⊢;omega
 |x::B,j+1,b,h,a=>by have:=bN (B:=B) (j:=j) (b:=b) (by simpa using h) (by simpa using a);simp only[Jg,List.sum_cons];omega
theorem tX{g:Ac}(a:g.Ok){r:Dw}(b:r∈g.AP):g.Ae.length<=g.ix r.left:=by refine Nat.le_of_not_lt fun h=>?_;have:=(dF a (Ac.Iu b)).1 h;exact a.apart _ this (Ac.Yl b)
theorem ACV{h:Aa}{A n e:Nat}{L:List Nat}{cap:Option Nat}(b:AA h A=some (.cells e 1 (BI L) false))(d:L.length=n):RS h 1 Fx (.AU A 0 n cap) L:=by
 subst d;refine⟨rfl,fun i c=>⟨.AL A i,fun g f=>?_,?_⟩⟩
 ·subst f;exact PZ b c
 ·refine Cells.obj b (by simp[Fx];omega) ?_;have a:i<(BI L).length:=by simpa using c
  rw[MP a];simp[BI,Fx]
section
variable {cv:AV}{g:Ac}{A ib gb:Nat}
theorem Zo{k:Nat}(hC:Gu cv g)(hs:g.Small)(U:g.Ok)(rv:AV)(Q:List AV)(h2:Co rv 3 Q)(h3:Q.length=g.AP.length)(h4:∀j (hj:j<g.AP.length),∃w,Q[j]? =some (.agg [.int .i64 (g.ix g.AP[j].left:Nat),w,.int .i64 g.AP[j].level])/\Co w 1 (BI (g.AP[j].right.map g.ix)))(Z:List Nat)(st:St)(H:LV cv g A ib gb Z st)(e:TS)(z0:e.get 0=.AL gb 0)(z1:e.get 1=.AL ib 0)(z3:e.get 3=.bool false)(r:e.get 10=rv)(o:e.get 11=.int .i64 (g.AP.length:Int))(m:e.get 12=.int .i64 ((0:Nat):Int)) :
 (Dm (Bc E (Ab E (k+3)) C.f105L0) E.k e st).to fun x=>x.1=.exit 0/\∃L more,x.2.1.get 3=.bool more/\LV cv g A ib gb L x.2.2/\(more=true->L.sum<Z.sum):=by
 have a2:=hs.many;refine Cy (fun (i:Nat) I st=>i<=g.AP.length/\I.get 0=.AL gb 0/\I.get 1=.AL ib 0/\I.get 10=rv/\I.get 11=.int .i64 (g.AP.length:Int)/\I.get 12=.int .i64 (i:Int)/\∃L more,I.get 3=.bool more/\LV cv g A ib gb L st/\L.sum<=Z.sum/\(more=true->L.sum<Z.sum))
  (fun i=>g.AP.length-i) ?_ _ 0 _ _ ?_ ?_
 ·rintro i I st ⟨hi,z0,z1,r,o,m,L,more,z3,H,a7,hM⟩;by_cases Bi:i<g.AP.length
  ·have a0:i<Q.length:=by omega
   obtain⟨w,e1,e2⟩:=h4 i Bi;rw[Bu a0,Ct]at e1;have f:=BH Bi;have b1:=(hs.AP _ f).right;obtain⟨h,c,lo⟩:=st;have a6:∀p x,(p,x)∈h->p<c:=H.hb;obtain⟨i1,i2,i3,i4,i5,i6⟩:=H.ids;have a5:A<c:=i1;have a4:ib<c:=i2;have a8:gb<c:=i3;have b0:lo<=c:=i6;obtain⟨q,T⟩:∃s,s=g.ix g.AP[i].left:=⟨_,rfl⟩;have a3:q<g.AB.length:=T▸vU (Ac.Iu f);rw[←T]at e1;obtain⟨B,l⟩:∃B:List AV,B=[.int .i64 (q:Int),w,.int .i64 g.AP[i].level]:=⟨_,rfl⟩;obtain⟨b,u⟩:∃b:Aa,b=(c,BJ.cells 218 3 B false)::h:=⟨_,rfl⟩;have W:HB ⟨b,c+1,lo⟩:=u▸HB.cons (h:=h) (c:=c) (lo:=lo) H.hb (by omega) (by omega);have fr:∀p,p<c->AA b p=AA h p:=fun p hp=>by rw[u,Dt hp]
   have d:LV cv g A ib gb L ⟨b,c+1,lo⟩:=⟨W,H.lo,(fr A a5).trans H.a,H.len,(fr ib a4).trans H.i,(fr gb a8).trans H.gf,by
    refine⟨?_,?_,?_,i4,i5,?_⟩
    ·show A<c+1;omega
    ·show ib<c+1;omega
    ·show gb<c+1;omega
    ·show lo<=c+1;omega,H.le,H.one⟩
   have D:AY 3 rv (.int .i64 (i:Int)) ⟨h,c+1,lo⟩=some (.CB Q[i].cells,⟨h,c+1,lo⟩):=h2.idx a0;have t:Q[i].cells=B:=by rw[e1,l];rfl
   rw[t]at D;have hn:BA c (.cells 218 3 [.int .i64 0,.AO,.int .i64 0] false) ⟨h,c+1,lo⟩=some ⟨(c,.cells 218 3 [.int .i64 0,.AO,.int .i64 0] false)::h,c+1,lo⟩:=Bb a6;have N:=Ic (h:=h) (c:=c) (c':=c+1) (lo:=lo) (ty:=218) (n:=3) (zs:=[.int .i64 0,.AO,.int .i64 0]) (vs:=B) (by omega) (by rw[l];rfl) rfl;rw[←u]at N;have z:Ak h (.CB B) 3=some B:=by rw[l];rfl
   have fc:AA b c=some (.cells 218 3 B false):=by rw[u,AZ,AX rfl]
   have S:AQ b (.AL c 0)=some (.int .i64 (q:Int)):=by rw[AR fc,l];rfl
   have Y:AQ b (.AL c 1)=some w:=by rw[AR fc,l];rfl
   have ri:AQ b (.AL ib 0)=some (.AU A 0 g.AB.length (some g.AB.length)):=by rw[AR d.i];rfl
   have R:=PZ (st:=⟨b,c+1,lo⟩) (n:=g.AB.length) (cap:=some g.AB.length) d.a a3;have K:L.length=g.AB.length:=d.len;have rA:AQ b (.AL A q)=some (.int .i64 (L.getD q 0:Nat)):=by rw[AR d.a,nums_get? _ _ (by omega)]
   have J:=Uk (k:=k+1) (c:=c+1) (lo:=lo) (ACV (cap:=some g.AB.length) d.a d.len) (Ku (h:=b) e2) H.le (fun s hs=>by
    obtain⟨y,hy,rfl⟩:=BP.1 hs
    rw[K]
    exact vU (Ac.NF U f hy)) (by simp;omega)
   obtain⟨n,a1⟩:∃n,n=Rw L (g.AP[i].right.map g.ix) 0:=⟨_,rfl⟩;rw[←a1]at J;have V:n<=2199023255552:=a1▸cu L _ 0 (by omega);by_cases hless:n<L.getD q 0
   ·have s1:=DZ (st:=⟨b,c+1,lo⟩) (off:=q) (v:=.int .i64 (n:Int)) d.a d.lo (by simp;omega) rfl rfl;rw[ints_set]at s1;simp[-Bool.exists_bool,-List.getD_eq_getElem?_getD,C.f105L0,z0,z1,r,o,m,Bi,D,-Cw,z,hn,N,ri,S,Y,R,rA,J,hless,s1,wi i];have O:q<L.length:=by omega
    have F:∀p,p≠A->AA (Ah b A (.cells 3 1 (BI (L.set q n)) false)) p=AA b p:=fun p hp=>by rw[Ag d.a,AJ (Aj hp)]
    have a9:=bN O hless;refine⟨i+1,by omega,by omega,by simp,L.set q n,⟨HB.Ah (st:=⟨b,c+1,lo⟩) W,d.lo,?_,by simpa using d.len,(F ib (Aj i4)).trans d.i,(F gb (Aj i5)).trans d.gf,d.ids,fun s P=>?_,fun s P=>?_⟩,by omega,by omega⟩
    ·show AA (Ah b A _) A=_;rw[Ag d.a,AX rfl]
    ·rw[Ru O];split
     ·exact V
     ·exact H.le s (by simpa using P)
    ·have:=tX U f;rw[Ru O,AJ (by omega)];exact H.one s P
   ·simp[-Bool.exists_bool,-List.getD_eq_getElem?_getD,C.f105L0,z0,z1,z3,r,o,m,Bi,D,-Cw,z,hn,N,ri,S,Y,R,rA,J,hless,wi i];exact⟨i+1,by omega,by omega,by simp,L,d,a7,hM⟩
  ·have:i=g.AP.length:=by omega
   subst this;simp[-Bool.exists_bool,-List.getD_eq_getElem?_getD,C.f105L0,z3,o,m];exact⟨L,H,hM⟩
 ·exact FX (by show g.AP.length-0<1000000;omega)
 ·exact⟨by omega,z0,z1,r,o,m,Z,false,z3,H,Ao _,fun h=>by cases h⟩
theorem cO{k:Nat}(i:Gu cv g)(u:g.Small)(c:g.Ok)(b:List Nat)(st:St)(H:LV cv g A ib gb b st) :
 (Ab E (k+4) 105 [.AL gb 0,.AL ib 0] st).to fun x=>∃L more,x.1=.bool more/\LV cv g A ib gb L x.2/\(more=true->L.sum<b.sum):=by
 obtain⟨z,n,B,y,K,q,F,j,l,w,J,D,I⟩:=i.out;rw[Av (fn:=C.f105) rfl rfl rfl,Ap (by simp)];have f:AQ st.h (.AL gb 0)=some cv:=by rw[AR H.gf];rfl
 have d:∀a:St,BZ .slice n a=some (.int .i64 (g.AP.length:Int),a):=fun a=>by have:=j.len (st:=a);rw[this,l]
 rw[q]at f;simp[-Bool.exists_bool,-List.getD_eq_getElem?_getD,C.f105,f,d];refine M.BG (Zo (k:=k) i u c n y j l w b st H _ (by simp) (by simp) (by simp) (by simp) (by simp) (by simp)) fun x v=>?_;obtain⟨e,r,t⟩:=x;obtain⟨p,L,more,o,m,s⟩:=v;simp only at p o m;subst p;simp[-Bool.exists_bool,-List.getD_eq_getElem?_getD,o,Al,results,Af];exact⟨L,m,s⟩
theorem ADP{m:Nat}(h:m<2^1000):m<E.k:=Nat.lt_trans h (by show 2^1000<bigK;unfold bigK;exact MN (by omega) (by omega))
theorem Zp{k:Nat}(p:Gu cv g)(r:g.Small)(l:g.Ok)(d:List Nat)(a:St)(H:LV cv g A ib gb d a)(t:d.sum<2^900) :
 (Ab E (k+5) 104 [.fn (.func 105) [] [.AL gb 0,.AL ib 0]] a).to fun x=>∃L,LV cv g A ib gb L x.2:=by
 rw[Av (fn:=C.f104) rfl rfl rfl,Ap (by simp)];simp[-Bool.exists_bool,-List.getD_eq_getElem?_getD,C.f104];refine M.BG (Df (fun (n:Nat) h a=>h.get 0=.fn (.func 105) [] [.AL gb 0,.AL ib 0]/\∃L,LV cv g A ib gb L a/\L.sum<n)
  (fun n=>n) (fun e h a=>e=.exit 0/\∃L,LV cv g A ib gb L a) ?step _ (d.sum+1) _ _ ?_ ?_) ?_
 case step=>
  rintro n h a ⟨o,L,H,i⟩;have pass:=cO (k:=k) p r l L a H;simp[-Bool.exists_bool,-List.getD_eq_getElem?_getD,C.f104L0,o];refine M.BG pass fun x s=>?_;obtain⟨v,j⟩:=x;obtain⟨m,b,f,c,q⟩:=s;simp only at f c;subst f;cases b with
  |true=>simp[-Bool.exists_bool,-List.getD_eq_getElem?_getD,o];exact⟨L.sum,i,m,c,q rfl⟩
  |false=>simp[-Bool.exists_bool,-List.getD_eq_getElem?_getD];exact⟨m,c⟩
 ·exact ADP (by
   show d.sum+1<2^1000
   have:(2:Nat)^900<2^1000:=MN (by omega) (by omega)
   omega)
 ·exact⟨by simp,d,H,by omega⟩
 ·rintro⟨e,h,j⟩ ⟨f,L,c⟩;simp only at f c;subst f;simp[-List.getD_eq_getElem?_getD,Al,results,Af];exact⟨L,c⟩
end
end Go.Am
