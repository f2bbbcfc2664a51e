/- A part of tablesStay. -/
import Derived.Test.YthnghmpbgomacaaGreatDoorW2
namespace Go.Am
open Go
section
variable {c o:Nat}{vs:AV}{zs:List Int}{st0 st1:St}
structure vL (c o:Nat)(vs:AV)(a:Int)(st0 st1:St)(b sy:Nat)(syms:List Bz)(lf:Bz)(w:AV)(r:List Bz)(st:St):Prop where
 k:Fa c o vs a st0 st
 cc:b+1<=st.c
 obj:AA st.h b=some (.cells 63 3 [.str lf,w,.int .i64 0] false)
 right:Lp st.h 9 1 w (Bf r)
 Dc:∀p,Az w=some p->b<p/\p<st.c
 AFG:AA st.h sy=some (.cells 9 1 (Bf syms) true)
 CY:∀p,p<b->p≠o->AA st.h p=AA st1.h p
 from_:∀s∈r,s∈syms
def ZA(zs:List Int)(a:Int)(syms:List Bz):Nat->List Bz
 |0=>[]
 |j+1=>ZA zs a syms j++[syms.getD (Br zs (a+j+1) (syms.length:Int)).toNat []]
theorem uP{k N b q:Nat}{a:Int}{syms:List Bz}{T:Bz}(hv:GI vs zs)(a9:c<=b)(b3:q<b/\c<=q)(b2:0<syms.length)(b0:syms.length<=10)(hN:N<=3)(ha:0<=a/\a<50000)(f:TS)(h0:f.get 0=.AL o 0)(h5:f.get 5=.AU q 0 syms.length none)(h8:f.get 8=.AL b 0)(a4:f.get 46=.int .i64 (N:Int))(B:f.get 47=.int .i64 ((0:Nat):Int))(st:St)(L:vL c o vs a st0 st1 b q syms T .AO [] st) :
 (Dm (Bc E (Ab E (k+3)) C.f15L1) E.k f st).to fun x=>x.1=.exit 2/\(∀s,s<46->x.2.1.get s=f.get s)/\∃w r m,r.length<=3/\0<=m/\m<=3/\(r=ZA zs a syms N/\m=(N:Int))/\vL c o vs (a+m) st0 st1 b q syms T w r x.2.2:=by
 refine Cy (fun (j:Nat) ts st=>j<=N/\(∀s,s<47->ts.get s=f.get s)/\ts.get 47=.int .i64 (j:Int)/\∃w r,r.length=j/\r=ZA zs a syms j/\vL c o vs (a+j) st0 st1 b q syms T w r st)
  (fun j=>N-j) ?_ _ 0 _ _ ?_ ?_
 ·rintro j ts st ⟨hj,t,B,w,r,a5,Z,F⟩;have t0:=(t 0 (by omega)).trans h0;have t5:=(t 5 (by omega)).trans h5;have t8:=(t 8 (by omega)).trans h8;have a0:=(t 46 (by omega)).trans a4;by_cases Bi:j<N
  ·have b4:=F.k.oc;have b5:=F.cc;have z:=fun (c':Nat)=>Od (k:=k+1) (st:=⟨st.h,c',st.lo⟩) (o:=o) (v:=vs) (a:=a+j) ⟨F.k.Kj,by show st.lo<=o;rw[F.k.lo];exact F.k.TW⟩ hv (by omega) (n:=(syms.length:Int)) (by unfold TR;omega);have hr:=IG (zs:=zs) (a:=a+j+1) (n:=(syms.length:Int)) (by omega);obtain⟨i,hi⟩:∃i:Nat,Br zs (a+j+1) (syms.length:Int)=i:=⟨(Br zs (a+j+1) (syms.length:Int)).toNat,by omega⟩;rw[hi]at z;have J:i<syms.length:=by omega
   have O:=F.k.tick (a+j+1);have Y:Fa c o vs (a+j+1) st0 (tick ⟨st.h,st.c+2,st.lo⟩ o vs (a+j+1)):=⟨fun p x hx=>Bt (O.hb p x hx) (by show st.c<=st.c+2;omega),O.lo,O.TW,O.oc,O.Kj,O.CY,O.mem⟩;generalize D:tick ⟨st.h,st.c+2,st.lo⟩ o vs (a+j+1)=S2 at Y;have b1:S2.c=st.c+2:=by rw[←D];rfl
   have H:∀p,p≠o->AA S2.h p=AA st.h p:=fun p h2=>by rw[←D];exact Gp (st:=⟨st.h,st.c+2,st.lo⟩) F.k.Kj h2
   have W:∀p x,(p,x)∈S2.h->p<st.c:=fun p x S=>by rw[←D]at S;exact O.hb p x S
   have A:AA S2.h q=some (.cells 9 1 (Bf syms) true):=by rw[H q (by omega)];exact F.AFG
   have a1:AY 1 (.AU q 0 syms.length none) (.int .i64 (i:Int)) S2=some (.AL q i,S2):=by simp[AY,Bg,A,blt_eq,J]
   have a8:AQ S2.h (.AL q i)=some (.str syms[i]):=by rw[AR A,Bu (by simpa using J)];simp[Bf]
   have K3:=Y.cons (p:=st.c) (x:=.cells 9 1 [.str syms[i]] false) (n:=S2.c) (by omega) (by omega) (Ao _);have a3:Lp ((st.c,BJ.cells 9 1 [.str syms[i]] false)::S2.h) 9 1 w (Bf r):=F.right.heap fun p I=>by have:=F.Dc p I;rw[AZ,AJ (by omega)];exact H p (by omega)
   obtain⟨S4,Q,R,K4,V,u⟩:=Om (bytes:=16) (id:=st.c+1) (e:=st.c) (x:=.str syms[i]) K3 a3 (fun p I=>by have:=F.Dc p I;omega) (by omega) (by omega) (by simp;omega) (by simp[AZ,AV.cells]) rfl
    (fun p y S=>by
     rcases BK.1 S with h|h
     ·cases h;omega
     ·have:=W p y h;omega) (by show st.c+1<S2.c;omega) (by omega)
   have K:AA S2.h b=some (.cells 63 3 [.str T,w,.int .i64 0] false):=by rw[H b (by omega)];exact F.obj
   have d:AA S4.h b=some (.cells 63 3 [.str T,w,.int .i64 0] false):=by rw[u b (by omega) (fun e=>by have:=F.Dc _ e;omega),AZ,AJ (by omega)];exact K
   have P:=DZ (st:=S4) (off:=1) (v:=.AU (st.c+1) 0 (r.length+1) none) d (by rw[K4.lo];have:=F.k.TW;omega) (by simp) rfl rfl;simp only[Jg,Jh]at P;have a2:AQ st.h (.AL b 1)=some w:=by rw[AR F.obj];rfl
   have a6:AQ S2.h (.AL b 1)=some w:=by rw[AR K];rfl
   have e3:BA st.c (.cells 9 1 [.str syms[i]] false) S2=some ⟨(st.c,.cells 9 1 [.str syms[i]] false)::S2.h,S2.c,S2.lo⟩:=Bb (h:=S2.h) (c:=S2.c) (lo:=S2.lo) W;have g:=z (st.c+2);rw[D]at g;simp at Q;simp[C.f15L1,t0,t5,t8,a0,B,Bi,KJ,MQ,Cc,Ci,DK,beq_eq,a2,a6,AV.DU,BZ,CV,g,a1,a8,BC,blt_eq,ble_eq,Bp,Bl,AV.isTuple,AV.cells,e3,Q,P,wi j];refine⟨j+1,by omega,by omega,fun s hs=>?_,by simp,.AU (st.c+1) 0 (r.length+1) none,r++[syms[i]],by simp[a5],?_,?_⟩
   ·have e:∀n,47<=n->¬n=s:=fun n hn=>by omega
    simp[e,t s hs]
   ·rw[Z];show _=ZA zs a syms j++[_];rw[hi];simp[List.getD,J]
   ·have a7:=K4.Ah (p:=b) (x:=.cells 63 3 [.str T,.AU (st.c+1) 0 (r.length+1) none,.int .i64 0] false) a9 d;refine⟨a7.to (by simp;omega),by show b+1<=S4.c;rw[R];show b+1<=S2.c;omega,by show AA (Ah _ _ _) b=_;rw[Ag d,AX rfl],?_,fun p I=>by cases I;show b<st.c+1/\st.c+1<S4.c;rw[R];show _/\st.c+1<S2.c;omega,?_,fun p I U=>?_,fun x hx=>?_⟩
    ·rw[Ve]at V;have S:=Lp.bq (l:=r++[syms[i]]) (by simp) V;rw[show (r++[syms[i]]).length=r.length+1 by simp]at S;exact S.heap fun p I=>by cases I;show AA (Ah _ _ _) _=_;rw[Ag d,AJ (by omega)]
    ·show AA (Ah _ _ _) q=_;rw[Ag d,AJ (by omega),u q (by omega) (fun e=>by have:=F.Dc _ e;omega),AZ,AJ (by omega)];exact A
    ·show AA (Ah _ _ _) p=_;rw[Ag d,AJ (by omega),u p (by omega) (fun e=>by have:=F.Dc _ e;omega),AZ,AJ (by omega),H p U];exact F.CY p I U
    ·rcases Ca.1 hx with h|h
     ·exact F.from_ x h
     ·simp at h;subst h;exact BH J
  ·have:j=N:=by omega
   subst this;simp[C.f15L1,a0,B];exact⟨fun s hs=>by
    have e:¬48=s:=by omega
    simp[e,t s (by omega)],w,r,by omega,j,by omega,by omega,⟨Z,rfl⟩,F⟩
 ·exact FX (by show N-0<1000000;omega)
 ·exact⟨by omega,fun _ _=>rfl,B,.AO,[],rfl,rfl,L.k.to (by simp),L.cc,L.obj,L.right,L.Dc,L.AFG,L.CY,L.from_⟩
end
structure Dw.qp (r:Dw):Prop where
 left:r.left.length<=50
 right:r.right.length<=3
 AB:∀s∈r.right,s.length<=50
 level:0<=r.level/\r.level<=3
structure qj (c o:Nat)(vs:AV)(a:Int)(st0 st:St)(syms:List Bz)(rv:AV)(ls:List AV)(rs:List Dw):Prop where
 k:Fa c o vs a st0 st
 cc:c+6<=st.c
 q:AA st.h c=some (.cells 29 3 [.AO,.str [],.AO] false)
 lf:AA st.h (c+1)=some (.cells 9 1 [.str [115],.str [116],.str [117]] false)
 sy:AA st.h (c+3)=some (.cells 9 1 (Bf syms) true)
 kd:AA st.h (c+4)=some (.cells 9 1 [.str [97],.str [98]] false)
 gb:AA st.h (c+5)=some (.cells 29 3 [.AU (c+4) 0 2 (some 2),.str [115],rv] false)
 AP:Lp st.h 63 3 rv ls
 Dc:∀p,Az rv=some p->c+6<=p/\p<st.c
 ln:ls.length=rs.length
 each:∀(j:Nat) (hl:j<ls.length) (hr:j<rs.length),VU st.h ls[j] rs[j]/\∀p,Kt ls[j]=some p->c+6<=p/\p<st.c/\Az rv≠some p
 ok:∀r∈rs,r.qp
theorem qj.frame{c o:Nat}{vs rv:AV}{a i:Int}{st0 st d:St}{syms:List Bz}{ls:List AV}{rs:List Dw}(H:qj c o vs a st0 st syms rv ls rs)(K:Fa c o vs i st0 d)(n:st.c<=d.c)(e:∀p,p<st.c->p≠o->AA d.h p=AA st.h p):qj c o vs i st0 d syms rv ls rs:=by
 have l:=H.k.oc;have m:=H.cc;exact⟨K,by omega,by rw[e _ (by omega) (by omega)];exact H.q,by rw[e _ (by omega) (by omega)];exact H.lf,by rw[e _ (by omega) (by omega)];exact H.sy,by rw[e _ (by omega) (by omega)];exact H.kd,by rw[e _ (by omega) (by omega)];exact H.gb,
  H.AP.heap fun p b=>e p (H.Dc p b).2 (by have:=(H.Dc p b).1;omega),fun p b=>⟨(H.Dc p b).1,by have:=(H.Dc p b).2;omega⟩,H.ln,
  fun j f g=>⟨(H.each j f g).1.heap fun p b=>e p ((H.each j f g).2 p b).2.1 (by have:=((H.each j f g).2 p b).1;omega),fun p b=>⟨((H.each j f g).2 p b).1,by have:=((H.each j f g).2 p b).2.1;omega,((H.each j f g).2 p b).2.2⟩⟩,H.ok⟩
section
variable {c o:Nat}{vs:AV}{zs:List Int}{a:Int}{st0 st:St}{syms:List Bz}{rv:AV}{ls:List AV}{rs:List Dw}{k:Nat}
def vM(rs:List Dw)(lf:Bz)(r:List Bz):Prop:=∃i,i<rs.length/\(rs.getD i default).left=lf/\(rs.getD i default).right=r
theorem AGD(H:qj c o vs a st0 st syms rv ls rs)(S:rs.length<=50){b:Nat}{z:Bz}{w:AV}{r:List Bz}{V:Int}(P:b<st.c)(D:AA st.h b=some (.cells 63 3 [.str z,w,.int .i64 V] false))(Q:Lp st.h 9 1 w (Bf r))(t:∀p,Az w=some p->p<st.c) :
 ∃x:Bool,Ab E (k+4) 42 [rv,.fn (.func 43) [] [.AL b 0]] st=.ret (.bool x,st)/\(ls=[]->x=false)/\(x=true↔vM rs z r):=by
 have y:=H.ln;have e:∀i (d:i<ls.length),∃f,ls[i].cells=[.str (rs[i]'(by omega)).left,f,.int .i64 (rs[i]'(by omega)).level]/\Lp st.h 9 1 f (Bf (rs[i]'(by omega)).right)/\∀p,Az f=some p->p<st.c:=fun i d=>by obtain⟨⟨f,q,v⟩,s⟩:=H.each i d (by omega);exact⟨f,by rw[q];rfl,v,fun p J=>(s p (by rw[q];exact J)).2.1⟩
 have N:∀{f:AV} {l:List Bz},Lp st.h 9 1 f (Bf l)->(∀p,Az f=some p->p<st.c)->∀h:Aa,(∀p,p<st.c->AA h p=AA st.h p)->Reads h f l:=fun U J h u=>Reads.ofM (U.heap fun p F=>u p (J p F));refine⟨_,QJ (k:=k+2) (n:=ls.length) (el:=fun i=>(ls.getD i .undef).cells) (p:=fun i=>decide ((rs.getD i default).left=z/\(rs.getD i default).right=r)) H.AP.len (by omega) (fun i d=>?_) (fun i d=>?_),fun h=>by (subst h;simp),by rw[decide_eq_true_iff,y];simp only[decide_eq_true_iff];exact Iff.rfl⟩
 ·have s:∀x∈ls,x.cells.length=3:=fun x R=>by obtain⟨i,d,rfl⟩:=Du R;obtain⟨f,q,_⟩:=e i d;rw[q];rfl
  obtain⟨f,q,_⟩:=e i d;have O:=H.AP;generalize m:ls=l at O;cases O with
  |nl=>subst m;simp at d
  |mt=>subst m;simp at d
  |ob id _ Y _ u=>
   subst m;refine⟨.AL id (3*i),XO u d,?_⟩;have A:(ls.flatMap AV.cells).length=ls.length*3:=CP s;have K:Nat.ble (3*i+3) (ls.flatMap AV.cells).length=true:=Dv (by omega);have B:ls.getD i .undef=ls[i]:=by simp[List.getD,d]
   obtain⟨W,L,_⟩:=(H.each i d (by omega)).1;have g:=KT s (show ls[i]? =some (.agg [.str (rs[i]'(by omega)).left,W,.int .i64 (rs[i]'(by omega)).level]) by rw[Bu d,L]);simp only[Ak,u,K,Ba,Ct,B];rw[L];apply Kb;intro j;match j with
   |0=>simpa [AV.cells]using g.1
   |1=>simpa [AV.cells]using g.2.1
   |2=>simpa [AV.cells]using g.2.2
   |j+3=>simp[AV.cells];omega
 ·obtain⟨f,q,v,s⟩:=e i d;have B:ls.getD i .undef=ls[i]:=by simp[List.getD,d]
  have I:rs.getD i default=rs[i]'(by omega):=by simp[List.getD,show i<rs.length by omega]
  simp only[JJ,B,I,q];have T:=(H.ok _ (BH (show i<rs.length by omega))).right;exact rU (k:=k) H.k.hb P D (by omega) (N v s) (N Q t)
end
theorem M.uT{α β:Type}{b:Bool}{x y:M α}{f:α->M β}:(bif b then x else y).bind f=bif b then x.bind f else y.bind f:=by cases b<;>rfl
section
variable {c o:Nat}{vs:AV}{zs:List Int}{st0:St}{syms:List Bz}{k:Nat}
structure Made (c o:Nat)(vs:AV)(a:Int)(st0 st1:St)(b:Nat)(lf:Bz)(w:AV)(r:List Bz)(lv:Int)(st:St):Prop where
 k:Fa c o vs a st0 st
 cc:b+1<=st.c
 obj:AA st.h b=some (.cells 63 3 [.str lf,w,.int .i64 lv] false)
 right:Lp st.h 9 1 w (Bf r)
 Dc:∀p,Az w=some p->b<p/\p<st.c
 CY:∀p,p<b->p≠o->AA st.h p=AA st1.h p
theorem vL.made{a:Int}{d f:St}{b g:Nat}{e:Bz}{w:AV}{r:List Bz}(F:vL c o vs a st0 d b g syms e w r f):Made c o vs a st0 d b e w r 0 f:=⟨F.k,F.cc,F.obj,F.right,F.Dc,F.CY⟩
theorem Made.tick{a j:Int}{f st:St}{b:Nat}{l:Bz}{w:AV}{r:List Bz}(F:Made c o vs a st0 f b l w r j st)(m:c<=b)(g:Int):Made c o vs g st0 f b l w r j (tick st o vs g):=by have n:=F.k.oc;have i:∀p,p≠o->AA (Am.tick st o vs g).h p=AA st.h p:=fun p d=>Gp F.k.Kj d;exact⟨F.k.tick g,F.cc,by rw[i b (by omega)];exact F.obj,F.right.heap fun p d=>i p (by have:=F.Dc p d;omega),F.Dc,fun p d e=>(i p e).trans (F.CY p d e)⟩
theorem Made.level{a lv:Int}{d st:St}{b:Nat}{e:Bz}{w:AV}{r:List Bz}(F:Made c o vs a st0 d b e w r lv st)(g:c<=b)(n:Int) :
 BM 1 (.AL b 2) (.int .i64 n) st=some (.undef,{ st with h:=Ah st.h b (.cells 63 3 [.str e,w,.int .i64 n] false) })/\Made c o vs a st0 d b e w r n { st with h:=Ah st.h b (.cells 63 3 [.str e,w,.int .i64 n] false) }:=by
 have j:=F.k.oc;refine⟨by rw[DZ (off:=2) F.obj (by rw[F.k.lo];have:=F.k.TW;omega) (by simp) rfl rfl];rfl,F.k.Ah g F.obj,F.cc,by show AA (Ah _ _ _) b=_;rw[Ag F.obj,AX rfl],F.right.heap fun p f=>?_,F.Dc,fun p f i=>?_⟩
 ·have:=F.Dc p f;show AA (Ah _ _ _) p=_;rw[Ag F.obj,AJ (by omega)]
 ·show AA (Ah _ _ _) p=_;rw[Ag F.obj,AJ (by omega)];exact F.CY p f i
theorem join{a a0 i:Int}{B st:St}{u w:AV}{d:List AV}{D:List Dw}{g:Bz}{r:List Bz}(H:qj c o vs a0 st0 B syms u d D)(M:Made c o vs a st0 B B.c g w r i st)(hn:D.length<=50)(hd:(Dw.mk g r i).qp) :
 qj c o vs a st0 st syms u d D/\∃S2 S3,BA st.c (.cells 63 3 [.str g,w,.int .i64 i] false) ⟨st.h,st.c+2,st.lo⟩=some S2/\∃id,Bq (st.c+1) 63 3 48 u (.AU st.c 0 1 (some 1)) S2=some (.AU id 0 (d.length+1) none,S3) /\
  ∃l,BM 1 (.AL (c+5) 2) (.AU id 0 (d.length+1) none) S3=some (.undef,l)/\qj c o vs a st0 l syms (.AU id 0 (d.length+1) none) (d++[.agg [.str g,w,.int .i64 i]]) (D++[⟨g,r,i⟩]):=by
 have a3:=M.cc;have m:=H.frame M.k (by omega) fun p f A=>M.CY p f A;refine⟨m,?_⟩;have a1:=H.k.oc;have a2:=H.cc;have L:=H.ln;have N:∀p x,(p,x)∈st.h->p<st.c:=M.k.hb;have K1:=M.k.cons (p:=st.c) (x:=.cells 63 3 [.str g,w,.int .i64 i] false) (n:=st.c+2) (by omega) (by omega) (by omega);have Q:Lp ((st.c,BJ.cells 63 3 [.str g,w,.int .i64 i] false)::st.h) 63 3 u d:=m.AP.heap fun p f=>by have:=m.Dc p f;rw[AZ,AJ (by omega)]
 obtain⟨l,I,K,Z,S,J⟩:=Om (bytes:=48) (id:=st.c+1) (e:=st.c) (x:=.agg [.str g,w,.int .i64 i]) K1 Q (fun p f=>by have:=m.Dc p f;omega) (by omega) (by omega) (by omega) (by simp[AZ,AV.cells]) rfl
  (fun p y hm=>by
   rcases BK.1 hm with h|h
   ·cases h;omega
   ·have:=N p y h;omega) (by show st.c+1<st.c+2;omega) (by omega)
 have F:∀p,p<st.c->Az u≠some p->AA l.h p=AA st.h p:=fun p f A=>by rw[J p (by omega) A,AZ,AJ (by omega)]
 have s:AA l.h (c+5)=some (.cells 29 3 [.AU (c+4) 0 2 (some 2),.str [115],u] false):=by rw[F _ (by omega) (fun e=>by have:=m.Dc _ e;omega)];exact m.gb
 have z:=DZ (st:=l) (off:=2) (v:=.AU (st.c+1) 0 (d.length+1) none) s (by rw[Z.lo];have:=M.k.TW;omega) (by simp) rfl rfl;simp only[Jg,Jh]at z;refine⟨_,l,Bb N,st.c+1,I,_,z,?_⟩;have P:l.c=st.c+2:=K;have b:∀p,p<st.c->p≠c+5->Az u≠some p->∀y,AA (Ah l.h (c+5) y) p=AA st.h p:=fun p h1 h2 T y=>by rw[Ag s,AJ (Aj h2)];exact F p h1 T
 have t:∀p,p<c+6->Az u≠some p:=fun p f e=>by have:=m.Dc p e;omega
 refine⟨Z.Ah (by omega) s,by show c+6<=l.c;omega,?_,?_,?_,?_,?_,?_,fun p f=>by cases f;show c+6<=st.c+1/\st.c+1<l.c;omega,by simp[L],fun j hl hr=>?_,fun x U=>?_⟩
 ·show AA (Ah _ _ _) c=_;rw[b c (by omega) (by omega) (t _ (by omega))];exact m.q
 ·show AA (Ah _ _ _) (c+1)=_;rw[b _ (by omega) (by omega) (t _ (by omega))];exact m.lf
 ·show AA (Ah _ _ _) (c+3)=_;rw[b _ (by omega) (by omega) (t _ (by omega))];exact m.sy
 ·show AA (Ah _ _ _) (c+4)=_;rw[b _ (by omega) (by omega) (t _ (by omega))];exact m.kd
 ·show AA (Ah _ _ _) (c+5)=_;rw[Ag s,AX rfl]
 ·have T:∀x∈d++[AV.agg [.str g,w,.int .i64 i]],x.cells.length=3:=fun x U=>by
   rcases Ca.1 U with h|h
   ·obtain⟨j,O,rfl⟩:=Du h;exact (m.each j O (by omega)).1.three
   ·simp at h;subst h;rfl
  have:=Lp.ob (h:=Ah l.h (c+5) (.cells 29 3 [.AU (c+4) 0 2 (some 2),.str [115],.AU (st.c+1) 0 (d.length+1) none] false)) (ty:=63) (sz:=3) (st.c+1) (d++[.agg [.str g,w,.int .i64 i]]) (by simp) T (by rw[Ag s,AJ (by omega)];exact S);simpa using this
 ·by_cases O:j<d.length
  ·have V:(d++[AV.agg [.str g,w,.int .i64 i]])[j]=d[j]:=IX O;have R:(D++[Dw.mk g r i])[j]=D[j]'(by omega):=IX (by omega);rw[V,R];obtain⟨d1,Y⟩:=m.each j O (by omega);refine⟨d1.heap fun p f=>?_,fun p f=>?_⟩
   ·have:=Y p f;show AA (Ah _ _ _) p=_;exact b p (by omega) (by omega) this.2.2 _
   ·have:=Y p f;exact⟨this.1,by show p<l.c;omega,fun e=>by cases e;omega⟩
  ·have W:j=d.length:=by simp at hl;omega
   subst W;have V:(d++[AV.agg [.str g,w,.int .i64 i]])[d.length]=.agg [.str g,w,.int .i64 i]:=by simp
   have R:(D++[Dw.mk g r i])[d.length]=⟨g,r,i⟩:=by simp[L]
   rw[V,R];refine⟨⟨w,rfl,M.right.heap fun p f=>?_⟩,fun p f=>?_⟩
   ·have:=M.Dc p f;have h4:Az u≠some p:=fun e=>by have:=H.Dc p e;omega
    show AA (Ah _ _ _) p=_;exact b p (by omega) (by omega) h4 _
   ·have:=M.Dc p f;exact⟨by omega,by show p<l.c;omega,fun e=>by cases e;omega⟩
 ·rcases Ca.1 U with h|h
  ·exact H.ok x h
  ·simp at h;subst h;exact hd
end
theorem Si{k o:Nat}{b:St}{v:AV}{zs:List Int}{a l u:Int}(h:RO b o v a)(d:GI v zs)(e:0<=a/\a<1000000000)(f:0<=l)(g:l<=u)(i:u<1000000000) :
 ∃N:Nat,l<=N/\N<=u/\(N:Int)=l+Br zs (a+1) (u-l+1)/\Ab E (k+3) 41 [.AL o 0,.int .i64 l,.int .i64 u] b=.ret (.int .i64 (N:Int),tick b o v (a+1)):=by
 have j:=IG (zs:=zs) (a:=a+1) (n:=u-l+1) (by omega);obtain⟨N,c⟩:∃N:Nat,l+Br zs (a+1) (u-l+1)=N:=⟨(l+Br zs (a+1) (u-l+1)).toNat,by omega⟩;refine⟨N,by omega,by omega,c.symm,?_⟩;rw[rz h d e f g i,c]
section
variable {c o:Nat}{vs:AV}{zs:List Int}{st0:St}{syms:List Bz}{k:Nat}
def qg(zs:List Int)(n:Nat)(syms:List Bz)(i:Nat)(rs:List Dw)(b:Int)(rs':List Dw)(b':Int):Prop:=
 ∃(N:Nat) (lf:Bz) (lv:Int),(N:Int)=0+Br zs (b+1) (3-0+1)/\[AV.str [115],.str [116],.str [117]][((i:Int).tmod n).toNat]? =some (.str lf) /\
  ((Br zs (b+1+N+1) 5=0/\lv=1+Br zs (b+1+N+1+1) (3-1+1)/\b'=b+1+N+1+1)∨(Br zs (b+1+N+1) 5≠0/\lv=0/\b'=b+1+N+1)) /\
  ((vM rs lf (ZA zs (b+1) syms N)/\rs'=rs)∨(¬vM rs lf (ZA zs (b+1) syms N)/\rs'=rs++[⟨lf,ZA zs (b+1) syms N,lv⟩]))
theorem qg.one{zs:List Int}{n i:Nat}{syms:List Bz}{h k l:List Dw}{b d g:Int}(x:qg zs n syms i h b k d)(q:qg zs n syms i h b l g):k=l/\d=g:=by
 obtain⟨N,D,y,F,w,z,m⟩:=x;obtain⟨r,A,f,H,j,o,u⟩:=q;have e:N=r:=by omega
 subst e;rw[w]at j;cases j;have p:y=f/\d=g:=by
  rcases z with⟨c,t,s⟩|⟨c,t,s⟩<;>rcases o with⟨a,B,v⟩|⟨a,B,v⟩
  ·omega
  ·exact absurd c a
  ·exact absurd a c
  ·omega
 obtain⟨rfl,rfl⟩:=p;refine⟨?_,rfl⟩;rcases m with⟨c,rfl⟩|⟨c,rfl⟩<;>rcases u with⟨a,rfl⟩|⟨a,rfl⟩
 ·rfl
 ·exact absurd c a
 ·exact absurd a c
 ·rfl
def eY(zs:List Int)(n:Nat)(syms:List Bz)(b:Int):Nat->List Dw->Int->Prop
 |0,rs,b'=>rs=[]/\b'=b
 |i+1,rs',b''=>∃rs b',eY zs n syms b i rs b'/\qg zs n syms i rs b' rs' b''
theorem eY.one{zs:List Int}{n:Nat}{syms:List Bz}{b:Int}:∀{i:Nat} {a c:List Dw} {d e:Int},eY zs n syms b i a d->eY zs n syms b i c e->a=c/\d=e
 |0,_,_,_,_,⟨l,f⟩,⟨g,k⟩=>⟨l.trans g.symm,f.trans k.symm⟩
 |i+1,_,_,_,_,⟨a,q,m,j⟩,⟨c,p,h,o⟩=>by obtain⟨rfl,rfl⟩:=eY.one m h;exact j.one o
def Grown(zs:List Int)(n:Nat)(c o:Nat)(vs:AV)(a:Int)(st0:St)(syms:List Bz)(i:Nat)(st:St):Prop:=
 ∃(rv:AV) (ls:List AV) (rs:List Dw) (m:Int),rs.length<=i/\(0<i->0<rs.length)/\0<=m/\m<=12*(i:Int)/\eY zs n syms a i rs (a+m)/\qj c o vs (a+m) st0 st syms rv ls rs
theorem rV{T n:Nat}{a:Int}{rv0:AV}(hv:GI vs zs)(a9:0<syms.length)(a6:syms.length<=10)(b3:∀s∈syms,s.length<=50)(hn:1<=n/\n<=3)(hT:T<=6)(ha:0<=a/\a<20000)(z:TS)(h0:z.get 0=.AL o 0)(h2:z.get 2=.AL c 0)(h4:z.get 4=.AU (c+1) 0 n (some 3))(h5:z.get 5=.AU (c+3) 0 syms.length none)(h6:z.get 6=.AL (c+5) 0)(J:z.get 33=.int .i64 (T:Int))(O:z.get 34=.int .i64 ((0:Nat):Int))(d:St)(H0:qj c o vs a st0 d syms .AO [] []) :
 (Dm (Bc E (Ab E (k+4)) C.f15L0) E.k z d).to fun x=>x.1=.exit 0/\x.2.1.get 2=.AL c 0/\x.2.1.get 6=.AL (c+5) 0/\Grown zs n c o vs a st0 syms T x.2.2:=by
 refine Cy (fun (i:Nat) ts d=>i<=T/\ts.get 0=.AL o 0/\ts.get 2=.AL c 0/\ts.get 4=.AU (c+1) 0 n (some 3)/\ts.get 5=.AU (c+3) 0 syms.length none/\ts.get 6=.AL (c+5) 0/\ts.get 33=.int .i64 (T:Int)/\ts.get 34=.int .i64 (i:Int) /\
  Grown zs n c o vs a st0 syms i d)
  (fun i=>T-i) ?_ _ 0 _ _ ?_ ?_
 ·rintro i ts d ⟨hi,h0,h2,h4,h5,h6,J,O,rv,Y,B,m,c6,c0,c3,c4,K,H⟩;by_cases Bi:i<T
  ·have e0:=H.k.oc;have e1:=H.cc;have c9:∀p x,(p,x)∈d.h->p<d.c:=H.k.hb;have d9:0<=(i:Int).tmod n:=Int.tmod_nonneg _ (by omega);have d7:(i:Int).tmod n<n:=Sz _ (by omega);obtain⟨j,hj⟩:∃j:Nat,(i:Int).tmod n=j:=⟨((i:Int).tmod n).toNat,by omega⟩;have b9:j<n:=by omega
   have e3:(n:Int)≠0:=by omega
   have a7:n≠0:=by omega
   obtain⟨f,a5,a4⟩:∃f:Bz,[AV.str [115],.str [116],.str [117]][j]? =some (.str f)/\f.length<=50:=by
    have:j=0∨j=1∨j=2:=by omega
    rcases this with rfl|rfl|rfl<;>exact⟨_,rfl,by simp⟩
   have b6:∀c',AY 1 (.AU (c+1) 0 n (some 3)) (.int .i64 (j:Int)) ⟨d.h,c',d.lo⟩=some (.AL (c+1) j,⟨d.h,c',d.lo⟩):=fun c'=>by simp[AY,Bg,H.lf,blt_eq,b9]
   have c1:AQ d.h (.AL (c+1) j)=some (.str f):=by rw[AR H.lf];exact a5
   have U:Bp [.str [],.AO,.int .i64 0] [(0,1)] [.str f]=some [.str f,.AO,.int .i64 0]:=by simp[Bp,AV.isTuple,AV.cells,ble_eq,Bl]
   have a8:∀c',BM 3 (.AL d.c 0) (.agg [.str f,.AO,.int .i64 0]) ⟨(d.c,.cells 63 3 [.str [],.AO,.int .i64 0] false)::d.h,c',d.lo⟩=some (.undef,⟨(d.c,.cells 63 3 [.str f,.AO,.int .i64 0] false)::d.h,c',d.lo⟩):=fun c'=>by rw[KA (n:=3) (ty:=63) (sz:=3) (cs:=[.str [],.AO,.int .i64 0]) (ext:=false) (by simp[AZ]) (by show d.lo<=d.c;rw[H.k.lo];have:=H.k.TW;omega) rfl rfl];simp[Ah]
   have K1:=H.k.cons (p:=d.c) (x:=.cells 63 3 [.str f,.AO,.int .i64 0] false) (n:=d.c+1) (by omega) (by omega) (by omega);obtain⟨N,d8,d6,b2,Z⟩:=Si (k:=k+1) K1.st hv (by omega) (l:=0) (u:=3) (by omega) (by omega) (by omega);have K2:=K1.tick (a+m+1);have F0:vL c o vs (a+m+1) st0 d d.c (c+3) syms f .AO [] (tick ⟨(d.c,.cells 63 3 [.str f,.AO,.int .i64 0] false)::d.h,d.c+1,d.lo⟩ o vs (a+m+1)):=by
    have hf:∀p,p≠o->AA (tick ⟨(d.c,BJ.cells 63 3 [.str f,.AO,.int .i64 0] false)::d.h,d.c+1,d.lo⟩ o vs (a+m+1)).h p=if d.c=p then some (.cells 63 3 [.str f,.AO,.int .i64 0] false) else AA d.h p:=fun p hp=>by rw[Gp K1.Kj hp,AZ]
    exact⟨K2,by show d.c+1<=d.c+1;omega,by rw[hf _ (by omega),AX rfl],.nl,fun p hp=>(by cases hp),by rw[hf _ (by omega),AJ (by omega)];exact H.sy,fun p hp b7=>by rw[hf p b7,AJ (by omega)],fun s hs=>by simp at hs⟩
   have loop:=fun q b0 b5 b8 c7 c2=>uP (k:=k+1) (N:=N) hv (show c<=d.c by omega) (show c+3<d.c/\c<=c+3 by omega) a9 a6 (by omega) (a:=a+m+1) (by omega) q b0 b5 b8 c7 c2 _ F0;simp[C.f15L0,h0,h4,J,O,Bi,BZ,CV,a7,hj,b6,c1,U,Bb c9,a8,Z];refine M.BG (loop _ (by simp[h0]) (by simp[h5]) (by simp) (by simp) (by simp)) fun x hx=>?_;obtain⟨e,q,a3⟩:=x;obtain⟨rfl,v,w,r,m2,c8,d1,d2,⟨a2,c5⟩,F⟩:=hx;subst c5;simp only at v F;have g0:q.get 0=.AL o 0:=by rw[v 0 (by omega)];simp[h0]
   have g2:q.get 2=.AL c 0:=by rw[v 2 (by omega)];simp[h2]
   have g4:q.get 4=.AU (c+1) 0 n (some 3):=by rw[v 4 (by omega)];simp[h4]
   have g5:q.get 5=.AU (c+3) 0 syms.length none:=by rw[v 5 (by omega)];simp[h5]
   have g6:q.get 6=.AL (c+5) 0:=by rw[v 6 (by omega)];simp[h6]
   have g8:q.get 8=.AL d.c 0:=by rw[v 8 (by omega)];simp
   have V:q.get 33=.int .i64 (T:Int):=by rw[v 33 (by omega)];simp[J]
   have a0:q.get 34=.int .i64 (i:Int):=by rw[v 34 (by omega)];simp[O]
   have g:=Yy (k:=k+1) F.k.st hv (by omega) (n:=5) (by unfold TR;omega);have M1:=F.made.tick (show c<=d.c by omega) (a+m+1+(N:Int)+1);have R:∀s∈r,s.length<=50:=fun s hs=>b3 s (F.from_ s hs);have d3:=M1.k.st;obtain⟨L,e2,d5,b4,y⟩:=Si (k:=k+1) M1.k.st hv (by omega) (l:=1) (u:=3) (by omega) (by omega) (by omega);have M2:=M1.tick (show c<=d.c by omega) (a+m+1+(N:Int)+1+1);obtain⟨D,M3⟩:=M2.level (show c<=d.c by omega) (L:Int);have b1:∀(S:St) (t:Int) (mm:Int),Made c o vs (a+mm) st0 d d.c f w r t S->0<=t/\t<=3->∃(x:Bool),Ab E (k+4) 42 [rv,.fn (.func 43) [] [.AL d.c 0]] S=.ret (.bool x,S)/\(Y=[]->x=false)/\(x=true↔vM B f r) /\
    AQ S.h (.AL (c+5) 2)=some rv/\Ak S.h (.AL d.c 0) 3=some [.str f,w,.int .i64 t]/\qj c o vs (a+mm) st0 S syms rv Y B /\
    BC S.c 63 3 1 [.str [],.AO,.int .i64 0] [0] [.agg [.str f,w,.int .i64 t]]=some (.AU S.c 0 1 (some 1),.cells 63 3 [.str f,w,.int .i64 t] false) /\
    ∃S2 S3 id S4,BA S.c (.cells 63 3 [.str f,w,.int .i64 t] false) ⟨S.h,S.c+2,S.lo⟩=some S2/\Bq (S.c+1) 63 3 48 rv (.AU S.c 0 1 (some 1)) S2=some (.AU id 0 (Y.length+1) none,S3) /\
    BM 1 (.AL (c+5) 2) (.AU id 0 (Y.length+1) none) S3=some (.undef,S4)/\qj c o vs (a+mm) st0 S4 syms (.AU id 0 (Y.length+1) none) (Y++[.agg [.str f,w,.int .i64 t]]) (B++[⟨f,r,t⟩]):=by
    intro S t mm Mm d0;obtain⟨H2,S2,S3,j1,id,j2,S4,j3,j4⟩:=join H Mm (by omega) ⟨a4,c8,R,d0⟩;have d4:=Mm.cc;obtain⟨x,hx,P,A⟩:=AGD (k:=k) H2 (by omega) (b:=d.c) (by omega) Mm.obj Mm.right fun p hp=>(Mm.Dc p hp).2;refine⟨x,hx,P,A,by rw[AR H2.gb];rfl,FI Mm.obj rfl,H2,?_,S2,S3,id,S4,j1,j2,j3,j4⟩;simp[BC,blt_eq,ble_eq,Bp,Bl,AV.isTuple,AV.cells]
   have a1:[AV.str [115],.str [116],.str [117]][((i:Int).tmod n).toNat]? =some (.str f):=by rw[hj];exact a5
   have stepT:∀{t W:Int},((Br zs (a+m+1+N+1) 5=0/\t=1+Br zs (a+m+1+N+1+1) (3-1+1)/\W=a+m+1+N+1+1)∨(Br zs (a+m+1+N+1) 5≠0/\t=0/\W=a+m+1+N+1))->vM B f r->eY zs n syms a (i+1) B W:=fun {t W} h1 h2=>⟨B,a+m,K,N,f,t,b2,a1,h1,.inl ⟨a2▸h2,rfl⟩⟩;have I:∀{t W:Int},((Br zs (a+m+1+N+1) 5=0/\t=1+Br zs (a+m+1+N+1+1) (3-1+1)/\W=a+m+1+N+1+1)∨(Br zs (a+m+1+N+1) 5≠0/\t=0/\W=a+m+1+N+1))->¬vM B f r->eY zs n syms a (i+1) (B++[⟨f,r,t⟩]) W:=fun {t W} h1 h2=>⟨B,a+m,K,N,f,t,b2,a1,h1,.inr ⟨a2▸h2,by rw[a2]⟩⟩;by_cases hfl:Br zs (a+m+1+(N:Int)+1) 5=0
   ·have Q:(Br zs (a+m+1+(N:Int)+1) 5==0)=true:=by simp[hfl]
    generalize Ah (tick (tick a3 o vs (a+m+1+(N:Int)+1)) o vs (a+m+1+(N:Int)+1+1)).h d.c (.cells 63 3 [.str f,w,.int .i64 (L:Int)] false)=hh at D M3;generalize ({ tick (tick a3 o vs (a+m+1+(N:Int)+1)) o vs (a+m+1+(N:Int)+1+1)with h:=hh }:St)=S at D M3;obtain⟨x,f2,P,A,f1,f3,H2,f4,S2,S3,id,S4,f5,f6,f7,H4⟩:=b1 S L (m+1+(N:Int)+1+1) (by rw[show a+(m+1+(N:Int)+1+1)=a+m+1+(N:Int)+1+1 by omega];exact M3) (by omega);cases x with
    |true=>
     simp[g0,g8,g6,a0,g,Q,y,D,f1,f2,wi i];refine⟨i+1,by omega,by omega,g2,g4,g5,V,by simp,rv,Y,B,(m+1+(N:Int)+1+1),by omega,fun _=>?_,by omega,by omega,stepT (.inl ⟨hfl,b4,by omega⟩) (A.1 rfl),H2⟩;rcases Nat.eq_zero_or_pos B.length with h|h
     ·exact absurd (P (Gn (by rw[H.ln];exact h))) (by simp)
     ·exact h
    |false=>simp[g0,g8,g6,a0,g,Q,y,D,f1,f2,f3,f4,f5,f6,f7,wi i];exact⟨i+1,by omega,by omega,g2,g4,g5,V,by simp,_,_,_,(m+1+(N:Int)+1+1),by simp;omega,fun _=>by simp,by omega,by omega,I (.inl ⟨hfl,b4,by omega⟩) (fun h=>by have:=A.2 h;cases this),H4⟩
   ·have Q:(Br zs (a+m+1+(N:Int)+1) 5==0)=false:=Hy hfl;generalize tick a3 o vs (a+m+1+(N:Int)+1)=S at g M1;obtain⟨x,f2,P,A,f1,f3,H2,f4,S2,S3,id,S4,f5,f6,f7,H4⟩:=b1 S 0 (m+1+(N:Int)+1) (by rw[show a+(m+1+(N:Int)+1)=a+m+1+(N:Int)+1 by omega];exact M1) (by omega);cases x with
    |true=>
     simp[g0,g8,g6,a0,g,Q,f1,f2,wi i];refine⟨i+1,by omega,by omega,g2,g4,g5,V,by simp,rv,Y,B,(m+1+(N:Int)+1),by omega,fun _=>?_,by omega,by omega,stepT (.inr ⟨hfl,rfl,by omega⟩) (A.1 rfl),H2⟩;rcases Nat.eq_zero_or_pos B.length with h|h
     ·exact absurd (P (Gn (by rw[H.ln];exact h))) (by simp)
     ·exact h
    |false=>simp[g0,g8,g6,a0,g,Q,f1,f2,f3,f4,f5,f6,f7,wi i];exact⟨i+1,by omega,by omega,g2,g4,g5,V,by simp,_,_,_,(m+1+(N:Int)+1),by simp;omega,fun _=>by simp,by omega,by omega,I (.inr ⟨hfl,rfl,by omega⟩) (fun h=>by have:=A.2 h;cases this),H4⟩
  ·have:i=T:=by omega
   subst this;simp[C.f15L0,h2,h6,J,O];exact⟨rv,Y,B,m,c6,c0,c3,c4,K,H⟩
 ·exact FX (by show T-0<1000000;omega)
 ·exact⟨by omega,h0,h2,h4,h5,h6,J,O,.AO,[],[],0,by simp,by omega,by omega,by omega,⟨rfl,Int.add_zero a⟩,by rw[Int.add_zero];exact H0⟩
end
theorem Gg.Ow{l:List AV}{a:List Dw}(H:Gg l a)(c:Nat):AV.Dq c l=true:=by
 induction H with
 |nil=>rfl
 |cons h t b=>
  obtain⟨e,rfl,d⟩:=h;have:e.CY c=true:=by
   rcases d.out with⟨rfl,_⟩|⟨t,rfl⟩
   ·rfl
   ·exact LW c _
  simp[AV.Dq,AV.CY,this,b]
theorem GD.Ow{v:AV}{g:Ac}(H:GD v g)(c:Nat):v.CY c=true:=by
 obtain⟨h,i,l,rfl,a,e,b⟩:=H;have f:h.CY c=true:=by
  rcases a.out with⟨rfl,_⟩|⟨t,rfl⟩
  ·rfl
  ·exact LW c _
 have d:i.CY c=true:=by
  rcases e.out with⟨rfl,_⟩|⟨t,rfl⟩
  ·rfl
  ·exact b.Ow c
 simp[AV.CY,AV.Dq,f,d]
theorem UW{r:Dw}(h:Tk r=true):r.Small/\r.right.length<=29:=by simp only[Tk,Aq,Aw,Fj]at h;exact⟨⟨h.1.1.1.1,by omega,fun s a=>h.1.1.2 s a,h.1.2,h.2⟩,h.1.1.1.2⟩
theorem wN{g:Ac}(h:OZ g=true):qh g:=by simp only[OZ,Aq,Aw,Fj]at h;obtain⟨⟨⟨⟨⟨⟨e,c⟩,j⟩,d⟩,i⟩,f⟩,b⟩:=h;exact⟨⟨by omega,c,j,by omega,fun r a=>(UW (b r a)).1,by omega⟩,e,d,i,fun r a=>(UW (b r a)).2,f⟩
theorem VC:∀{l:List AV} {a:List Ac},Oj l=some a->l.length=a.length/\∀(i:Nat) (b:i<l.length) (e:i<a.length),Xh l[i]=some a[i]
 |[],a,h=>by cases h;exact⟨rfl,fun i b=>by simp at b⟩
 |v::l,a,h=>by
  simp only[Oj]at h;split at h
  ·rename_i g e;split at h
   ·rename_i j c;cases h;obtain⟨k,f⟩:=VC c;refine⟨by simp[k],fun i b d=>?_⟩;cases i with
    |zero=>exact e
    |succ i=>exact f i (by simpa using b) (by simpa using d)
   ·cases h
  ·cases h
def kV(k:Nat):Prop:=∃t l gs,(∀st,Ab E k 40 [] st=.ret (.list t 3 l,st))/\Oj l=some gs/\gs.length=12/\∀g∈gs,OZ g=true
theorem Dw.qp.small{r:Dw}(h:r.qp):r.Small/\r.right.length<=29:=by have a:=h.right;have b:=h.level;exact⟨⟨h.left,by omega,h.AB,by omega,by omega⟩,by omega⟩
theorem qj.AG6{c o:Nat}{r rv:AV}{a:Int}{i d:St}{syms:List Bz}{ls:List AV}{e:List Dw}(H:qj c o r a i d syms rv ls e) :
 ZZ c d.h (.AU (c+4) 0 2 (some 2)) [[97],[98]]/\Fu c d.h ls e/\((rv=.AO/\e=[])∨∃p cap t ext rest,rv=.AU p 0 ls.length cap/\c<p/\AA d.h p=some (.cells t 3 (ls.flatMap AV.cells++rest) ext)):=by
 refine⟨Or.inr ⟨c+4,some 2,9,false,rfl,by omega,H.kd⟩,Fu.Vm H.ln fun j m n=>Pg.of (H.each j m n).1 fun p s=>by have:=((H.each j m n).2 p s).1;omega,?_⟩;have q:=H.AP;have b:=H.Dc;have f:=H.ln;generalize k:ls=l at q;cases q with
 |nl=>exact .inl ⟨rfl,Gn (by rw[←f,k];rfl)⟩
 |mt id ext g=>exact .inr ⟨id,some 0,63,ext,[],by simp,by have:=b id rfl;omega,by simpa using g⟩
 |ob id _ u v g=>exact .inr ⟨id,none,63,true,[],rfl,by have:=b id rfl;omega,by rw[Fh];exact g⟩
section
variable {k:Nat}{o:Nat}{vs:AV}{zs:List Int}{a:Int}{st:St}
theorem Fa.zo{c o:Nat}{vs:AV}{a:Int}{d st:St}(K:Fa c o vs a d st)(b:Int):∀p,p≠o->AA (Am.tick st o vs b).h p=AA st.h p:=fun p e=>Gp K.Kj e
theorem fe(hs:RO st o vs a)(O:GI vs zs)(ha:0<=a/\a<10000)(Y:o<st.c)(hb:HB st) :
 ∀S:St,S.c=st.c+1->Fa st.c o vs (a+1) st S->AA S.h st.c=some (.cells 29 3 [.AO,.str [],.AO] false) ->
 ∃N:Nat,1<=N/\N<=3/\(N:Int)=1+Br zs (a+1+1) (3-1+1)/\∃T:Nat,T<=3/\(T:Int)=0+Br zs (a+1+1+1) (3-0+1)/\∃b R d V U w,
  Ab E (k+4) 41 [.AL o 0,.int .i64 1,.int .i64 3] ⟨(S.c,.cells 9 1 [.str [115],.str [116],.str [117]] false)::S.h,S.c+1,S.lo⟩=.ret (.int .i64 (N:Int),b) /\
  DW 1 false true false [.AU S.c 0 3 (some 3),.int .i64 (N:Int)] b=some (.AU S.c 0 N (some 3),b)/\b.c=st.c+2 /\
  BA b.c (.cells 9 1 [.str [97],.str [98]] false) ⟨b.h,b.c+2,b.lo⟩=some R /\
  Bq (b.c+1) 9 1 16 (.AU b.c 0 2 (some 2)) (.AU S.c 0 N (some 3)) R=some (.AU (st.c+3) 0 (2+N) none,d)/\d.c=st.c+4 /\
  BA d.c (.cells 9 1 [.str [97],.str [98]] false) ⟨d.h,d.c+2,d.lo⟩=some V /\
  BA (d.c+1) (.cells 29 3 [.AO,.str [],.AO] false) V=some U /\
  BM 3 (.AL (d.c+1) 0) (.agg [.AU d.c 0 2 (some 2),.str [115],.AO]) U=some (.undef,w) /\
  Ab E (k+4) 41 [.AL o 0,.int .i64 0,.int .i64 3] w=.ret (.int .i64 (T:Int),Am.tick w o vs (a+3)) /\
  qj st.c o vs (a+3) st (Am.tick w o vs (a+3)) ([[97],[98]]++[[115],[116],[117]].take N) .AO [] []:=by
 intro S y K hq;have a2:=Y;have z:=K.cons (p:=S.c) (x:=.cells 9 1 [.str [115],.str [116],.str [117]] false) (n:=S.c+1) (by omega) (by omega) (by omega);obtain⟨N,a5,W,H,m⟩:=Si (k:=k+1) z.st O (by omega) (l:=1) (u:=3) (by omega) (by omega) (by omega);have v:=z.tick (a+1+1);have F:∀p,p≠o->AA (Am.tick ⟨(S.c,.cells 9 1 [.str [115],.str [116],.str [117]] false)::S.h,S.c+1,S.lo⟩ o vs (a+1+1)).h p=if S.c=p then some (.cells 9 1 [.str [115],.str [116],.str [117]] false) else AA S.h p:=fun p q=>by rw[Gp z.Kj q,AZ]
 have P:(Am.tick ⟨(S.c,.cells 9 1 [.str [115],.str [116],.str [117]] false)::S.h,S.c+1,S.lo⟩ o vs (a+1+1)).c=st.c+2:=by show S.c+1=_;omega
 generalize Am.tick ⟨(S.c,.cells 9 1 [.str [115],.str [116],.str [117]] false)::S.h,S.c+1,S.lo⟩ o vs (a+1+1)=b at m v F P;have B:AA b.h S.c=some (.cells 9 1 [.str [115],.str [116],.str [117]] false):=by rw[F _ (by omega),AX rfl]
 have t:∀p x,(p,x)∈b.h->p<b.c:=v.hb;have K5:=v.cons (p:=b.c) (x:=.cells 9 1 [.str [97],.str [98]] false) (n:=b.c+2) (by omega) (by omega) (by omega);have L:=K5.cons (p:=b.c+1) (x:=.cells 9 1 (Bf ([[97],[98]]++[[115],[116],[117]].take N)) true) (n:=b.c+2) (by omega) (by show _<_;omega) (Ao _);have i:=L.hb;have K7:=L.cons (p:=b.c+2) (x:=.cells 9 1 [.str [97],.str [98]] false) (n:=b.c+4) (by omega) (by omega) (by show b.c+2<=_;omega);have J:=K7.cons (p:=b.c+3) (x:=.cells 29 3 [.AU (b.c+2) 0 2 (some 2),.str [115],.AO] false) (n:=b.c+4) (by omega) (by omega) (Ao _);obtain⟨T,a1,a0,D,g⟩:=Si (k:=k+1) J.st O (by omega) (l:=0) (u:=3) (by omega) (by omega) (by omega);rw[show a+1+1+1=a+3 by omega]at g;have A:=J.tick (a+3);have I:=J.zo (a+3);have a4:(2:Nat)+N=N+2:=by omega
 have a3:∀h:Aa,True:=fun _=>trivial;have hN:N=1∨N=2∨N=3:=by omega
 refine⟨N,by omega,by omega,H,T,by omega,D,b,⟨(b.c,.cells 9 1 [.str [97],.str [98]] false)::b.h,b.c+2,b.lo⟩,
  ⟨(b.c+1,.cells 9 1 (Bf ([[97],[98]]++[[115],[116],[117]].take N)) true)::(b.c,.cells 9 1 [.str [97],.str [98]] false)::b.h,b.c+2,b.lo⟩,
  ⟨(b.c+2,.cells 9 1 [.str [97],.str [98]] false)::(b.c+1,.cells 9 1 (Bf ([[97],[98]]++[[115],[116],[117]].take N)) true)::(b.c,.cells 9 1 [.str [97],.str [98]] false)::b.h,b.c+4,b.lo⟩,
  ⟨(b.c+3,.cells 29 3 [.AO,.str [],.AO] false)::(b.c+2,.cells 9 1 [.str [97],.str [98]] false)::(b.c+1,.cells 9 1 (Bf ([[97],[98]]++[[115],[116],[117]].take N)) true)::(b.c,.cells 9 1 [.str [97],.str [98]] false)::b.h,b.c+4,b.lo⟩,
  ⟨(b.c+3,.cells 29 3 [.AU (b.c+2) 0 2 (some 2),.str [115],.AO] false)::(b.c+2,.cells 9 1 [.str [97],.str [98]] false)::(b.c+1,.cells 9 1 (Bf ([[97],[98]]++[[115],[116],[117]].take N)) true)::(b.c,.cells 9 1 [.str [97],.str [98]] false)::b.h,b.c+4,b.lo⟩,
  m,?_,P,Bb (fun p x f=>t p x f),?_,by show b.c+2=_;omega,Bb ?_,Bb ?_,?_,g,?_⟩
 ·have e1:Nat.ble N 3=true:=Dv (by omega);simp[DW,Gi,Bg,GK,B,He,Ia,e1,ble_eq,blt_eq]
 ·have l5:AA ((b.c,BJ.cells 9 1 [.str [97],.str [98]] false)::b.h) S.c=some (.cells 9 1 [.str [115],.str [116],.str [117]] false):=by rw[AZ,AJ (by omega)];exact B
  have Q:BA (b.c+1) (.cells 9 1 (Bf ([[97],[98]]++[[115],[116],[117]].take N)) true) ⟨(b.c,.cells 9 1 [.str [97],.str [98]] false)::b.h,b.c+2,b.lo⟩=some ⟨(b.c+1,.cells 9 1 (Bf ([[97],[98]]++[[115],[116],[117]].take N)) true)::(b.c,.cells 9 1 [.str [97],.str [98]] false)::b.h,b.c+2,b.lo⟩:=Bb fun p x f=>by
   rcases BK.1 f with h|h
   ·cases h;omega
   ·have:=t p x h;omega
  have e3:st.c+3=b.c+1:=by omega
  rw[e3];rcases hN with rfl|rfl|rfl<;>simp only[List.take,Bf,List.map,Lj,JJ]at Q<;>simp[Bq,lenOf,BS,l5,CX,GG,AZ,grow,room,Q,Bf,ble_eq,beq_eq]
 ·intro p x f;have:=i p x f;exact this
 ·intro p x f;rcases BK.1 f with h|h
  ·cases h;show b.c+2<b.c+2+1;omega
  ·have:p<b.c+2:=i p x h;show p<b.c+2+1;omega
 ·have e:=KA (st:=⟨(b.c+3,.cells 29 3 [.AO,.str [],.AO] false)::(b.c+2,.cells 9 1 [.str [97],.str [98]] false)::(b.c+1,.cells 9 1 (Bf ([[97],[98]]++[[115],[116],[117]].take N)) true)::(b.c,.cells 9 1 [.str [97],.str [98]] false)::b.h,b.c+4,b.lo⟩) (o:=b.c+3) (n:=3) (ty:=29) (sz:=3) (cs:=[.AO,.str [],.AO]) (ext:=false) (vs:=[.AU (b.c+2) 0 2 (some 2),.str [115],.AO]) (by show AA ((b.c+3,_)::_) (b.c+3)=_;rw[AZ,AX rfl]) (by show b.lo<=b.c+3;rw[v.lo];have:=hs.lo;omega) rfl rfl;refine Eq.trans e ?_;simp[Ah,beq_eq]
 ·have q4:AA b.h st.c=some (.cells 29 3 [.AO,.str [],.AO] false):=by rw[F _ (by omega),AJ (by omega)];exact hq
  have s:∀p,p≠o->AA (Am.tick ⟨(b.c+3,.cells 29 3 [.AU (b.c+2) 0 2 (some 2),.str [115],.AO] false)::(b.c+2,.cells 9 1 [.str [97],.str [98]] false)::(b.c+1,.cells 9 1 (Bf ([[97],[98]]++[[115],[116],[117]].take N)) true)::(b.c,.cells 9 1 [.str [97],.str [98]] false)::b.h,b.c+4,b.lo⟩ o vs (a+3)).h p =
   if b.c+3=p then some (.cells 29 3 [.AU (b.c+2) 0 2 (some 2),.str [115],.AO] false) else if b.c+2=p then some (.cells 9 1 [.str [97],.str [98]] false) else if b.c+1=p then some (.cells 9 1 (Bf ([[97],[98]]++[[115],[116],[117]].take N)) true) else if b.c=p then some (.cells 9 1 [.str [97],.str [98]] false) else AA b.h p:=fun p q=>by
   rw[I p q];simp only[AZ]
  refine⟨A,by show st.c+6<=b.c+4;omega,?_,?_,?_,?_,?_,.nl,fun p q=>(by cases q),rfl,fun j Z=>(by simp at Z),fun r hr=>(by simp at hr)⟩
  ·rw[s _ (by omega),AJ (by omega),AJ (by omega),AJ (by omega),AJ (by omega)];exact q4
  ·rw[s _ (by omega),AJ (by omega),AJ (by omega),AJ (by omega),AJ (by omega)];rw[←y];exact B
  ·rw[s _ (by omega),AJ (by omega),AJ (by omega),AX (by omega)]
  ·rw[s _ (by omega),AJ (by omega),AX (by omega)]
  ·rw[s _ (by omega),AX (by omega)];rw[show st.c+4=b.c+2 by omega]
def Pj(k:Nat)(zs:List Int)(a:Int)(g:Ac)(m:Int):Prop:=
 (Br zs (a+1) 4=0/\∃(N T:Nat) (rs:List Dw) (b:Int),(N:Int)=1+Br zs (a+1+1) (3-1+1)/\(T:Int)=0+Br zs (a+1+1+1) (3-0+1)/\eY zs N ([[97],[98]]++[[115],[116],[117]].take N) (a+3) (N+T) rs b/\g=⟨[[97],[98]],[115],rs⟩/\m=b-a) ∨
  (Br zs (a+1) 4≠0/\∃(t:Bool) (l:List AV) (gs:List Ac) (i:Nat),(∀st,Ab E k 40 [] st=.ret (.list t 3 l,st))/\Oj l=some gs/\Br zs (a+1+1) (l.length:Int)=i/\gs[i]? =some g/\m=1+1)
theorem Pj.one{k:Nat}{zs:List Int}{a s m:Int}{r p:Ac}(A:Pj k zs a r s)(w:Pj k zs a p m):r=p/\s=m:=by
 rcases A with⟨x,N,T,O,b,v,u,n,d,h⟩|⟨x,t,l,L,i,v,u,n,d,h⟩<;>rcases w with⟨y,D,H,B,K,o,j,q,c,g⟩|⟨y,J,P,z,I,o,j,q,c,g⟩
 ·have F:N=D:=by omega
  have f:T=H:=by omega
  subst F f;obtain⟨rfl,rfl⟩:=n.one q;exact⟨d.trans c.symm,h.trans g.symm⟩
 ·exact absurd x y
 ·exact absurd y x
 ·have e:=(v ⟨[],0,0⟩).symm.trans (o ⟨[],0,0⟩);simp only[M.ret.injEq,JL,AV.list.injEq,true_and,BX]at e;obtain⟨_,rfl⟩:=e;rw[u,Ct]at j;subst j;have f:i=I:=by omega
  subst f;rw[d,Ct]at c;exact⟨c,h.trans g.symm⟩
theorem rW(hK:kV (k+4)):VR (Pj (k+4)) (k+5):=by
 intro st o vs zs a hs J b7 a0 ho c3 hb hh;rw[bI (fn:=C.f15) rfl rfl rfl,Ap (by simp)];have b8:∀p x,(p,x)∈st.h->p<st.c:=hb;have K1:=(Fa.begin hs ho hb).cons (p:=st.c) (x:=.cells 29 3 [.AO,.str [],.AO] false) (n:=st.c+1) (Ao _) (by omega) (by omega);have d:=Yy (k:=k+1) K1.st J (by omega) (n:=4) (by unfold TR;omega);have I:=K1.tick (a+1);have q2:AA (Am.tick ⟨(st.c,.cells 29 3 [.AO,.str [],.AO] false)::st.h,st.c+1,st.lo⟩ o vs (a+1)).h st.c=some (.cells 29 3 [.AO,.str [],.AO] false):=by rw[Gp K1.Kj (by omega),AZ,AX rfl]
 have c2:(Am.tick ⟨(st.c,.cells 29 3 [.AO,.str [],.AO] false)::st.h,st.c+1,st.lo⟩ o vs (a+1)).c=st.c+1:=rfl;generalize Am.tick ⟨(st.c,.cells 29 3 [.AO,.str [],.AO] false)::st.h,st.c+1,st.lo⟩ o vs (a+1)=S at d I q2 c2;have goal:((Bc E (Ab E (k+4)) C.f15.body (TS.FK [.AL o 0] 0 .nil) st).bind (Al C.f15.results)).to fun r=>
  ∃v g m j,Kn st.c r=.ret (v,j)/\j.c=st.c/\Fa st.c o vs (a+m) st j/\GD v g/\Pj (k+4) zs a g m/\qh g/\0<=m/\m<=100:=by
  simp[C.f15,Bb b8,d];by_cases hfl:Br zs (a+1) 4=0
  ·have D:(Br zs (a+1) 4==0)=true:=by simp[hfl]
   obtain⟨N,d0,c0,b4,T,c1,a7,S4,S5,S6,S7,S8,S9,e1,e2,c4,e3,e4,c6,e5,e6,e7,e8,H⟩:=fe (k:=k) hs J ⟨b7,a0⟩ ho hb S c2 I q2;have a4:∀p x,(p,x)∈S.h->p<S.c:=I.hb;have b3:∀n,BC n 9 1 3 [.str [],.str [],.str []] [0,1,2] [.str [115],.str [116],.str [117]]=some (.AU n 0 3 (some 3),.cells 9 1 [.str [115],.str [116],.str [117]] false):=fun n=>by simp[BC,blt_eq,ble_eq,Bp,Bl,AV.isTuple,AV.cells]
   have b2:∀n,BC n 9 1 2 [.str [],.str []] [0,1] [.str [97],.str [98]]=some (.AU n 0 2 (some 2),.cells 9 1 [.str [97],.str [98]] false):=fun n=>by simp[BC,blt_eq,ble_eq,Bp,Bl,AV.isTuple,AV.cells]
   have bp:∀n,Bp [.AO,.str [],.AO] [(0,1),(1,1)] [.AU n 0 2 (some 2),.str [115]]=some [.AU n 0 2 (some 2),.str [115],.AO]:=fun n=>by simp[Bp,Bl,AV.isTuple,AV.cells,ble_eq]
   have n1:BA S.c (.cells 9 1 [.str [115],.str [116],.str [117]] false) ⟨S.h,S.c+1,S.lo⟩=some ⟨(S.c,.cells 9 1 [.str [115],.str [116],.str [117]] false)::S.h,S.c+1,S.lo⟩:=Bb a4;have W:([[97],[98]]++[[115],[116],[117]].take N:List Bz).length=2+N:=by simp;omega
   have U:∀s∈([[97],[98]]++[[115],[116],[117]].take N:List Bz),s.length<=50:=fun s hs=>by
    rcases Ca.1 hs with h|h
    ·simp at h;rcases h with rfl|rfl<;>simp
    ·have:=TA h;simp at this;rcases this with rfl|rfl|rfl<;>simp
   have O:S6.c+1=st.c+5:=by omega
   rw[O]at e6 e7;have b0:((N+T:Nat):Int)=(N:Int)+T:=by omega
   have loop:=fun b6 z0 z2 z4 z5 z6 a6 a3=>rV (k:=k) (T:=N+T) (n:=N) (a:=a+3) (st0:=st) (rv0:=.AO) J (by rw[W];omega) (by rw[W];omega) U (by omega) (by omega) (by omega) b6 z0 z2 z4 z5 z6 a6 a3 _ H;simp[D,b3,b2,n1,e1,e2,e3,e4,e5,e6,bp,e7,e8,BZ,CV,O,wrap64 (n:=(N:Int)+T) (by omega) (by omega)];refine M.BG (loop _ (by simp) (by simp) (by simp[c2]) (by simp;omega) (by simp) (by simp[b0]) (by simp)) fun x hx=>?_;obtain⟨e,d1,b⟩:=x;obtain⟨rfl,g2,g6,rv,ls,A,m,d2,a8,c8,c9,L,R⟩:=hx;simp only at g2 g6 R;have a9:Ak b.h (.AL (st.c+5) 0) 3=some [.AU (st.c+4) 0 2 (some 2),.str [115],rv]:=FI R.gb rfl;have c7:=R.cc;have f:=KA (st:=b) (n:=3) (vs:=[.AU (st.c+4) 0 2 (some 2),.str [115],rv]) R.q (by rw[R.k.lo];omega) rfl rfl;have B:Ak (Ah b.h st.c (.cells 29 3 [.AU (st.c+4) 0 2 (some 2),.str [115],rv] false)) (.AL st.c 0) 3=some [.AU (st.c+4) 0 2 (some 2),.str [115],rv]:=FI (by rw[Ag R.q,AX rfl]) rfl;have K9:=R.k.Ah (p:=st.c) (x:=.cells 29 3 [.AU (st.c+4) 0 2 (some 2),.str [115],rv] false) (Ao _) R.q;have hf:∀p,st.c<p->AA (Ah b.h st.c (.cells 29 3 [.AU (st.c+4) 0 2 (some 2),.str [115],rv] false)) p=AA b.h p:=fun p hp=>by rw[Ag R.q,AJ (by omega)]
   obtain⟨t1,t2,t3⟩:=R.AG6;obtain⟨v,w1,w2⟩:=gL (g:=⟨[[97],[98]],[115],A⟩) (kv:=.AU (st.c+4) 0 2 (some 2)) (rv:=rv) (ls:=ls) K9 rfl J hh (t1.frame hf) (t2.frame hf) (by
    rcases t3 with⟨h,h'⟩|⟨p,cap,ty,ext,rest,h1,h2,h3⟩
    ·exact .inl ⟨h,h'⟩
    ·exact .inr ⟨p,cap,ty,ext,rest,h1,h2,(hf p h2).trans h3⟩)
   simp[g2,g6,a9,f,Al,results,Af,B];refine⟨v,_,3+m,_,w1,rfl,by rw[show a+(3+m)=a+3+m by omega];exact K9.drop,w2,.inl ⟨hfl,N,T,A,a+3+m,b4,a7,L,rfl,by omega⟩,?_,by omega,by omega⟩;have y:∀r∈A,r.Small/\r.right.length<=29:=fun r Y=>(R.ok r Y).small;exact⟨⟨by simp,by simp,by simp,by show A.length<=_;omega,fun r Y=>(y r Y).1,by show 2+A.length<=_;omega⟩,by simp,by show A.length<=11;omega,by show 0<A.length;exact a8 (by omega),fun r Y=>(y r Y).2,by show 2+A.length<=_;omega⟩
  ·have D:(Br zs (a+1) 4==0)=false:=Hy hfl;obtain⟨t,l,K,hk,hd,b9,y⟩:=hK;obtain⟨c5,a5⟩:=VC hd;have u:=Od (k:=k+2) I.st J (by omega) (n:=(l.length:Int)) (by unfold TR;omega);have K3:=I.tick (a+1+1);have q3:AA (Am.tick S o vs (a+1+1)).h st.c=some (.cells 29 3 [.AO,.str [],.AO] false):=by rw[Gp I.Kj (by omega)];exact q2
   have hi:=IG (zs:=zs) (a:=a+1+1) (n:=(l.length:Int)) (by omega);obtain⟨i,P⟩:∃i:Nat,Br zs (a+1+1) (l.length:Int)=i:=⟨(Br zs (a+1+1) (l.length:Int)).toNat,by omega⟩;rw[P]at u;have Z:i<l.length:=by omega
   have Q:K[i]? =some (K[i]'(by omega)):=Bu (by omega);have w:=oD (a5 i Z (by omega));have V:=wN (y _ (BH (show i<K.length by omega)));generalize K[i]'(by omega)=g at w V Q;have z:=w.Ow st.c;obtain⟨kv,rv,rl,F,_⟩:=id w;have a1:AY 3 (.list t 3 l) (.int .i64 (i:Int)) (Am.tick S o vs (a+1+1))=some (.CB [kv,.str g.Ai,rv],Am.tick S o vs (a+1+1)):=by simp[AY,Bg,Z,F,AV.cells]
   have f:=KA (st:=Am.tick S o vs (a+1+1)) (n:=3) (vs:=[kv,.str g.Ai,rv]) q3 (by show (Am.tick S o vs (a+1+1)).lo<=st.c;rw[K3.lo];omega) rfl rfl;have K4:=K3.Ah (p:=st.c) (x:=.cells 29 3 [kv,.str g.Ai,rv] false) (Ao _) q3;have B:Ak ({ Am.tick S o vs (a+1+1)with h:=Ah (Am.tick S o vs (a+1+1)).h st.c (.cells 29 3 [kv,.str g.Ai,rv] false) }:St).h (.AL st.c 0) 3=some [kv,.str g.Ai,rv]:=FI (by show AA (Ah _ _ _) _=_;rw[Ag q3,AX rfl]) rfl;generalize ({ Am.tick S o vs (a+1+1)with h:=Ah (Am.tick S o vs (a+1+1)).h st.c (.cells 29 3 [kv,.str g.Ai,rv] false) }:St)=S4 at *
   have a2:∀h,Ak h (.CB [kv,.str g.Ai,rv]) 3=some [kv,.str g.Ai,rv]:=fun h=>by simp[Ak,ble_eq]
   simp[D,hk,BZ,CV,u,a1,a2,f,Al,results,Af,B];have b5:holds st.c (Kc st.c S4.h)=true:=holds_of fun p x hm=>⟨(LX hm).2,K4.AFU rfl J hh p x (LX hm).1 (LX hm).2⟩;have b1:Ce st.c S4.h Ck (.agg [kv,.str g.Ai,rv])=some (.agg [kv,.str g.Ai,rv]):=by rw[F]at z;exact FH (n:=Ck-1) z
   refine⟨.agg [kv,.str g.Ai,rv],g,1+1,{ S4 with h:=Kc st.c S4.h,c:=st.c },by unfold Kn;simp only[b1,b5,Ba],rfl,by rw[show a+(1+1)=a+1+1 by omega];exact K4.drop,F▸w,.inr ⟨hfl,t,l,K,i,hk,hd,P,Q,rfl⟩,V,by omega,by omega⟩
 obtain⟨r,h1,v,g',m',j,h2,h3,h4⟩:=goal;exact⟨v,g',m',j,by rw[h1];exact h2,h3,h4⟩
end
end Go.Am
