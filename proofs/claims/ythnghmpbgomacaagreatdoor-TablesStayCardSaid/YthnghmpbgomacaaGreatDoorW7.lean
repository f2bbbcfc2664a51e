/- A part of tablesStay. -/
import Derived.Test.YthnghmpbgomacaaGreatDoorW6
set_option maxHeartbeats 4000000
namespace Go.Am
open Go
section
variable {id:Nat}{ext:Bool}{U:List Bz}{rest:List AV}{st0:St}{p:Bz->Bool}
structure Del (id:Nat)(ext:Bool)(U:List Bz)(rest:List AV)(p:Bz->Bool)(st0:St)(i j:Nat)(D:List Bz)(st:St):Prop where
 at_:AA st.h id=some (.cells 9 1 (Bf D++rest) ext)
 len:D.length=U.length
 only:Zb id st0 st
 ij:i<j
 jn:j<=U.length
 front:D.take i=(U.take j).filter fun s=>!p s
 same:∀q,j<=q->D.getD q []=U.getD q []
end
theorem ADN{h:Aa}{c c' lo ty n:Nat}{cs:List AV}(a:HB ⟨h,c,lo⟩):BA c (.cells ty n cs false) ⟨h,c',lo⟩=some ⟨(c,.cells ty n cs false)::h,c',lo⟩:=Bb a
inductive SSl (h:Aa):AV->List Bz->Prop
 |nl:SSl h .AO []
 |ob (id:Nat) (L:List Bz) (h0:L≠[]) (hf:AA h id=some (.cells 9 1 (Bf L) true)):SSl h (.AU id 0 L.length none) L
 |lit (id:Nat) (L:List Bz) (h0:L≠[]) (hf:AA h id=some (.cells 9 1 (Bf L) false)):SSl h (.AU id 0 L.length (some L.length)) L
structure Add (st0:St)(w0:AV)(st:St)(w:AV)(L:List Bz):Prop where
 c:st0.c<=st.c
 lo:st.lo=st0.lo
 hb:HB st
 sl:SSl st.h w L
 own:∀p,Az w=some p->p<st.c/\st.lo<=p/\(Az w0=some p∨st0.c<=p)
 fr:∀p,p<st0.c->Az w0≠some p->AA st.h p=AA st0.h p
structure RdR (h:Aa)(rv:AV)(rs:List Dw):Prop where
 len:CV rv=some rs.length
 at_:∀(j:Nat) (hj:j<rs.length) (st:St),st.h=h->∃p w,AY 3 rv (.int .i64 (j:Int)) st=some (p,st)/\Ak h p 3=some [.str rs[j].left,w,.int .i64 rs[j].level]/\Co w 1 (Bf rs[j].right)
theorem AAp(r:List Bz)(q:Nat)(h:q<r.length):r.getD q []=r[q]:=by simp[List.getD,h]
def BI(l:List Nat):List AV:=l.map fun (n:Nat)=>AV.int .i64 (n:Int)
@[simp] theorem PL(l:List Nat):(BI l).length=l.length:=by simp[BI]
def Lr(x:Bz):List Bz->Nat
 |[]=>0
 |y::l=>if x=y then 0 else Lr x l+1
theorem Ja{x:Bz}:∀{l:List Bz},x∈l->∃h:Lr x l<l.length,l[Lr x l]=x
 |[],h=>by cases h
 |y::l,h=>by
  by_cases e:x=y
  ·simp[Lr,e]
  ·have b:x∈l:=by
    rcases BK.1 h with h|h
    ·exact absurd h e
    ·exact h
   obtain⟨c,a⟩:=Ja b;simp only[Lr,AJ e,FV];exact⟨by omega,by simpa using a⟩
theorem Uo{l:List Bz}(g:l.Nodup){i:Nat}(b:i<l.length):Lr l[i] l=i:=by
 induction l generalizing i with
 |nil=>simp at b
 |cons y l c=>
  obtain⟨f,d⟩:=Js.1 g;cases i with
  |zero=>simp[Lr]
  |succ i=>
   have a:i<l.length:=by simpa using b
   have:l[i]≠y:=fun e=>f (e▸BH a);simp only[List.getElem_cons_succ,Lr,AJ this,c d a]
theorem iT{x:Bz}:∀{K:List Bz},x∈K->Ii (.one .str) (Bf K) (.str x)=some (some (Lr x K))
 |[],h=>by cases h
 |y::K,h=>by
  have a:tu (.one .str) (.str x) (.str y)=some (x==y):=rfl;show Ii (.one .str) (.str y::Bf K) (.str x)=_;by_cases e:x=y
  ·subst e;simp[Ii,a,Lr]
  ·have b:x∈K:=by
    rcases BK.1 h with h|h
    ·exact absurd h e
    ·exact h
   simp[Ii,a,Hy e,iT b,Lr,e]
def Ac.AB(g:Ac):List Bz:=g.Ae++g.Km
def Ac.ix(g:Ac)(s:Bz):Nat:=Lr s g.AB
theorem Ac.Rv{g:Ac}(h:g.Ok):g.AB.Nodup:=by unfold Ac.AB;rw[Mx];exact⟨h.up.nodup,g.Xr.nodup,fun a d b c e=>h.apart a d (e▸c)⟩
theorem Ac.Qt(g:Ac):g.Km.length<=g.AP.length:=by
 unfold Ac.Km;rw[←Fz (f:=fun r:Dw=>r.left)];generalize g.AP.map (fun r=>r.left)=L;induction L with
 |nil=>simp[Qi]
 |cons x L a=>
  show (Vi x (Qi L)).length<=L.length+1;have:∀M:List Bz,(Vi x M).length<=M.length+1:=by
   intro M;induction M with
   |nil=>simp[Vi]
   |cons y M a=>unfold Vi;split<;>simp_all<;>split<;>simp_all
  have:=this (Qi L);omega
theorem Ac.JP{g:Ac}(a:g.Small):g.AB.length<=22:=by unfold Ac.AB;rw[Bd];have:=a.Ae;have:=a.many;have:=g.Qt;omega
theorem Ac.NF{g:Ac}(h:g.Ok){r:Dw}(b:r∈g.AP){s:Bz}(a:s∈r.right):s∈g.AB:=Ca.2 (h.syms r b s a)
theorem Ac.Yl{g:Ac}{r:Dw}(a:r∈g.AP):r.left∈g.Km:=by rw[Ac.Mj];unfold Ac.isLeft;simp only[QS,IJ];exact⟨r,a,rfl⟩
theorem Ac.Iu{g:Ac}{r:Dw}(a:r∈g.AP):r.left∈g.AB:=Ca.2 (.inr (Ac.Yl a))
def MS(h:Aa)(o:Nat)(K:List Bz):Prop:=∃bs clock,AA h o=some (.map (Bf K) (BI (List.range K.length)) bs clock)
theorem MS.frame{h a:Aa}{o:Nat}{K:List Bz}(H:MS h o K)(e:AA a o=AA h o):MS a o K:=by obtain⟨c,clock,b⟩:=H;exact⟨c,clock,e.trans b⟩
theorem MS.look{st:St}{o:Nat}{K:List Bz}(H:MS st.h o K){x:Bz}(a:x∈K):FT (.one .str) (.int .i64 0) false (.Cq o) (.str x) st=some (.int .i64 (Lr x K:Nat),st):=by obtain⟨d,clock,b⟩:=H;obtain⟨c,_⟩:=Ja a;simp[FT,b,LA,Nj,iT a,MJ,BI,c]
theorem MS.put{st:St}{o:Nat}{K:List Bz}(H:MS st.h o K)(d:st.lo<=o){x:Bz}(i:x∉K) :
 ∃ob,FL (.one .str) (.Cq o) (.str x) (.int .i64 (K.length:Nat)) st=some (.undef,{ st with h:=Ah st.h o ob })/\MS (Ah st.h o ob) o (K++[x])/\∀p,p≠o->AA (Ah st.h o ob) p=AA st.h p:=by
 obtain⟨c,clock,a⟩:=H;have g:Nat.blt o st.lo=false:=by rw[blt_eq];simp;omega
 rcases Qu x K with⟨f,_⟩|⟨_,e⟩
 ·exact absurd f i
 ·refine⟨_,by simp only[FL,g,Nj,a,e,Lf,OH,Bj];rfl,⟨c++[clock],clock+1,?_⟩,fun p b=>by rw[Ag a,AJ (Aj b)]⟩;rw[Ag a,AX rfl];simp[Bf,BI,Lh]
theorem jA{o:Nat}{y:BJ}:∀{h:Aa},(∀p x,(p,x)∈h->p≠o)->∃b,Qw h o y=some b/\(∀p,AA b p=if o=p then some y else AA h p)/\∀p x,(p,x)∈b->(p=o/\x=y)∨(p,x)∈h
 |[],_=>⟨[(o,y)],rfl,fun p=>by rw[AZ],fun p x h=>by simp at h;exact .inl h⟩
 |(i,z)::h,d=>by
  have c:i≠o:=d i z (by simp);unfold Qw;by_cases Bi:i<o
  ·refine⟨(o,y)::(i,z)::h,by simp[blt_eq,Bi],fun p=>by rw[AZ],fun p x a=>?_⟩;rcases BK.1 a with e|a
   ·cases e;exact .inl ⟨rfl,rfl⟩
   ·exact .inr a
  ·obtain⟨b,g,f,j⟩:=jA (y:=y) (h:=h) fun p x a=>d p x (Cu _ a);refine⟨(i,z)::b,by simp[blt_eq,Bi,beq_eq,c,g],fun p=>?_,fun p x a=>?_⟩
   ·rw[AZ,f,AZ];by_cases e:i=p
    ·subst e;simp[Aj c]
    ·simp[e]
   ·rcases BK.1 a with e|a
    ·cases e;exact .inr (by simp)
    ·rcases j p x a with h|h
     ·exact .inl h
     ·exact .inr (Cu _ h)
theorem Qq{h:Aa}{c lo o:Nat}{y:BJ}(j:∀p x,(p,x)∈h->p≠o)(i:HB ⟨h,c,lo⟩)(f:o<c):∃a,BA o y ⟨h,c,lo⟩=some ⟨a,c,lo⟩/\(∀p,AA a p=if o=p then some y else AA h p)/\HB ⟨a,c,lo⟩/\∀p x,(p,x)∈a->p=o∨(p,x)∈h:=by
 obtain⟨a,k,g,d⟩:=jA (y:=y) j;refine⟨a,by simp[BA,k],g,fun p x b=>?_,fun p x b=>(d p x b).imp (·.1) id⟩;rcases d p x b with⟨e,_⟩|h
 ·rw[e];exact f
 ·exact i p x h
theorem AFO{h:Aa}{c lo o:Nat}{w:AV}{L d:List Bz}{t:Bool}(F:HB ⟨h,c,lo⟩)(P:∀p x,(p,x)∈h->p≠o)(J:o<c)(H:Lp h 9 1 w (Bf L))(Q:∀p,Az w=some p->lo<=p/\p≠o)(j:d≠[])(T:L.length+d.length<=1000) :
 ∃f,Bq o 9 1 16 w (.list t 1 (Bf d)) ⟨h,c,lo⟩=some (.AU o 0 (L.length+d.length) none,⟨f,c,lo⟩)/\HB ⟨f,c,lo⟩/\AA f o=some (.cells 9 1 (Bf (L++d)) true)/\(∀p,p≠o->Az w≠some p->AA f p=AA h p)/\∀p x,(p,x)∈f->p=o∨(p,x)∈h:=by
 have n:d.length≠0:=fun e=>j (Gn e);have m:∀h:Aa,BS h 1 d.length (.list t 1 (Bf d))=some (Bf d):=fun h=>by have:List.take d.length (Bf d)=Bf d:=Gx (by simp);simp[BS,ble_eq,this,Mc]
 have b:(L.length+d.length)*16<=room/\L.length+d.length<=room:=by unfold room;constructor<;>omega
 have g:lenOf (.list t 1 (Bf d))=some d.length:=by simp[lenOf]
 have v:Bf L++Bf d=Bf (L++d):=by simp[Bf]
 generalize k:Bf L=xs at H;cases H with
 |nl=>
  have I:L=[]:=by cases L with|nil=>rfl|cons a l=>simp[Bf]at k
  subst I;obtain⟨f,A,i,r,u⟩:=Qq (y:=.cells 9 1 (Bf d) true) P F J;refine⟨f,?_,r,by rw[i,AX rfl];rfl,fun p z _=>by rw[i,AJ (Aj z)],u⟩;simp only[GY,Dz]at b⊢;simp[Bq,g,m,CX,beq_eq,n,grow,ble_eq,b.1,b.2,A]
 |mt q ext D=>
  have I:L=[]:=by cases L with|nil=>rfl|cons a l=>simp[Bf]at k
  subst I;obtain⟨f,A,i,r,u⟩:=Qq (y:=.cells 9 1 (Bf d) true) P F J;refine⟨f,?_,r,by rw[i,AX rfl];rfl,fun p z _=>by rw[i,AJ (Aj z)],u⟩;simp only[GY,Dz]at b⊢;simp[Bq,g,m,CX,beq_eq,n,GG,D,grow,ble_eq,b.1,b.2,A]
 |ob q _ U V D=>
  subst k;rw[Mc]at D;have s:=Q q rfl;have O:∀p x,(p,x)∈Jv h q->p≠o:=fun p x B=>P p x (Oh B);have K:HB ⟨Jv h q,c,lo⟩:=fun p x B=>F p x (Oh B);obtain⟨f,A,i,r,u⟩:=Qq (y:=.cells 9 1 (Bf (L++d)) true) O K J;refine⟨f,?_,r,by rw[i,AX rfl],fun p z j=>?_,fun p x B=>(u p x B).imp id Oh⟩
  ·have N:(Bf L).take L.length=Bf L:=Gx (by simp);have S:decide (L.length+d.length<=L.length)=false:=FP (by omega);have R:Nat.ble lo q=true:=Dv s.1;simp[Bq,g,m,CX,beq_eq,n,GG,D,ble_eq,S,s.1,grow,b.1,b.2,N,v,A]
  ·have:q≠p:=fun e=>j (by rw[e];rfl);rw[i,AJ (Aj z),Gz,AJ this]
structure NA (gs:List AV)(g:Ac)(K:List Bz)(st:St):Prop where
 hb:HB st
 lo:st.lo=0
 c:3<st.c
 g0:AA st.h 0=some (.cells 29 3 gs false)
 n1:AA st.h 1=some (.cells 9 1 (Bf g.AB) true)
 m2:MS st.h 2 K
 o3:AA st.h 3=some (.cells 141 6 [.AU 1 0 g.AB.length none,.int .i64 (g.Ae.length:Nat),.int .i64 0,.AO,.AO,.Cq 2] false)
theorem sW{n:Nat}{g:Ac}{s:List AV}(D:g.Small)(v:g.AB.Nodup)(f:St)(H:NA s g [] f)(a:TS)(o:a.get 1=.AL 0 0)(p:a.get 3=.AL 3 0)(l:a.get 26=.AU 1 0 g.AB.length none)(b:a.get 27=.int .i64 (g.AB.length:Int))(d:a.get 28=.int .i64 ((0:Nat):Int)) :
 (Dm (Bc E (Ab E n) C.f61L0) E.k a f).to fun x=>x.1=.exit 0/\x.2.1.get 1=.AL 0 0/\x.2.1.get 3=.AL 3 0/\NA s g g.AB x.2.2:=by
 have w:=Ac.JP D;refine Cy (fun (i:Nat) m f=>i<=g.AB.length/\m.get 1=.AL 0 0/\m.get 3=.AL 3 0/\m.get 26=.AU 1 0 g.AB.length none/\m.get 27=.int .i64 (g.AB.length:Int)/\m.get 28=.int .i64 (i:Int)/\NA s g (g.AB.take i) f)
  (fun i=>g.AB.length-i) ?_ _ 0 _ _ ?_ ?_
 ·rintro i m f ⟨I,o,p,l,b,d,H⟩;by_cases Bi:i<g.AB.length
  ·have A:AQ f.h (.AL 1 i)=some (.str g.AB[i]):=by rw[AR H.n1,strs_get? _ _ Bi,AAp _ _ Bi]
   have B:AQ f.h (.AL 3 5)=some (.Cq 2):=by rw[AR H.o3];rfl
   have r:g.AB[i]∉g.AB.take i:=fun h=>by obtain⟨j,F,e⟩:=Du h;rw[Gv]at F;rw[List.getElem_take]at e;have o:=Uo v (i:=j) (by omega);have z:=Uo v Bi;rw[e,z]at o;omega
   obtain⟨ob,t,u,q⟩:=H.m2.put (by rw[H.lo];omega) r;have y:(g.AB.take i).length=i:=by rw[Gv];omega
   rw[y]at t;rw[←Gy Bi]at u;simp[C.f61L0,o,p,l,b,d,Bi,PZ H.n1 Bi,A,B,t,wi i];exact⟨i+1,by omega,by omega,by simp,H.hb.Ah,H.lo,H.c,(q 0 (by omega)).trans H.g0,(q 1 (by omega)).trans H.n1,u,(q 3 (by omega)).trans H.o3⟩
  ·have:i=g.AB.length:=by omega
   subst this;rw[FQ]at H;simp[C.f61L0,o,p,b,d,H]
 ·exact FX (by show g.AB.length-0<1000000;omega)
 ·exact⟨by omega,o,p,l,b,d,by simpa using H⟩
theorem sZ{k:Nat}{n u:AV}{g:Ac}{l:List AV}(hk:Co n 1 (Bf g.Ae))(hG:GD (.agg [n,.str g.Ai,u]) g)(hs:g.Small)(h0:0<g.AP.length)(ts:TS)(h1:ts.get 1=.AL 0 0)(h2:ts.get 2=.DY)(st:St)(H:st=⟨[(0,.cells 29 3 [n,.str g.Ai,u] false)],1,0⟩)(a0:g.Ok) :
 (Bc E (Ab E (k+6)) (C.D 3 [(0,C.f 11 0 1,[]),(1,C.l 12 11,[]),(3,C.o 14 (.load (some 3)) [C.t 1],[2]),(6,C.f 17 0 1,[]),(7,C.l 18 17,[2,4,5]),(8,C.o 19 (.len .slice) [C.t 18],[]),(9,C.o 20 (.mkMap 1) [],[]),(2,C.o 13 (.call 38) [C.t 12],[]),(4,C.o 15 (.call 111) [C.t 14],[]),(5,C.o 16 (.append 0 9 1 16) [C.t 13,C.t 15],[]),(10,C.o 21 (.build [.AO,.int .i64 0,.int .i64 0,.AO,.AO,.IZ] [(0,1),(1,1),(5,1)]) [C.t 16,C.t 19,C.t 20],[]),(11,C.o 22 (.box 2 141 6) [C.t 21],[]),(12,C.m 3 22,[])]) ts st).to
  fun x=>x.1=.normal/\x.2.1.get 1=.AL 0 0/\x.2.1.get 3=.AL 3 0/\NA [n,.str g.Ai,u] g [] x.2.2:=by
 have a6:=hs.Ae;have a7:=hs.many;have b0:=g.Qt;obtain⟨j,z⟩:∃h:Aa,h=[(0,BJ.cells 29 3 [n,.str g.Ai,u] false)]:=⟨_,rfl⟩;rw[←z]at H;subst H;have Y:AA j 0=some (.cells 29 3 [n,.str g.Ai,u] false):=by rw[z,AZ,AX rfl]
 have d:∀p x,(p,x)∈j->p=0:=fun p x a=>by rw[z]at a;simp at a;exact a.1
 have b1:HB ⟨j,1,0⟩:=fun p x a=>by rw[d p x a];exact QP
 have rk:AQ j (.AL 0 0)=some n:=by rw[AR Y];rfl
 have rg:Ak j (.AL 0 0) 3=some [n,.str g.Ai,u]:=FI Y rfl;have Z:∀S:St,BZ .slice n S=some (.int .i64 (g.Ae.length:Int),S):=fun S=>by have:=hk.len (st:=S);simpa using this
 obtain⟨b,r⟩:∃h:Aa,h=(2,BJ.map [] [] [] 0)::j:=⟨_,rfl⟩;have n2:BA 2 (.map [] [] [] 0) ⟨j,4,0⟩=some ⟨b,4,0⟩:=by rw[r];exact Bb fun p x a=>by rw[d p x a];omega
 have i:∀p x,(p,x)∈b->p=2∨p=0:=fun p x a=>by
  rw[r]at a;rcases BK.1 a with e|e
  ·cases e;exact .inl rfl
  ·exact .inr (d p x e)
 have a3:HB ⟨b,4,0⟩:=fun p x a=>by show p<4;rcases i p x a with e|e<;>omega
 have I:AA b 0=some (.cells 29 3 [n,.str g.Ai,u] false):=by rw[r,AZ,AJ (by omega)];exact Y
 have K:AA b 2=some (.map [] [] [] 0):=by rw[r,AZ,AX rfl]
 obtain⟨w,⟨F,R,V⟩,c1,c2,a5,A⟩:=UC (k:=k+5) (st:=⟨b,4,0⟩) (by omega) hk a3;have a9:4<=R:=A.c;have J:V=0:=A.lo;subst J;have v:∀p,p<4->AA F p=AA b p:=A.CY;have O:=(v 0 (by omega)).trans I;have a8:=(v 2 (by omega)).trans K;have a4:AQ F (.AL 0 0)=some n:=by rw[AR O];rfl
 have T:Ak F (.AL 0 0) 3=some [n,.str g.Ai,u]:=FI O rfl;obtain⟨wl,d1,d2⟩:=Zx (k:=k) (st:=⟨F,R,0⟩) hG hs h0;have q:g.Km≠[]:=fun e=>by have:=a0.Ai;rw[e]at this;cases this
 rcases d2.out with⟨_,e⟩|⟨t,rfl⟩
 ·exfalso;apply q;simpa [Bf]using e
 have s:∀p,Az w=some p->4<=p:=fun p a=>(a5 p a).1;have U:∀p x,(p,x)∈F->p≠1:=fun p x a e=>by subst e;rcases i 1 x (A.mem 1 x a (by show 1<4;omega))with e|e<;>omega
 obtain⟨h4,e1,e2,e3,e4,e5⟩:=AFO (t:=t) (c:=R) (lo:=0) (o:=1) A.hb U (by omega) c2 (fun p a=>⟨CZ _,by have:=s p a;omega⟩) q (by omega);have N:∀p,p<4->p≠1->AA h4 p=AA b p:=fun p a q=>(e4 p q fun e=>by have:=s p e;omega).trans (v p a);have B:=(N 0 (by omega) (by omega)).trans I;have W:AQ h4 (.AL 0 0)=some n:=by rw[AR B];rfl
 have a2:∀p x,(p,x)∈h4->p≠3:=fun p x a e=>by
  subst e;rcases e5 3 x a with h|h
  ·omega
  ·rcases i 3 x (A.mem 3 x h (by show 3<4;omega))with e|e<;>omega
 have a1:g.Ae.length+g.Km.length=g.AB.length:=by unfold Ac.AB;simp
 rw[a1]at e1;have L:Ls 3 141 6 (.agg [.AU 1 0 g.AB.length none,.int .i64 (g.Ae.length:Int),.int .i64 0,.AO,.AO,.Cq 2])=some (.AL 3 0,.cells 141 6 [.AU 1 0 g.AB.length none,.int .i64 (g.Ae.length:Int),.int .i64 0,.AO,.AO,.Cq 2] false):=rfl;obtain⟨Q,p1,P,p3,p4⟩:=Qq (y:=.cells 141 6 [.AU 1 0 g.AB.length none,.int .i64 (g.Ae.length:Int),.int .i64 0,.AO,.AO,.Cq 2] false) a2 e2 (by omega);simp[h1,KJ,Cc,Ci,DK,beq_eq,AV.DU,rk,rg,Z,n2,c1,a4,T,d1,e1,W,Bp,Bl,AV.isTuple,AV.cells,ble_eq,L,p1];refine⟨p3,rfl,by show 3<R;omega,?_,?_,⟨[],0,?_⟩,?_⟩
 ·show AA Q 0=_;rw[P,AJ (by omega)];exact B
 ·show AA Q 1=_;rw[P,AJ (by omega)];exact e3
 ·show AA Q 2=_;rw[P,AJ (by omega),N 2 (by omega) (by omega)];exact K
 ·show AA Q 3=_;rw[P,AX rfl]
theorem oW(l:List Nat):∀x∈BI l,x.cells.length=1:=fun x a=>by simp only[BI,BP]at a;obtain⟨n,_,rfl⟩:=a;rfl
theorem VE(l:List Nat):(BI l).flatMap AV.cells=BI l:=by
 induction l with
 |nil=>rfl
 |cons n l a=>show AV.cells (.int .i64 (n:Int))++(BI l).flatMap AV.cells=_;rw[a];rfl
theorem uD(l:List Nat)(n:Nat):BI l++[.int .i64 (n:Int)]=BI (l++[n]):=by simp[BI]
theorem Qv{l:List Nat}:BI l=[]↔l=[]:=by cases l<;>simp[BI]
theorem Lp.ACd{h:Aa}{id:Nat}{l:List Nat}(b:l≠[])(a:AA h id=some (.cells 3 1 (BI l) true)):Lp h 3 1 (.AU id 0 l.length none) (BI l):=by have:=Lp.ob (h:=h) (ty:=3) (sz:=1) id (BI l) (fun e=>b (Qv.1 e)) (oW l) (by rw[VE];exact a);rwa [PL]at this
theorem AGA(c:Nat)(n:Int):BC c 3 1 1 [.int .i64 0] [0] [.int .i64 n]=some (.AU c 0 1 (some 1),.cells 3 1 [.int .i64 n] false):=by simp[BC,blt_eq,ble_eq,Bp,Bl,AV.isTuple,AV.cells]
theorem ABm{h:Aa}{c:Nat}{w:AV}{l:List Nat}(n:Nat)(e:HB ⟨h,c,0⟩)(H:Lp h 3 1 w (BI l))(f:∀p,Az w=some p->p<c)(j:l.length<=1000) :
 BA c (.cells 3 1 [.int .i64 (n:Int)] false) ⟨h,c+2,0⟩=some ⟨(c,.cells 3 1 [.int .i64 (n:Int)] false)::h,c+2,0⟩ /\
 ∃a,Bq (c+1) 3 1 8 w (.AU c 0 1 (some 1)) ⟨(c,.cells 3 1 [.int .i64 (n:Int)] false)::h,c+2,0⟩=some (.AU (c+1) 0 (l.length+1) none,⟨a,c+2,0⟩)/\HB ⟨a,c+2,0⟩/\Lp a 3 1 (.AU (c+1) 0 (l.length+1) none) (BI (l++[n]))/\∀p,p<c->Az w≠some p->AA a p=AA h p:=by
 refine⟨Bb e,?_⟩;obtain⟨a,d,k,b,i⟩:=wR (bytes:=8) (x:=.int .i64 (n:Int)) e H (fun p g=>⟨CZ _,f p g⟩) (by omega) (by omega) (by simpa using j) rfl;rw[PL]at d;rw[uD,VE]at b;refine⟨a,d,k,?_,i⟩;have:=Lp.ACd (by simp) b;rwa [Bd]at this
structure NB (g:Ac)(h:Aa):Prop where
 m2:MS h 2 g.AB
 o3:∃a b c d e,AA h 3=some (.cells 141 6 [a,b,c,d,e,.Cq 2] false)
theorem NB.frame{g:Ac}{h f:Aa}(H:NB g h)(k:AA f 2=AA h 2)(j:AA f 3=AA h 3):NB g f:=
 ⟨H.m2.frame k,by obtain⟨a,b,c,d,e,i⟩:=H.o3;exact⟨a,b,c,d,e,j.trans i⟩⟩
structure NX (xb:Nat)(a lv:AV)(st0:St)(l:List Nat)(w:AV)(st:St):Prop where
 hb:HB st
 lo:st.lo=0
 fr:∀p,p<xb->AA st.h p=AA st0.h p
 x:AA st.h xb=some (.cells 218 3 [a,w,lv] false)
 xc:xb<st.c
 sl:Lp st.h 3 1 w (BI l)
 own:∀p,Az w=some p->xb<p/\p<st.c
theorem sU{n xb:Nat}{g:Ac}{r:Dw}{S a lv:AV}(a0:∀s∈r.right,s∈g.AB)(a4:r.right.length<=30)(e2:Co S 1 (Bf r.right))(a3:3<xb)(d:St)(B:NB g d.h)(H:NX xb a lv d [] .AO d)(V W U I A z:AV)(b:TS)(N:b.get 1=V)(L:b.get 2=W)(P:b.get 3=.AL 3 0)(O:b.get 6=U)(Q:b.get 8=.AL xb 0)(t:b.get 50=I)(q:b.get 51=A)(m:b.get 52=z)(D:b.get 68=S)(y:b.get 69=.int .i64 (r.right.length:Int))(l:b.get 70=.int .i64 ((0:Nat):Int)) :
 (Dm (Bc E (Ab E n) C.f61L2) E.k b d).to fun x=>x.1=.exit 4/\x.2.1.get 1=V/\x.2.1.get 2=W/\x.2.1.get 3=.AL 3 0/\x.2.1.get 6=U/\x.2.1.get 8=.AL xb 0/\x.2.1.get 50=I/\x.2.1.get 51=A/\x.2.1.get 52=z/\∃w,NX xb a lv d (r.right.map g.ix) w x.2.2:=by
 refine Cy (fun (i:Nat) f st=>i<=r.right.length/\f.get 1=V/\f.get 2=W/\f.get 3=.AL 3 0/\f.get 6=U/\f.get 8=.AL xb 0/\f.get 50=I/\f.get 51=A/\f.get 52=z/\f.get 68=S/\f.get 69=.int .i64 (r.right.length:Int)/\f.get 70=.int .i64 (i:Int)/\∃w,NX xb a lv d ((r.right.map g.ix).take i) w st)
  (fun i=>r.right.length-i) ?_ _ 0 _ _ ?_ ?_
 ·rintro i f st ⟨hi,N,L,P,O,Q,t,q,m,D,y,l,w,X⟩;by_cases Bi:i<r.right.length
  ·obtain⟨h,c,lo⟩:=st;have Y:lo=0:=X.lo;subst Y;have a5:xb<c:=X.xc;have j:∀p,Az w=some p->xb<p/\p<c:=X.own;have hx:=e2.WB (st:=⟨h,c+2,0⟩) Bi;have Z:=e2.WB (st:=⟨h,c,0⟩) Bi;have B':NB g h:=B.frame (X.fr 2 (by omega)) (X.fr 3 (by omega));obtain⟨o1,o2,o3,o4,o5,hO⟩:=B'.o3;have rm:AQ h (.AL 3 5)=some (.Cq 2):=by rw[AR hO];rfl
   have rx:AQ h (.AL xb 1)=some w:=by rw[AR X.x];rfl
   have F:=MS.look (st:=⟨h,c+2,0⟩) B'.m2 (a0 _ (BH Bi));obtain⟨n1,J,p1,p2,R,p4⟩:=ABm (Lr r.right[i] g.AB) X.hb X.sl (fun p K=>(j p K).2) (by simp;omega);have hl:((r.right.map g.ix).take i).length=i:=by simp;omega
   rw[hl]at p1 R;have u:AA J xb=some (.cells 218 3 [a,w,lv] false):=(p4 xb (by omega) fun e=>by have:=j xb e;omega).trans X.x;have s1:=DZ (st:=⟨J,c+2,0⟩) (off:=1) (v:=.AU (c+1) 0 (i+1) none) u (by show 0<=xb;omega) (by simp) rfl rfl;simp only[Jg,Jh]at s1;simp[C.f61L2,N,L,P,O,Q,t,q,m,D,y,l,Bi,Z,rm,rx,F,AGA,n1,p1,s1,wi i];have T:(r.right.map g.ix).take i++[Lr r.right[i] g.AB]=(r.right.map g.ix).take (i+1):=by rw[Gy (by simpa using Bi),List.getElem_map];rfl
   rw[T]at R;refine⟨i+1,by omega,by omega,by simp,.AU (c+1) 0 (i+1) none,HB.Ah (st:=⟨J,c+2,0⟩) p2,rfl,fun p K=>?_,?_,by show xb<c+2;omega,R.heap fun o ho=>?_,fun p K=>?_⟩
   ·show AA (Ah J xb _) p=_;rw[Ag u,AJ (by omega),p4 p (by omega) fun e=>by have:=j p e;omega];exact X.fr p K
   ·show AA (Ah J xb _) xb=_;rw[Ag u,AX rfl]
   ·simp only[Az,Ct]at ho;rw[Ag u,AJ (by omega)]
   ·simp only[Az,Ct]at K;show xb<p/\p<c+2;omega
  ·have:i=r.right.length:=by omega
   subst this;rw[Gx (by simp)]at X;simp[C.f61L2,N,L,P,O,Q,t,q,m,y,l];exact⟨w,X⟩
 ·exact FX (by show r.right.length-0<1000000;omega)
 ·exact⟨by omega,N,L,P,O,Q,t,q,m,D,y,l,.AO,by simpa using H⟩
def Px(g:Ac)(i s:Nat):List Nat:=(List.range i).filter fun j=>g.ix (g.AP.getD j default).left==s
theorem sN(g:Ac)(i s:Nat):Px g (i+1) s=Px g i s++(if g.ix (g.AP.getD i default).left=s then [i] else []):=by
 unfold Px;rw[Lh,List.filter_append];by_cases h:g.ix (g.AP.getD i default).left=s
 ·rw[AX h];congr 1;rw[List.filter_cons_of_pos (by simpa using h),List.filter_nil]
 ·rw[AJ h];congr 1;rw[List.filter_cons_of_neg (by simpa using h),List.filter_nil]
theorem gQ(g:Ac)(i s:Nat):(Px g i s).length<=i:=by unfold Px;have:=List.length_filter_le (fun j=>g.ix (g.AP.getD j default).left==s) (List.range i);simpa using this
structure NS (gs:List AV)(g:Ac)(f:Nat)(R:Nat->Nat)(i:Nat)(rv:AV)(rl ol:List AV)(st:St):Prop where
 hb:HB st
 lo:st.lo=0
 f3:3<f
 fc:f<st.c
 R3:∀p,p<=3->R p=p
 Rf:R f=4
 g0:AA st.h 0=some (.cells 29 3 gs false)
 n1:AA st.h 1=some (.cells 9 1 (Bf g.AB) true)
 m2:MS st.h 2 g.AB
 o3:AA st.h 3=some (.cells 141 6 [.AU 1 0 g.AB.length none,.int .i64 (g.Ae.length:Nat),.int .i64 0,rv,.AU f 0 g.AB.length (some g.AB.length),.Cq 2] false)
 f4:AA st.h f=some (.cells 22 1 ol false)
 ru:Lp st.h 218 3 rv rl
 Dc:∀p,Az rv=some p->p<st.c/\R p=5
 wM:rl.length=i
 rr:∀j (hj:j<i) (hj2:j<g.AP.length),∃w,rl[j]? =some (.agg [.int .i64 (g.ix g.AP[j].left:Nat),w,.int .i64 g.AP[j].level])/\Lp st.h 3 1 w (BI (g.AP[j].right.map g.ix))/\∀p,Az w=some p->p<st.c/\R p=10+2*j
 oln:ol.length=g.AB.length
 of_:∀s,s<g.AB.length->∃w,ol[s]? =some w/\Lp st.h 3 1 w (BI (Px g i s))/\∀p,Az w=some p->p<st.c/\R p=11+2*s
theorem wz{n f i:Nat}{kv N Q:AV}{g:Ac}{l rl ol:List AV}{R:Nat->Nat}(hr:Co N 3 l)(d5:Gg l g.AP)(hs:g.Small)(f8:g.Ok)(st:St)(H:NS [kv,.str g.Ai,N] g f R i Q rl ol st)(a4:i<g.AP.length)(ts:TS)(a2:AV)(z1:ts.get 1=.AL 0 0)(z2:ts.get 2=a2)(z3:ts.get 3=.AL 3 0)(e7:ts.get 50=N)(d6:ts.get 51=.int .i64 (g.AP.length:Int))(e4:ts.get 52=.int .i64 (i:Int)) :
 (Bc E (Ab E n) C.f61L1 ts st).to fun x=>x.1=.normal/\x.2.1.get 1=.AL 0 0/\x.2.1.get 2=a2/\x.2.1.get 3=.AL 3 0/\x.2.1.get 50=N/\x.2.1.get 51=.int .i64 (g.AP.length:Int)/\x.2.1.get 52=.int .i64 ((i+1:Nat):Int)/\∃R' j5 i1 a5,NS [kv,.str g.Ai,N] g f R' (i+1) j5 i1 a5 x.2.2:=by
 have k2:=d5.length;have j2:=hs.many;have k4:=Ac.JP hs;have i6:i<l.length:=by omega
 obtain⟨w1,e1,e2⟩:=(d5.get i a4).2;have J:=BH a4;have f7:=hs.AP _ J;have h0:=f7.right;obtain⟨h,c,lo⟩:=st;have g4:lo=0:=H.lo;subst g4;have j7:∀p x,(p,x)∈h->p<c:=H.hb;have j4:=H.f3;have d9:f<c:=H.fc;obtain⟨rc,O⟩:∃rc:List AV,rc=[.str g.AP[i].left,w1,.int .i64 g.AP[i].level]:=⟨_,rfl⟩;obtain⟨y,Z⟩:∃y:Aa,y=(c,BJ.cells 63 3 rc false)::h:=⟨_,rfl⟩;have f1:HB ⟨y,c+1,0⟩:=Z▸HB.cons (h:=h) (c:=c) (lo:=0) H.hb (by omega) (by omega);have c0:∀p,p<c->AA y p=AA h p:=fun p d=>by rw[Z,Dt d]
 have c6:AY 3 N (.int .i64 (i:Int)) ⟨h,c+1,0⟩=some (.CB l[i].cells,⟨h,c+1,0⟩):=hr.idx i6;have a0:l[i].cells=rc:=by rw[e1,O];rfl
 rw[a0]at c6;have hn:BA c (.cells 63 3 [.str [],.AO,.int .i64 0] false) ⟨h,c+1,0⟩=some ⟨(c,.cells 63 3 [.str [],.AO,.int .i64 0] false)::h,c+1,0⟩:=Bb j7;have c9:=Ic (h:=h) (c:=c) (c':=c+1) (lo:=0) (ty:=63) (n:=3) (zs:=[.str [],.AO,.int .i64 0]) (vs:=rc) (by omega) (by rw[O];rfl) rfl;rw[←Z]at c9;have e0:Ak h (.CB rc) 3=some rc:=by rw[O];rfl
 have fc:AA y c=some (.cells 63 3 rc false):=by rw[Z,AZ,AX rfl]
 have f6:AQ y (.AL c 0)=some (.str g.AP[i].left):=by rw[AR fc,O];rfl
 have g5:AQ y (.AL c 2)=some (.int .i64 g.AP[i].level):=by rw[AR fc,O];rfl
 have h9:AQ y (.AL 3 5)=some (.Cq 2):=by rw[AR ((c0 3 (by omega)).trans H.o3)];rfl
 have Y:=MS.look (st:=⟨y,c+1+1,0⟩) (H.m2.frame (c0 2 (by omega))) (Ac.Iu J);obtain⟨m,b5⟩:∃s,s=Lr g.AP[i].left g.AB:=⟨_,rfl⟩;have a7:m<g.AB.length:=by rw[b5];exact (Ja (Ac.Iu J)).1
 rw[←b5]at Y;have k1:BA (c+1) (.cells 218 3 [.int .i64 0,.AO,.int .i64 0] false) ⟨y,c+1+1,0⟩=some ⟨(c+1,.cells 218 3 [.int .i64 0,.AO,.int .i64 0] false)::y,c+1+1,0⟩:=Bb f1;have b0:=Ic (h:=y) (c:=c+1) (c':=c+1+1) (lo:=0) (ty:=218) (n:=3) (zs:=[.int .i64 0,.AO,.int .i64 0]) (vs:=[.int .i64 (m:Int),.AO,.int .i64 g.AP[i].level]) (by omega) rfl rfl;obtain⟨u,V⟩:∃u:Aa,u=(c+1,BJ.cells 218 3 [.int .i64 (m:Int),.AO,.int .i64 g.AP[i].level] false)::y:=⟨_,rfl⟩;rw[←V]at b0;have h8:HB ⟨u,c+1+1,0⟩:=V▸HB.cons (h:=y) (c:=c+1) (lo:=0) f1 (by omega) (by omega);have b8:∀p,p<c->AA u p=AA h p:=fun p d=>by rw[V,Dt (by omega),c0 p d]
 have j1:AA u c=some (.cells 63 3 rc false):=by rw[V,Dt (by omega)];exact fc
 have j8:AQ u (.AL c 1)=some w1:=by rw[AR j1,O];rfl
 have f9:BZ .slice w1 ⟨u,c+1+1,0⟩=some (.int .i64 (g.AP[i].right.length:Int),⟨u,c+1+1,0⟩):=by have:=e2.len (st:=⟨u,c+1+1,0⟩);simpa using this
 have B0:NB g u:=⟨H.m2.frame (b8 2 (by omega)),⟨_,_,_,_,_,(b8 3 (by omega)).trans H.o3⟩⟩;have X0:NX (c+1) (.int .i64 (m:Int)) (.int .i64 g.AP[i].level) ⟨u,c+1+1,0⟩ [] .AO ⟨u,c+1+1,0⟩:=⟨h8,rfl,fun _ _=>rfl,by show AA u (c+1)=_;rw[V,AZ,AX rfl],by show c+1<c+1+1;omega,.nl,fun p d=>by cases d⟩;have loop:=sU (n:=n) (r:=g.AP[i]) (xb:=c+1) (a:=.int .i64 (m:Int)) (lv:=.int .i64 g.AP[i].level) (fun s hs=>Ac.NF f8 J hs) h0 e2 (by omega) ⟨u,c+1+1,0⟩ B0 X0 (.AL 0 0) a2;simp[C.f61L1,z3,e7,d6,e4,a4,c6,-Cw,e0,hn,c9,h9,f6,Y,g5,Bp,Bl,AV.isTuple,AV.cells,beq_eq,ble_eq,k1,b0,j8,f9];refine M.BG (loop _ _ _ _ _ (by simp[z1]) (by simp[z2]) (by simp[z3]) (by simp;rfl) (by simp) (by simp[e7];rfl) (by simp[d6];rfl) (by simp[e4];rfl) (by simp) (by simp) (by simp)) fun x hx=>?_;obtain⟨e,k5,g9⟩:=x;obtain⟨ee,g1,g2,g3,g6,g8,d4,d0,d7,w,X⟩:=hx;simp only at ee g1 g2 g3 g6 g8 d4 d0 d7 X;subst ee;obtain⟨W,b,i9⟩:=g9;have e6:i9=0:=X.lo;subst e6;have i8:c+1<b:=X.xc;have F3:∀p,p<c->AA W p=AA h p:=fun p d=>(X.fr p (by omega)).trans (b8 p d);have a9:∀p,Az w=some p->c+1<p/\p<b:=X.own;have e9:Ak W (.AL (c+1) 0) 3=some [.int .i64 (m:Int),w,.int .i64 g.AP[i].level]:=FI X.x rfl;have f5:AQ W (.AL 3 3)=some Q:=by rw[AR ((F3 3 (by omega)).trans H.o3)];rfl
 have k:∀p,Az Q=some p->p<c/\R p=5:=H.Dc;obtain⟨P,B⟩:∃P:List AV,P=[.int .i64 (m:Int),w,.int .i64 g.AP[i].level]:=⟨_,rfl⟩;rw[←B]at e9;have i3:w.isTuple=false/\w.cells=[w]:=X.sl.one;have f2:BC b 218 3 1 [.int .i64 0,.AO,.int .i64 0] [0] [.agg P]=some (.AU b 0 1 (some 1),.cells 218 3 P false):=by rw[B];simp[BC,blt_eq,ble_eq,Bp,Bl,AV.isTuple,AV.cells]
 have j6:BA b (.cells 218 3 P false) ⟨W,b+2,0⟩=some ⟨(b,.cells 218 3 P false)::W,b+2,0⟩:=Bb X.hb;have M3:Lp W 218 3 Q rl:=H.ru.heap fun o A=>F3 o (k o A).1;obtain⟨h4,p1,p2,p3,p4⟩:=wR (bytes:=40) (x:=.agg P) X.hb M3 (fun p d=>⟨CZ _,by have:=(k p d).1;omega⟩) (by omega) (by omega) (by rw[H.wM];omega) (by rw[B];rfl);have i2:Bq (b+1) 218 3 40 Q (.AU b 0 1 (some 1)) ⟨(b,.cells 218 3 P false)::W,b+2,0⟩=some (.AU (b+1) 0 (i+1) none,⟨h4,b+2,0⟩):=by have:=p1;rw[H.wM]at this;exact this
 have a6:∀p,p<=3->Az Q≠some p:=fun p d e=>by have y:=(k p e).2;have u:=H.R3 p d;omega
 have j9:Az Q≠some f:=fun e=>by have y:=(k f e).2;have u:=H.Rf;omega
 have a8:AA h4 3=_:=(p4 3 (by omega) (a6 3 (by omega))).trans ((F3 3 (by omega)).trans H.o3);have s4:=DZ (st:=⟨h4,b+2,0⟩) (off:=3) (v:=.AU (b+1) 0 (i+1) none) a8 (by show 0<=3;omega) (by simp) rfl rfl;simp only[Jg,Jh]at s4;obtain⟨d8,K⟩:∃ob,ob=BJ.cells 141 6 [.AU 1 0 g.AB.length none,.int .i64 (g.Ae.length:Nat),.int .i64 0,.AU (b+1) 0 (i+1) none,.AU f 0 g.AB.length (some g.AB.length),.Cq 2] false:=⟨_,rfl⟩;rw[←K]at s4;obtain⟨L,T⟩:∃L:Aa,L=Ah h4 3 d8:=⟨_,rfl⟩;rw[←T]at s4;have F5:∀p,p<b->p≠3->Az Q≠some p->AA L p=AA W p:=fun p d W c7=>by rw[T,Ag a8,AJ (Aj W)];exact p4 p d c7
 have i4:HB ⟨L,b+2,0⟩:=T▸HB.Ah (st:=⟨h4,b+2,0⟩) p2;have b7:AA L 3=some d8:=by rw[T,Ag a8,AX rfl]
 obtain⟨z,q1,q2,q3⟩:=H.of_ m a7;have q:∀p,Az z=some p->p<c/\R p=11+2*m:=q3;have d3:∀p,Az z=some p->Az Q≠some p:=fun p y u=>by have:=(q p y).2;have:=(k p u).2;omega
 have t:∀p,p<=3->Az z≠some p:=fun p d e=>by have y:=(q p e).2;have u:=H.R3 p d;omega
 have c8:Az z≠some f:=fun e=>by have y:=(q f e).2;have u:=H.Rf;omega
 have c5:AA L f=some (.cells 22 1 ol false):=(F5 f (by omega) (by omega) j9).trans ((F3 f d9).trans H.f4);have x5:AA L (c+1)=some (.cells 218 3 P false):=by rw[B];exact (F5 (c+1) i8 (by omega) fun e=>by have:=(k _ e).1;omega).trans X.x
 have j3:AQ L (.AL 3 4)=some (.AU f 0 g.AB.length (some g.AB.length)):=by rw[AR (b7.trans (by rw[K]))];rfl
 have k0:AQ L (.AL (c+1) 0)=some (.int .i64 (m:Int)):=by rw[AR x5,B];rfl
 have rf:AQ L (.AL f m)=some z:=by rw[AR c5];exact q1
 have i0:=PZ (st:=⟨L,b+2+2,0⟩) (n:=g.AB.length) (cap:=some g.AB.length) c5 a7;have M5:Lp L 3 1 z (BI (Px g i m)):=q2.heap fun o A=>(F5 o (by have:=(q o A).1;omega) (fun e=>t 3 (by omega) (e▸A)) (d3 o A)).trans (F3 o (q o A).1);have k3:=gQ g i m;obtain⟨n5,h6,t1,t2,t3,t4⟩:=ABm i i4 M5 (fun p d=>by have:=(q p d).1;omega) (by omega);have e5:AQ h6 (.AL 3 4)=some (.AU f 0 g.AB.length (some g.AB.length)):=by rw[AR ((t4 3 (by omega) (t 3 (by omega))).trans (b7.trans (by rw[K])))];rfl
 have d2:AQ h6 (.AL (c+1) 0)=some (.int .i64 (m:Int)):=by rw[AR ((t4 (c+1) (by omega) fun e=>by have:=(q _ e).1;omega).trans x5),B];rfl
 have F:AA h6 f=some (.cells 22 1 ol false):=(t4 f (by omega) c8).trans c5;have e8:=PZ (st:=⟨h6,b+2+2,0⟩) (n:=g.AB.length) (cap:=some g.AB.length) F a7;have s6:=DZ (st:=⟨h6,b+2+2,0⟩) (off:=m) (v:=.AU (b+2+1) 0 ((Px g i m).length+1) none) F (by show 0<=f;omega) (by rw[H.oln];exact a7) rfl rfl;simp[g1,g2,g3,g6,g8,d4,d0,d7,KJ,MQ,Cc,Ci,DK,beq_eq,AV.DU,f5,e9,f2,j6,i2,s4,j3,k0,rf,i0,AGA,n5,t1,e5,d2,e8,s6,wi i];obtain⟨a5,I⟩:∃o,o=ol.set m (.AU (b+2+1) 0 ((Px g i m).length+1) none):=⟨_,rfl⟩;rw[←I];obtain⟨h7,D⟩:∃h7:Aa,h7=Ah h6 f (.cells 22 1 a5 false):=⟨_,rfl⟩;rw[←D];have F7:∀p,p<b->p≠3->p≠f->Az Q≠some p->Az z≠some p->AA h7 p=AA W p:=fun p d e3 ef er eo=>by rw[D,Ag F,AJ (Aj ef),t4 p (by omega) eo];exact F5 p d e3 er
 have S:∀p,p<c->p≠3->p≠f->Az Q≠some p->Az z≠some p->AA h7 p=AA h p:=fun p d e3 ef er eo=>(F7 p (by omega) e3 ef er eo).trans (F3 p d);have f0:∀p ρ,p<c->R p=ρ->5<ρ->ρ≠11+2*m->p≠3/\p≠f/\Az Q≠some p/\Az z≠some p:=fun p ρ d hR L c7=>by
  refine⟨fun e=>?_,fun e=>?_,fun e=>?_,fun e=>?_⟩
  ·subst e;have:=H.R3 3 (by omega);omega
  ·subst e;have:=H.Rf;omega
  ·have:=(k p e).2;omega
  ·have:=(q p e).2;omega
 have g7:g.AP.getD i default=g.AP[i]:=by simp[List.getD,a4]
 have b3:g.ix g.AP[i].left=m:=by rw[b5];rfl
 refine⟨fun p=>if p<c then R p else if p=b+1 then 5 else if p=b+2+1 then 11+2*m else 10+2*i,.AU (b+1) 0 (i+1) none,rl++[.agg P],a5,
  ⟨by rw[D];exact HB.Ah (st:=⟨h6,b+2+2,0⟩) t2,rfl,j4,by show f<b+2+2;omega,fun p d=>by rw[AX (by omega)];exact H.R3 p d,by rw[AX d9];exact H.Rf,?_,?_,?_,?_,?_,?_,?_,?_,?_,?_,?_⟩⟩
 ·exact (S 0 (by omega) (by omega) (by omega) (a6 0 (by omega)) (t 0 (by omega))).trans H.g0
 ·exact (S 1 (by omega) (by omega) (by omega) (a6 1 (by omega)) (t 1 (by omega))).trans H.n1
 ·exact H.m2.frame (S 2 (by omega) (by omega) (by omega) (a6 2 (by omega)) (t 2 (by omega)))
 ·show AA h7 3=_;rw[D,Ag F,AJ (by omega),t4 3 (by omega) (t 3 (by omega)),b7,K]
 ·show AA h7 f=_;rw[D,Ag F,AX rfl]
 ·have j0:Lp h4 218 3 (.AU (b+1) 0 (i+1) none) (rl++[.agg P]):=by
   have d1:∀x∈rl++[AV.agg P],x.cells.length=3:=fun x hx=>by
    rcases Ca.1 hx with h|h
    ·obtain⟨j,hj,rfl⟩:=Du h;have i5:j<i:=by rw[←H.wM];exact hj
     obtain⟨w',e',_⟩:=H.rr j i5 (by omega);rw[Bu hj,Ct]at e';rw[e'];rfl
    ·simp only[Di]at h;subst h;rw[B];rfl
   have:=Lp.ob (h:=h4) (ty:=218) (sz:=3) (b+1) (rl++[.agg P]) (by simp) d1 p3;rw[Bd,H.wM]at this;exact this
  refine j0.heap fun o A=>?_;simp only[Az,Ct]at A;subst A;show AA h7 (b+1)=AA h4 (b+1);rw[D,Ag F,AJ (by omega),t4 (b+1) (by omega) (fun e=>by have:=(q _ e).1;omega),T,Ag a8,AJ (by omega)]
 ·intro p d;simp only[Az,Ct]at d;subst d;exact⟨by show b+1<b+2+2;omega,by rw[AJ (by omega),AX rfl]⟩
 ·rw[Bd,H.wM];rfl
 ·intro j hj i7;by_cases e:j=i
  ·subst e;refine⟨w,?_,?_,fun p d=>?_⟩
   ·rw[NV (by rw[H.wM];omega),H.wM,Nat.sub_self,B,b3];rfl
   ·refine X.sl.heap fun o A=>?_;have:=a9 o A;exact F7 o this.2 (by omega) (by omega) (fun e=>by have:=(k o e).1;omega) (fun e=>by have:=(q o e).1;omega)
   ·have:=a9 p d;exact⟨by show p<b+2+2;omega,by rw[AJ (by omega),AJ (by omega),AJ (by omega)]⟩
  ·obtain⟨w',a1,b4,a3⟩:=H.rr j (by omega) i7;refine⟨w',?_,b4.heap fun o A=>?_,fun p d=>?_⟩
   ·rw[Oo (by rw[H.wM];omega)];exact a1
   ·obtain⟨b1,b2⟩:=a3 o A;obtain⟨c1,c2,b6,c4⟩:=f0 o _ b1 b2 (by omega) (by omega);exact S o b1 c1 c2 b6 c4
   ·obtain⟨b1,b2⟩:=a3 p d;have b9:p<c:=b1;exact⟨by show p<b+2+2;omega,by rw[AX b9];exact b2⟩
 ·rw[I,IU];exact H.oln
 ·intro s hs;have U:=sN g i s;rw[g7,b3]at U;by_cases e:s=m
  ·subst e;rw[AX rfl]at U;refine⟨.AU (b+2+1) 0 ((Px g i s).length+1) none,?_,?_,fun p d=>?_⟩
   ·rw[I,List.getElem?_set_self (by rw[H.oln];exact hs)]
   ·rw[U];refine t3.heap fun o A=>?_;simp only[Az,Ct]at A;subst A;show AA h7 (b+2+1)=_;rw[D,Ag F,AJ (by omega)]
   ·simp only[Az,Ct]at d;subst d;exact⟨by show b+2+1<b+2+2;omega,by rw[AJ (by omega),AJ (by omega),AX rfl]⟩
  ·rw[AJ (fun h=>e h.symm),Fh]at U;obtain⟨w',a1,b4,a3⟩:=H.of_ s hs;refine⟨w',?_,?_,fun p d=>?_⟩
   ·rw[I,List.getElem?_set_ne (fun h=>e h.symm)];exact a1
   ·rw[U];refine b4.heap fun o A=>?_;obtain⟨b1,b2⟩:=a3 o A;obtain⟨c1,c2,b6,c4⟩:=f0 o _ b1 b2 (by omega) (by omega);exact S o b1 c1 c2 b6 c4
   ·obtain⟨b1,b2⟩:=a3 p d;have b9:p<c:=b1;exact⟨by show p<b+2+2;omega,by rw[AX b9];exact b2⟩
theorem Lv{c:Nat}:∀{l:List AV},(∀x∈l,x.CY c=true)->AV.Dq c l=true
 |[],_=>rfl
 |x::l,h=>by simp[AV.Dq,h x (by simp),Lv fun y a=>h y (Cu _ a)]
theorem Pw(c:Nat)(l:List Nat):AV.Dq c (BI l)=true:=Lv fun x a=>by simp only[BI,BP]at a;obtain⟨n,_,rfl⟩:=a;rfl
theorem Co.wh{v:AV}{l:List Nat}(h:Co v 1 (BI l))(c:Nat):v.CY c=true:=by
 rcases h.out with⟨rfl,_⟩|⟨t,rfl⟩
 ·rfl
 ·exact Pw c _
structure Gu (v:AV)(g:Ac):Prop where
 out:∃nv rv ov lr lo,v=.CB [nv,.int .i64 (g.Ae.length:Nat),.int .i64 (g.ix g.Ai:Nat),rv,ov,.CR (Bf g.AB) (BI (List.range g.AB.length))]/\Co nv 1 (Bf g.AB) /\
  Co rv 3 lr/\lr.length=g.AP.length/\(∀j (hj:j<g.AP.length),∃w,lr[j]? =some (.agg [.int .i64 (g.ix g.AP[j].left:Nat),w,.int .i64 g.AP[j].level])/\Co w 1 (BI (g.AP[j].right.map g.ix))) /\
  Co ov 1 lo/\lo.length=g.AB.length/\∀s,s<g.AB.length->∃w,lo[s]? =some w/\Co w 1 (BI (Px g g.AP.length s))
theorem Gu.Ow{v:AV}{g:Ac}(H:Gu v g)(c:Nat):v.CY c=true:=by
 obtain⟨r,p,i,y,z,rfl,m,h,s,l,o,u,n⟩:=H.out;have q:=m.Ow c;have k:p.CY c=true:=by
  rcases h.out with⟨rfl,_⟩|⟨t,rfl⟩
  ·rfl
  ·refine Lv fun x b=>?_;obtain⟨j,d,rfl⟩:=Du b;obtain⟨w,e,a⟩:=l j (by omega);rw[Bu d,Ct]at e;rw[e];simp[AV.CY,AV.Dq,a.wh c]
 have f:i.CY c=true:=by
  rcases o.out with⟨rfl,_⟩|⟨t,rfl⟩
  ·rfl
  ·refine Lv fun x b=>?_;obtain⟨j,d,rfl⟩:=Du b;obtain⟨w,e,a⟩:=n j (by omega);rw[Bu d,Ct]at e;rw[e];exact a.wh c
 simp[AV.CY,AV.Dq,q,k,f,LW,Pw]
theorem Vd{f:AV->Option AV}{T:AV->AV}:∀{l:List AV},(∀x∈l,f x=some (T x))->DD f l=some (l.map T)
 |[],_=>rfl
 |x::l,h=>by simp[DD,h x (by simp),Vd fun y a=>h y (Cu _ a)]
theorem ABk{T:AV->AV}:∀{rl:List AV},(∀x∈rl,∃a b d,x=.agg [a,b,d])->rows 3 rl.length ((rl.flatMap AV.cells).map T)=rl.map fun x=>.agg (x.cells.map T)
 |[],_=>rfl
 |x::rl,h=>by obtain⟨a,b,d,rfl⟩:=h x (by simp);have c:=ABk (T:=T) (rl:=rl) fun y e=>h y (Cu _ e);simp[rows,AV.cells,beq_eq,Cn]at c⊢;exact c
theorem Lp.AFF{h:Aa}{w:AV}{l:List Nat}(H:Lp h 3 1 w (BI l))(n:Nat):∃d,Ce 0 h (n+2) w=some d/\Co d 1 (BI l):=by
 generalize c:BI l=xs at H;cases H with
 |nl=>exact⟨.AO,FH rfl,⟨.inl ⟨rfl,rfl⟩⟩⟩
 |mt id ext a=>have b:DD (Ce 0 h (n+1)) ((([]:List AV).drop 0).take (0*1))=some []:=rfl;exact⟨_,Gh (CZ _) a (by omega) (by simp) b,⟨.inr ⟨_,rfl⟩⟩⟩
 |ob id _ e f a=>
  subst c;rw[VE]at a;have b:DD (Ce 0 h (n+1)) (((BI l).drop 0).take ((BI l).length*1))=some (BI l):=by rw[FB,Fe,FQ];exact Hu (Pw 0 l)
  refine⟨_,Gh (CZ _) a (by omega) (by omega) b,⟨.inr ⟨false,?_⟩⟩⟩;rw[Jw]
theorem Iq(v:AV):∀n,FZ [v] n=List.replicate n v
 |0=>rfl
 |n+1=>by rw[FZ,Iq v n];rfl
theorem YK{call:Nat->List AV->St->M (AV×St)}{a b:BD}{c:TS}{st:St}{Q R:KN×TS×St->Prop}(g:(Bc E call a c st).to Q)(j:∀x,Q x->x.1=.normal/\(Bc E call b x.2.1 x.2.2).to R):(Bc E call (.seq a b) c st).to R:=by rw[TI];refine M.BG g fun x k=>?_;obtain⟨e,h,i⟩:=x;obtain⟨f,d⟩:=j _ k;simp only at f d;subst f;exact d
section
variable {k:Nat}{g:Ac}{kv rv0:AV}{l:List AV}
theorem sV{n:Nat}(U:Co rv0 3 l)(z:Gg l g.AP)(O:g.Small)(F:g.Ok)(f:Nat)(P:Nat->Nat)(m:AV)(t p:List AV)(r:St)(H:NS [kv,.str g.Ai,rv0] g f P 0 m t p r)(I:AV)(a:TS)(w:a.get 1=.AL 0 0)(A:a.get 2=I)(y:a.get 3=.AL 3 0)(h:a.get 50=rv0)(c:a.get 51=.int .i64 (g.AP.length:Int))(b:a.get 52=.int .i64 ((0:Nat):Int)) :
 (Dm (Bc E (Ab E n) C.f61L1) E.k a r).to fun x=>x.1=.exit 2/\x.2.1.get 1=.AL 0 0/\x.2.1.get 3=.AL 3 0/\∃R o u v,NS [kv,.str g.Ai,rv0] g f R g.AP.length o u v x.2.2:=by
 have B:=O.many;refine Cy (fun (i:Nat) d D=>i<=g.AP.length/\d.get 1=.AL 0 0/\d.get 2=I/\d.get 3=.AL 3 0/\d.get 50=rv0/\d.get 51=.int .i64 (g.AP.length:Int)/\d.get 52=.int .i64 (i:Int)/\∃R o u v,NS [kv,.str g.Ai,rv0] g f R i o u v D)
  (fun i=>g.AP.length-i) ?_ _ 0 _ _ ?_ ?_
 ·rintro i d D ⟨W,w,A,y,h,c,b,R,o,u,v,X⟩;by_cases Bi:i<g.AP.length
  ·refine M.XX (wz (n:=n) U z O F D X Bi d I w A y h c b) fun x V=>?_;obtain⟨e,T,S⟩:=x;obtain⟨Q,N,L,K,j,q,s,J⟩:=V;simp only at Q N L K j q s J;subst Q;exact⟨i+1,by omega,by omega,N,L,K,j,q,s,J⟩
  ·have:i=g.AP.length:=by omega
   subst this;simp[C.f61L1,w,y,c,b];exact⟨R,o,u,v,X⟩
 ·exact FX (by show g.AP.length-0<1000000;omega)
 ·exact⟨by omega,w,A,y,h,c,b,P,m,t,p,H⟩
theorem wE(hg:GD (.agg [kv,.str g.Ai,rv0]) g)(u:g.Small)(m:g.Ok) :
 (Bc E (Ab E (k+6)) C.f61.body (TS.FK [.agg [kv,.str g.Ai,rv0]] 0 .nil) ⟨[],0,0⟩).to fun x=>x.1=.ret/\x.2.1.get 2=.AL 3 0/\∃f R D Z U o3,NS [kv,.str g.Ai,rv0] g f R g.AP.length D Z U ⟨o3,x.2.2.c,0⟩ /\
  x.2.2.h=Ah o3 3 (.cells 141 6 [.AU 1 0 g.AB.length none,.int .i64 (g.Ae.length:Nat),.int .i64 (g.ix g.Ai:Nat),D,.AU f 0 g.AB.length (some g.AB.length),.Cq 2] false):=by
 have h0:=Ac.gX m;have a5:=hg;obtain⟨b7,b6,l,e,hk,hr,W⟩:=a5;cases e;have a0:=W.length;have a2:=u.many;have b8:=Ac.JP u;have a6:Ls 0 29 3 (.agg [kv,.str g.Ai,rv0])=some (.AL 0 0,.cells 29 3 [kv,.str g.Ai,rv0] false):=rfl;have n1:=ADN (c':=1) (lo:=0) (ty:=29) (n:=3) (cs:=[kv,.str g.Ai,rv0]) HB.nil;refine YK (Q:=fun x=>x.1=.normal/\x.2.1.get 1=.AL 0 0/\x.2.1.get 2=.DY/\x.2.2=⟨[(0,.cells 29 3 [kv,.str g.Ai,rv0] false)],1,0⟩) (by simp[a6,n1]) fun x d=>?_;obtain⟨e,b5,b1⟩:=x;obtain⟨b,a,z2,e2⟩:=d;simp only at b a z2 e2;refine⟨b,?_⟩;refine YK (sZ (l:=l) (k:=k) hk hg u h0 b5 a z2 b1 e2 m) fun x d=>?_;obtain⟨e,b9,b2⟩:=x;obtain⟨b,a,i,A⟩:=d;simp only at b a i A;refine⟨b,?_⟩;have V:∀{K:List Bz} {S:St},NA [kv,.str g.Ai,rv0] g K S->AQ S.h (.AL 3 0)=some (.AU 1 0 g.AB.length none):=fun A=>by rw[AR A.o3];rfl
 refine YK (Q:=fun x=>x.1=.normal/\x.2.1.get 1=.AL 0 0/\x.2.1.get 3=.AL 3 0/\NA [kv,.str g.Ai,rv0] g g.AB x.2.2) ?_ fun x d=>?_
 ·simp[i,V A,BZ,CV];refine M.BG (sW u (Ac.Rv m) b2 A _ (by simp[a]) (by simp[i]) (by simp) (by simp) (by simp)) fun x d=>?_;obtain⟨e,a7,L⟩:=x;obtain⟨O,Y,g3,A'⟩:=d;simp only at O Y g3 A';subst O;simp[Y,g3,A']
 obtain⟨e,a7,L⟩:=x;obtain⟨b,a,i,A⟩:=d;simp only at b a i A;refine⟨b,?_⟩;refine YK (Q:=fun x=>x.1=.normal/\x.2.1.get 1=.AL 0 0/\x.2.1.get 3=.AL 3 0/\∃f R,NS [kv,.str g.Ai,rv0] g f R 0 .AO [] (List.replicate g.AB.length .AO) x.2.2) ?_ fun x d=>?_
 ·obtain⟨h,c,lo⟩:=L;have t:lo=0:=A.lo;subst t;have T:3<c:=A.c;have o:g.AB.length*24<=room/\g.AB.length<=room:=by unfold room;constructor<;>omega
  have a8:Dy c 22 1 24 [.AO] (.int .i64 (g.AB.length:Int)) (.int .i64 (g.AB.length:Int))=some (.AU c 0 g.AB.length (some g.AB.length),.cells 22 1 (List.replicate g.AB.length .AO) false):=by simp[Dy,Bg,ble_eq,blt_eq,o.1,o.2,Iq]
  have hn:BA c (.cells 22 1 (List.replicate g.AB.length .AO) false) ⟨h,c+1,0⟩=some ⟨(c,.cells 22 1 (List.replicate g.AB.length .AO) false)::h,c+1,0⟩:=Bb A.hb;have P:∀p,p<c->AA ((c,BJ.cells 22 1 (List.replicate g.AB.length .AO) false)::h) p=AA h p:=fun p r=>Dt r;have q:=(P 3 T).trans A.o3;have H:=DZ (st:=⟨(c,.cells 22 1 (List.replicate g.AB.length .AO) false)::h,c+1,0⟩) (off:=4) (v:=.AU c 0 g.AB.length (some g.AB.length)) q (by show 0<=3;omega) (by simp) rfl rfl;simp only[Jg,Jh]at H;obtain⟨w,z⟩:∃w:Aa,w=(c,BJ.cells 22 1 (List.replicate g.AB.length .AO) false)::h:=⟨_,rfl⟩;rw[←z]at hn P q H;have a9:HB ⟨w,c+1,0⟩:=z▸HB.cons (h:=h) (c:=c) (lo:=0) A.hb (by omega) (by omega);simp[a,i,V A,BZ,CV,a8,hn,H];have F:∀{y:BJ} p,p≠3->AA (Ah w 3 y) p=AA w p:=fun {y} p r=>by rw[Ag q,AJ (Aj r)]
  refine⟨c,fun p=>if p=c then 4 else p,HB.Ah (st:=⟨w,c+1,0⟩) a9,rfl,T,by show c<c+1;omega,fun p r=>by rw[AJ (by omega)],by rw[AX rfl],?_,?_,?_,?_,?_,.nl,(fun p r=>by cases r),rfl,fun j hj=>absurd hj (by omega),by simp,fun s u=>⟨.AO,by simp[u],.nl,fun p r=>by cases r⟩⟩
  ·exact (F 0 (by omega)).trans ((P 0 (by omega)).trans A.g0)
  ·exact (F 1 (by omega)).trans ((P 1 (by omega)).trans A.n1)
  ·exact A.m2.frame ((F 2 (by omega)).trans (P 2 (by omega)))
  ·show AA (Ah w 3 _) 3=_;rw[Ag q,AX rfl]
  ·refine (F c (by omega)).trans ?_;rw[z,AZ,AX rfl]
 obtain⟨e,b3,J⟩:=x;obtain⟨b,a,i,f,R0,N⟩:=d;simp only at b a i N;refine⟨b,?_⟩;refine YK (Q:=fun x=>x.1=.normal/\x.2.1.get 1=.AL 0 0/\x.2.1.get 3=.AL 3 0/\∃R D Z U,NS [kv,.str g.Ai,rv0] g f R g.AP.length D Z U x.2.2) ?_ fun x d=>?_
 ·have a3:AQ J.h (.AL 0 2)=some rv0:=by rw[AR N.g0];rfl
  have a4:∀S':St,BZ .slice rv0 S'=some (.int .i64 (g.AP.length:Int),S'):=fun S'=>by have:=hr.len (st:=S');rw[this,a0]
  simp[a,a3,a4];refine M.BG (sV (n:=k+6) hr W u m f R0 _ _ _ J N (b3.get 2) _ (by simp[a]) (by simp) (by simp[i]) (by simp) (by simp) (by simp)) fun x d=>?_;obtain⟨e,a1,I⟩:=x;obtain⟨O,Y,g3,N'⟩:=d;simp only at O Y g3 N';subst O;simp[Y,g3,N']
 obtain⟨e,a1,I⟩:=x;obtain⟨b,a,i,R,D,Z,U,N⟩:=d;simp only at b a i N;refine⟨b,?_⟩;obtain⟨h,c,lo⟩:=I;have t:lo=0:=N.lo;subst t;have b0:AQ h (.AL 3 5)=some (.Cq 2):=by rw[AR N.o3];rfl
 have b4:AQ h (.AL 0 1)=some (.str g.Ai):=by rw[AR N.g0];rfl
 have B:=MS.look (st:=⟨h,c,0⟩) N.m2 (show g.Ai∈g.AB from Ca.2 (.inr m.Ai));have H:=DZ (st:=⟨h,c,0⟩) (off:=2) (v:=.int .i64 (Lr g.Ai g.AB:Nat)) N.o3 (by show 0<=3;omega) (by simp) rfl rfl;simp only[Jg,Jh]at H;simp[a,i,b0,b4,B,H];exact⟨f,R,D,Z,U,h,N,rfl⟩
end
theorem AAP{k:Nat}{v:AV}{g:Ac}{st:St}(hg:GD v g)(hs:g.Small)(O:g.Ok):∃w,Ab E (k+7) 61 [v] st=.ret (w,st)/\Gu w g:=by
 have W:=hg.Ow 0;have h0:=Ac.gX O;have a4:=hg;obtain⟨kv,b6,l,rfl,hk,hr,b7⟩:=a4;have b8:=Ac.JP hs;rw[GH (fn:=C.f61) rfl rfl rfl (by simp[AV.Dq,W]),Ap (by simp)];obtain⟨⟨e,ts,a5⟩,b1,b2,b3,f,R,rv,I,u,o3,N,b4⟩:=wE (k:=k) hg hs O;simp only at b2 b3 b4 N;subst b2;rw[b1];have V:C.f61.results=[.tmp 2]:=rfl;obtain⟨h,c,lo⟩:=a5;simp only at b4 N;have U:=N.o3;have h3:AA h 3=some (.cells 141 6 [.AU 1 0 g.AB.length none,.int .i64 (g.Ae.length:Nat),.int .i64 (g.ix g.Ai:Nat),rv,.AU f 0 g.AB.length (some g.AB.length),.Cq 2] false):=by rw[b4,Ag U,AX rfl]
 have F:∀p,p≠3->AA h p=AA o3 p:=fun p q=>by rw[b4,Ag U,AJ (Aj q)]
 have b5:=N.f3;obtain⟨T,hT⟩:∃T:AV->AV,T=fun x=>(Ce 0 h 62 x).getD .undef:=⟨_,rfl⟩;have i:∀x,x.CY 0=true->Ce 0 h 62 x=some (T x)/\T x=x:=fun x t=>by have:=FH (n:=61) (h:=h) t;rw[hT];simp only[this];exact⟨rfl,rfl⟩
 have B:∀w (L:List Nat),Lp o3 3 1 w (BI L)->(∀p,Az w=some p->p≠3)->Ce 0 h 62 w=some (T w)/\Co (T w) 1 (BI L):=fun w L A q=>by obtain⟨w',e1,e2⟩:=(A.heap (h':=h) fun o D=>F o (q o D)).AFF 60;rw[hT];simp only[e1];exact⟨rfl,e2⟩
 have tn:Ce 0 h 63 (.AU 1 0 g.AB.length none)=some (.list false 1 (Bf g.AB)):=by
  have J:DD (Ce 0 h 62) (((Bf g.AB).drop 0).take (g.AB.length*1))=some (Bf g.AB):=by rw[FB,Fe,Gx (by simp)];exact Hu (LW 0 _)
  rw[Gh (CZ _) ((F 1 (by omega)).trans N.n1) (by omega) (by simp) J];have:rows 1 g.AB.length (Bf g.AB)=Bf g.AB:=by have:=Jw (Bf g.AB);rwa [Gb]at this
  rw[this]
 obtain⟨bs,clock,hm⟩:=N.m2;have tm:Ce 0 h 63 (.Cq 2)=some (.CR (Bf g.AB) (BI (List.range g.AB.length))):=by
  have D:AV.CY 0 (.Cq 2)=false:=by simp[AV.CY,blt_eq]
  have a2:=(F 2 (by omega)).trans hm;have hk:DD (Ce 0 h 62) (Bf g.AB)=some (Bf g.AB):=Hu (n:=61) (LW _ _);have hv:DD (Ce 0 h 62) (BI (List.range g.AB.length))=some (BI (List.range g.AB.length)):=Hu (n:=61) (Pw _ _);unfold Ce;rw[D];simp only[Bj,a2,hk,hv]
 have K:∀p,Az rv=some p->p≠3:=fun p q e=>by subst e;have:=(N.Dc 3 q).2;have:=N.R3 3 (by omega);omega
 have Q:∀x∈I,∃a b d,x=.agg [a,b,d]/\∀y∈[a,b,d],Ce 0 h 62 y=some (T y):=fun x t=>by
  obtain⟨j,P,rfl⟩:=Du t;have Y:j<g.AP.length:=by rw[←N.wM];exact P
  obtain⟨w,e,A,q⟩:=N.rr j Y Y;rw[Bu P,Ct]at e;refine⟨_,_,_,e,fun y Z=>?_⟩;simp only[BK,Ju,Jp]at Z;rcases Z with rfl|rfl|rfl
  ·exact (i _ rfl).1
  ·exact (B _ _ A fun p m H=>by subst H;have:=(q 3 m).2;have:=N.R3 3 (by omega);omega).1
  ·exact (i _ rfl).1
 have tr:∃r,Ce 0 h 63 rv=some r/\Co r 3 (I.map fun x=>.agg (x.cells.map T)):=by
  have S:=N.wM;have M:=N.ru.heap (h':=h) fun o D=>F o (K o D);cases M with
  |nl=>simp at S;omega
  |mt=>simp at S;omega
  |ob id _ b0 hc hf=>
   have a0:=CP hc;have J:DD (Ce 0 h 62) (((I.flatMap AV.cells).drop 0).take (I.length*3))=some ((I.flatMap AV.cells).map T):=by rw[FB,Gx (by omega)];refine Vd fun y Z=>?_;obtain⟨x,t,a7⟩:=Ka.1 Z;obtain⟨a,b,d,rfl,h4⟩:=Q x t;exact h4 y a7
   refine⟨_,Gh (CZ _) hf (by omega) (by omega) J,⟨.inr ⟨false,?_⟩⟩⟩;rw[ABk fun x t=>by obtain⟨a,b,d,e,_⟩:=Q x t;exact⟨a,b,d,e⟩]
 obtain⟨r,a1,a6⟩:=tr;have a8:∀x∈u,Ce 0 h 62 x=some (T x):=fun x t=>by obtain⟨s,z,rfl⟩:=Du t;obtain⟨w,e,A,q⟩:=N.of_ s (by rw[←N.oln];exact z);rw[Bu z,Ct]at e;rw[e];exact (B _ _ A fun p m H=>by subst H;have:=(q 3 m).2;have:=N.R3 3 (by omega);omega).1
 have tf:Ce 0 h 63 (.AU f 0 g.AB.length (some g.AB.length))=some (.list true 1 (u.map T)):=by
  have a3:=N.oln;have J:DD (Ce 0 h 62) ((u.drop 0).take (g.AB.length*1))=some (u.map T):=by rw[FB,Fe,Gx (by omega)];exact Vd a8
  rw[Gh (CZ _) ((F f (by omega)).trans N.f4) (by omega) (by omega) J];have:rows 1 g.AB.length (u.map T)=u.map T:=by have:=Jw (u.map T);rwa [Fz,a3]at this
  simp[this]
 have a9:Ce 0 h 64 (.AL 3 0)=some (.CB [.list false 1 (Bf g.AB),.int .i64 (g.Ae.length:Nat),.int .i64 (g.ix g.Ai:Nat),r,.list true 1 (u.map T),.CR (Bf g.AB) (BI (List.range g.AB.length))]):=by
  have D:AV.CY 0 (.AL 3 0)=false:=by simp[AV.CY,blt_eq]
  have ti:∀n:Int,Ce 0 h 63 (.int .i64 n)=some (.int .i64 n):=fun n=>FH (n:=62) rfl;unfold Ce;rw[D];simp only[Bj,h3,ble_eq,FB,DD,tn,tm,ti,a1,tf];simp
 refine⟨_,?_,⟨_,r,_,I.map fun x=>.agg (x.cells.map T),u.map T,rfl,⟨.inr ⟨false,rfl⟩⟩,a6,by rw[Fz];exact N.wM,fun j P=>?_,⟨.inr ⟨true,rfl⟩⟩,by rw[Fz];exact N.oln,fun s z=>?_⟩⟩
 ·simp only[M.JZ,V,Al,results,Af,rY,b3,BU,Ck,a9]
 ·obtain⟨w,e,A,q⟩:=N.rr j P P;have:=B _ _ A fun p m H=>by subst H;have:=(q 3 m).2;have:=N.R3 3 (by omega);omega
  refine⟨T w,?_,this.2⟩;rw[Gl,e];simp[AV.cells,(i (.int .i64 (g.ix g.AP[j].left:Nat)) rfl).2,(i (.int .i64 g.AP[j].level) rfl).2]
 ·obtain⟨w,e,A,q⟩:=N.of_ s z;have:=B _ _ A fun p m H=>by subst H;have:=(q 3 m).2;have:=N.R3 3 (by omega);omega
  refine⟨T w,?_,this.2⟩;rw[Gl,e];rfl
end Go.Am
