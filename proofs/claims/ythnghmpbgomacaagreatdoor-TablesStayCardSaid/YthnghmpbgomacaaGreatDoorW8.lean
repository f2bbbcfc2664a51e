/- A part of tablesStay. -/
import Derived.Test.YthnghmpbgomacaaGreatDoorW7
set_option maxHeartbeats 4000000
namespace Go.Am
open Go
theorem dJ{k n s:Nat}{w:AV}{a b:List AV}{D:Nat->Int}{p:Nat->Bool}{d:St}(m:CV w=some n)(L:n<1000000)(v:∀i,i<n->∃q,AY 1 w (.int .i64 (i:Int)) d=some (q,d)/\AQ d.h q=some (.int .i64 (D i)))(g:∀i,i<n->Ab E k s (a++([.int .i64 (D i)]++b)) d=.ret (.bool (p i),d)) :
 ∃r:Int,Ab E (k+1) 160 [w,.fn (.func s) a b] d=.ret (.int .i64 r,d)/\-1<=r/\(0<=r↔∃i,i<n/\p i=true):=by
 have main:(Gt E (Ab E k) C.f160 [w,.fn (.func s) a b] d).to fun x=>∃r:Int,x=(.int .i64 r,d)/\-1<=r/\(0<=r↔∃i,i<n/\p i=true):=by
  rw[Ap (by simp)];simp[C.f160,BZ,m];refine M.BG (Df (fun (i:Nat) f c=>c=d/\i<=n/\f.get 0=w/\f.get 1=.fn (.func s) a b/\f.get 7=.int .i64 (n:Int)/\f.get 8=.int .i64 (i:Int)/\∀j,j<i->p j=false)
   (fun i=>n-i) (fun e f c=>c=d/\((e=.exit 0/\∀j,j<n->p j=false)∨(e=.ret/\∃i:Nat,i<n/\p i=true/\f.get 4=.int .i64 (i:Int)))) ?step _ 0 _ _ ?_ ?_) ?_
  case step=>
   rintro i f c ⟨rfl,u,B,t,y,z,F⟩;by_cases Bi:i<n
   ·obtain⟨q,H,A⟩:=v i Bi;have o:=g i Bi;simp only[List.singleton_append]at o;cases l:p i with
    |true=>rw[l]at o;simp[C.f160L0,B,t,y,z,Bi,H,A,o];exact⟨i,Bi,l,rfl⟩
    |false=>
     rw[l]at o;simp[C.f160L0,B,t,y,z,Bi,H,A,o,wi i];refine⟨i+1,by omega,by omega,by simp,fun j K=>?_⟩;by_cases e:j=i
     ·subst e;exact l
     ·exact F j (by omega)
   ·have:i=n:=by omega
    subst this;simp[C.f160L0,y,z];exact F
  ·exact FX (by show n-0<1000000;omega)
  ·simp
  ·rintro⟨e,f,c⟩ ⟨rfl,h⟩;rcases h with⟨rfl,h⟩|⟨rfl,i,u,l,J⟩
   ·simp[Al,results,Af];intro i u;simp[h i u]
   ·simp[J,Al,results,Af];exact⟨i,u,l⟩
 rw[Av (fn:=C.f160) rfl rfl rfl];obtain⟨x,t,r,rfl,I⟩:=main;exact⟨r,t,I⟩
theorem RX{k n fc:Nat}{w:AV}{a b:List AV}{el:Nat->Int}{p:Nat->Bool}{st:St}(d:CV w=some n)(g:n<1000000)(e:∀i,i<n->∃q,AY 1 w (.int .i64 (i:Int)) st=some (q,st)/\AQ st.h q=some (.int .i64 (el i)))(c:∀i,i<n->Ab E k fc (a++([.int .i64 (el i)]++b)) st=.ret (.bool (p i),st)) :
 Ab E (k+2) 108 [w,.fn (.func fc) a b] st=.ret (.bool (decide (∃i,i<n/\p i=true)),st):=by
 obtain⟨r,j,l,f⟩:=dJ d g e c;rw[Av (fn:=C.f108) rfl rfl rfl,Ap (by simp)];have:decide (0<=r)=decide (∃i,i<n/\p i=true):=by simp only[f]
 simp[C.f108,j,Al,results,Af];simpa using this
def Cj(l:List Bool):List AV:=l.map .bool
@[simp] theorem dE(l:List Bool):(Cj l).length=l.length:=by simp[Cj]
theorem bools_get? (B:List Bool)(j:Nat)(h:j<B.length):(Cj B)[j]? =some (.bool (B.getD j false)):=by simp[Cj,List.getD,h]
theorem uo(B:List Bool)(j:Nat)(b:Bool):(Cj B).set j (.bool b)=Cj (B.set j b):=by simp[Cj,GX]
theorem ZR{B:List Bool}{i:Nat}{a:Bool}(h:i<B.length)(p:Nat):(B.set i a).getD p false=if p=i then a else B.getD p false:=by
 simp only[List.getD,FW];by_cases e:p=i
 ·subst e;simp[h]
 ·rw[AJ (Aj e),AJ e]
theorem Co.AHL{v:AV}{l:List Nat}{a:St}(h:Co v 1 (BI l)){i:Nat}(b:i<l.length):AY 1 v (.int .i64 i) a=some (.CB [.int .i64 (l[i]:Nat)],a):=by rw[h.idx (by simpa using b)];simp[BI,AV.cells]
theorem AFm{k A ib n x:Nat}{B:List Bool}{st:St}(e:AA st.h A=some (.cells 4 1 (Cj B) false))(i:B.length=n)(a:AA st.h ib=some (.cells 77 1 [.AU A 0 n (some n)] false))(g:x<n) :
 Ab E (k+1) 193 [.int .i64 (x:Int),.AL ib 0] st=.ret (.bool (!B.getD x false),st):=by
 rw[FD (fn:=C.f193) rfl rfl rfl,Ap (by simp)];have r:AQ st.h (.AL ib 0)=some (.AU A 0 n (some n)):=by rw[AR a];rfl
 have d:AQ st.h (.AL A x)=some (.bool (B.getD x false)):=by rw[AR e,bools_get? _ _ (by omega)]
 have f:=PZ (st:=⟨st.h,st.c,st.c⟩) (n:=n) (cap:=some n) e g;generalize B.getD x false=b at d;simp[C.f193,r,f,d,Al,results,Af]
theorem ADR{k A ib n:Nat}{B:List Bool}{w:AV}{l:List Nat}{st:St}(g:Co w 1 (BI l))(t:l.length<=1000)(d:∀x∈l,x<n)(r:AA st.h A=some (.cells 4 1 (Cj B) false))(q:B.length=n)(f:AA st.h ib=some (.cells 77 1 [.AU A 0 n (some n)] false)) :
 Ab E (k+3) 108 [w,.fn (.func 193) [] [.AL ib 0]] st=.ret (.bool (!l.all fun x=>B.getD x false),st):=by
 have m:=RX (k:=k+1) (n:=l.length) (fc:=193) (w:=w) (a:=[]) (b:=[.AL ib 0]) (el:=fun j=>(l.getD j 0:Nat)) (p:=fun j=>!B.getD (l.getD j 0) false) (st:=st)
  (by rw[g.iK];simp) (by omega) (fun i c=>⟨_,g.AHL c,by simp[List.getD,c]⟩) (fun i c=>AFm r q f (by
   have:l.getD i 0=l[i]:=by simp[List.getD,c]
   rw[this];exact d _ (BH c)))
 have e:decide (∃i,i<l.length/\(!B.getD (l.getD i 0) false)=true)=!l.all fun x=>B.getD x false:=by
  rw[KZ];simp only[Aw,Fp,List.all_eq_false];constructor
  ·rintro⟨i,c,h⟩;have e:l.getD i 0=l[i]:=by simp[List.getD,c]
   rw[e]at h;exact⟨l[i],BH c,by rw[h];simp⟩
  ·rintro⟨s,o,h⟩;obtain⟨i,c,rfl⟩:=Du o;have e:l.getD i 0=l[i]:=by simp[List.getD,c]
   exact⟨i,c,by rw[e];simpa using h⟩
 rw[e]at m;exact m
def okB(g:Ac)(B:List Bool)(r:Dw):Bool:=(r.right.map g.ix).all fun x=>B.getD x false
def WQ(g:Ac)(B:List Bool):Nat:=g.AP.countP fun r=>!B.getD (g.ix r.left) false
theorem ABB{g:Ac}{B a:List Bool}(h:∀x,B.getD x false=true->a.getD x false=true){r:Dw}(d:r∈g.AP)(e:B.getD (g.ix r.left) false=false)(c:a.getD (g.ix r.left) false=true):WQ g a<WQ g B:=
 WM (fun x _ b=>by
  cases hb:B.getD (g.ix x.left) false with
  |true=>rw[h _ hb]at b;cases b
  |false=>rfl) d (by rw[c];rfl) (by rw[e];rfl)
theorem vU{g:Ac}{s:Bz}(h:s∈g.AB):g.ix s<g.AB.length:=(Ja h).1
theorem sM{g:Ac}(a:g.Ok){B:List Bool}{base:Bz->Prop}(d:∀s,s∈g.AB->B.getD (g.ix s) false=true->kY base g s){r:Dw}(b:r∈g.AP)(h:okB g B r=true):kY base g r.left:=by refine .FJ b fun x c=>?_;unfold okB at h;rw[Fj]at h;exact d x (Ac.NF a b c) (h _ (List.mem_map_of_mem c))
theorem mg{g:Ac}(a:g.Ok){B:List Bool}{base:Bz->Prop}(e:∀s,base s->B.getD (g.ix s) false=true)(f:∀r∈g.AP,okB g B r=true->B.getD (g.ix r.left) false=true){s:Bz}(h:kY base g s):B.getD (g.ix s) false=true:=by
 induction h with
 |base h=>exact e _ h
 |FJ d _ c=>refine f _ d ?_;unfold okB;rw[Fj];intro x i;obtain⟨y,b,rfl⟩:=BP.1 i;exact c y b
structure EV (cv:AV)(A ib gb n:Nat)(B:List Bool)(st:St):Prop where
 hb:HB st
 lo:st.lo<=A
 a:AA st.h A=some (.cells 4 1 (Cj B) false)
 len:B.length=n
 i:AA st.h ib=some (.cells 77 1 [.AU A 0 n (some n)] false)
 g:AA st.h gb=some (.cells 76 1 [cv] false)
 ids:A<st.c/\ib<st.c/\gb<st.c/\A≠ib/\A≠gb/\st.lo<=st.c
section
variable {cv:AV}{g:Ac}{A ib gb:Nat}{base:Bz->Prop}
theorem jK{k:Nat}(hC:Gu cv g)(hs:g.Small)(a2:g.Ok)(rv:AV)(lr:List AV)(h2:Co rv 3 lr)(h3:lr.length=g.AP.length)(h4:∀j (U:j<g.AP.length),∃w,lr[j]? =some (.agg [.int .i64 (g.ix g.AP[j].left:Nat),w,.int .i64 g.AP[j].level])/\Co w 1 (BI (g.AP[j].right.map g.ix)))(T:List Bool)(st:St)(H:EV cv A ib gb g.AB.length T st)(b6:∀s,s∈g.AB->T.getD (g.ix s) false=true->kY base g s)(o:TS)(z0:o.get 0=.AL gb 0)(z1:o.get 1=.AL ib 0)(z3:o.get 3=.bool false)(z9:o.get 9=rv)(q:o.get 10=.int .i64 (g.AP.length:Int))(D:o.get 11=.int .i64 ((0:Nat):Int)) :
 (Dm (Bc E (Ab E (k+3)) C.f192L0) E.k o st).to fun x=>x.1=.exit 0/\∃B more,x.2.1.get 3=.bool more/\EV cv A ib gb g.AB.length B x.2.2/\(∀s,s∈g.AB->B.getD (g.ix s) false=true->kY base g s)/\(∀x,T.getD x false=true->B.getD x false=true) /\
  ((more=true/\WQ g B<WQ g T)∨(more=false/\∀r∈g.AP,okB g B r=true->B.getD (g.ix r.left) false=true)):=by
 have b0:=hs.many;refine Cy (fun (i:Nat) Z st=>i<=g.AP.length/\Z.get 0=.AL gb 0/\Z.get 1=.AL ib 0/\Z.get 9=rv/\Z.get 10=.int .i64 (g.AP.length:Int)/\Z.get 11=.int .i64 (i:Int)/\∃B more,Z.get 3=.bool more/\EV cv A ib gb g.AB.length B st/\(∀s,s∈g.AB->B.getD (g.ix s) false=true->kY base g s)/\(∀x,T.getD x false=true->B.getD x false=true) /\
  ((more=true/\WQ g B<WQ g T)∨(more=false/\B=T/\∀j (U:j<g.AP.length),j<i->okB g B g.AP[j]=true->B.getD (g.ix g.AP[j].left) false=true)))
  (fun i=>g.AP.length-i) ?_ _ 0 _ _ ?_ ?_
 ·rintro i Z st ⟨hi,z0,z1,z9,q,D,B,more,z3,H,hB,S,hM⟩;by_cases Bi:i<g.AP.length
  ·have a9:i<lr.length:=by omega
   obtain⟨w,e1,e2⟩:=h4 i Bi;rw[Bu a9,Ct]at e1;have b:=BH Bi;have b9:=(hs.AP _ b).right;obtain⟨h,c,lo⟩:=st;have b5:∀p x,(p,x)∈h->p<c:=H.hb;obtain⟨i1,i2,i3,i4,i5,i6⟩:=H.ids;have b4:A<c:=i1;have b3:ib<c:=i2;have b7:gb<c:=i3;have b8:lo<=c:=i6;obtain⟨I,t⟩:∃s,s=g.ix g.AP[i].left:=⟨_,rfl⟩;have b2:I<g.AB.length:=t▸vU (Ac.Iu b);rw[←t]at e1;obtain⟨V,L⟩:∃V:List AV,V=[.int .i64 (I:Int),w,.int .i64 g.AP[i].level]:=⟨_,rfl⟩;obtain⟨f,R⟩:∃f:Aa,f=(c,BJ.cells 218 3 V false)::h:=⟨_,rfl⟩;have a5:HB ⟨f,c+1,lo⟩:=R▸HB.cons (h:=h) (c:=c) (lo:=lo) H.hb (by omega) (by omega);have fr:∀p,p<c->AA f p=AA h p:=fun p hp=>by rw[R,Dt hp]
   have m:EV cv A ib gb g.AB.length B ⟨f,c+1,lo⟩:=⟨a5,H.lo,(fr A b4).trans H.a,H.len,(fr ib b3).trans H.i,(fr gb b7).trans H.g,by
    refine⟨?_,?_,?_,i4,i5,?_⟩
    ·show A<c+1;omega
    ·show ib<c+1;omega
    ·show gb<c+1;omega
    ·show lo<=c+1;omega⟩
   have N:AY 3 rv (.int .i64 (i:Int)) ⟨h,c+1,lo⟩=some (.CB lr[i].cells,⟨h,c+1,lo⟩):=h2.idx a9;have P:lr[i].cells=V:=by rw[e1,L];rfl
   rw[P]at N;have hn:BA c (.cells 218 3 [.int .i64 0,.AO,.int .i64 0] false) ⟨h,c+1,lo⟩=some ⟨(c,.cells 218 3 [.int .i64 0,.AO,.int .i64 0] false)::h,c+1,lo⟩:=Bb b5;have Q:=Ic (h:=h) (c:=c) (c':=c+1) (lo:=lo) (ty:=218) (n:=3) (zs:=[.int .i64 0,.AO,.int .i64 0]) (vs:=V) (by omega) (by rw[L];rfl) rfl;rw[←R]at Q;have J:Ak h (.CB V) 3=some V:=by rw[L];rfl
   have fc:AA f c=some (.cells 218 3 V false):=by rw[R,AZ,AX rfl]
   have Y:AQ f (.AL c 0)=some (.int .i64 (I:Int)):=by rw[AR fc,L];rfl
   have a6:AQ f (.AL c 1)=some w:=by rw[AR fc,L];rfl
   have ri:AQ f (.AL ib 0)=some (.AU A 0 g.AB.length (some g.AB.length)):=by rw[AR m.i];rfl
   have W:=PZ (st:=⟨f,c+1,lo⟩) (n:=g.AB.length) (cap:=some g.AB.length) m.a b2;have b1:=m.len;have rA:AQ f (.AL A I)=some (.bool (B.getD I false)):=by rw[AR m.a,bools_get? _ _ (by omega)]
   have a7:=ADR (k:=k) (l:=g.AP[i].right.map g.ix) (st:=⟨f,c+1,lo⟩) e2 (by simp;omega) (fun x O=>by
    obtain⟨y,hy,rfl⟩:=BP.1 O
    exact vU (Ac.NF a2 b hy)) m.a m.len m.i
   have d:Ab E (k+3) 108 [w,.fn (.func 193) [] [.AL ib 0]] ⟨f,c+1,lo⟩=.ret (.bool (!okB g B g.AP[i]),⟨f,c+1,lo⟩):=a7;have K:∀B':List Bool,B'=B->(∀j (U:j<g.AP.length),j<i->okB g B g.AP[j]=true->B.getD (g.ix g.AP[j].left) false=true)->(okB g B g.AP[i]=true->B.getD (g.ix g.AP[i].left) false=true)->∀j (U:j<g.AP.length),j<i+1->okB g B g.AP[j]=true->B.getD (g.ix g.AP[j].left) false=true:=fun _ _ a4 a1 j U c0=>by
    rcases FU j i with h|h
    ·exact a4 j U h
    ·have:j=i:=by omega
     subst this;exact a1
   cases hin:B.getD I false with
   |true=>
    rw[hin]at rA;simp[-Bool.exists_bool,-List.getD_eq_getElem?_getD,C.f192L0,Da,z0,z1,z3,z9,q,D,Bi,N,-Cw,J,hn,Q,ri,Y,W,rA,wi i];refine⟨i+1,by omega,by omega,by simp,B,m,hB,S,?_⟩;rcases hM with⟨u,z⟩|⟨u,z,m3⟩
    ·exact .inl ⟨u,z⟩
    ·exact .inr ⟨u,z,K B rfl m3 fun _=>by rw[←t];exact hin⟩
   |false=>
    rw[hin]at rA;cases hok':okB g B g.AP[i] with
    |false=>
     rw[hok']at d;simp[-Bool.exists_bool,-List.getD_eq_getElem?_getD,C.f192L0,Cm,z0,z1,z3,z9,q,D,Bi,N,-Cw,J,hn,Q,ri,Y,a6,W,rA,d,wi i];refine⟨i+1,by omega,by omega,by simp,B,m,hB,S,?_⟩;rcases hM with⟨u,z⟩|⟨u,z,m3⟩
     ·exact .inl ⟨u,z⟩
     ·exact .inr ⟨u,z,K B rfl m3 fun h=>by rw[hok']at h;cases h⟩
    |true=>
     rw[hok']at d;have s1:=DZ (st:=⟨f,c+1,lo⟩) (off:=I) (v:=.bool true) m.a m.lo (by simp;omega) rfl rfl;rw[uo]at s1;simp[-Bool.exists_bool,-List.getD_eq_getElem?_getD,C.f192L0,Cm,z0,z1,z9,q,D,Bi,N,-Cw,J,hn,Q,ri,Y,a6,W,rA,d,s1,wi i];have a0:I<B.length:=by omega
     have a3:∀x,B.getD x false=true->(B.set I true).getD x false=true:=fun x O=>by
      rw[ZR a0];split
      ·rfl
      ·exact O
     have F:∀p,p≠A->AA (Ah f A (.cells 4 1 (Cj (B.set I true)) false)) p=AA f p:=fun p hp=>by rw[Ag m.a,AJ (Aj hp)]
     refine⟨i+1,by omega,by omega,by simp,B.set I true,⟨HB.Ah (st:=⟨f,c+1,lo⟩) a5,m.lo,?_,by simpa using m.len,(F ib (Aj i4)).trans m.i,(F gb (Aj i5)).trans m.g,m.ids⟩,fun s hs O=>?_,fun x O=>a3 x (S x O),?_⟩
     ·show AA (Ah f A _) A=_;rw[Ag m.a,AX rfl]
     ·rw[ZR a0]at O;split at O
      ·rename_i e;have:=sM a2 hB b hok';have es:s=g.AP[i].left:=by obtain⟨q1,q2⟩:=Ja hs;obtain⟨q3,q4⟩:=Ja (Ac.Iu b);have e':Lr s g.AB=Lr g.AP[i].left g.AB:=e.trans t;rw[←q2,←q4];simp only[e']
       rw[es];exact this
      ·exact hB s hs O
     ·have a8:WQ g (B.set I true)<WQ g B:=ABB a3 b (by rw[←t];exact hin) (by rw[←t,ZR a0,AX rfl]);rcases hM with⟨u,z⟩|⟨u,z,m3⟩
      ·omega
      ·rw[←z];exact a8
  ·have:i=g.AP.length:=by omega
   subst this;simp[-Bool.exists_bool,-List.getD_eq_getElem?_getD,C.f192L0,z3,q,D];refine⟨B,H,hB,S,?_⟩;rcases hM with⟨u,z⟩|⟨u,z,m3⟩
   ·exact .inl ⟨u,z⟩
   ·refine .inr ⟨u,fun r hr=>?_⟩;obtain⟨j,U,rfl⟩:=Du hr;exact m3 j U U
 ·exact FX (by show g.AP.length-0<1000000;omega)
 ·exact⟨by omega,z0,z1,z9,q,D,T,false,z3,H,b6,fun _ h=>h,.inr ⟨rfl,rfl,fun j _ h=>by omega⟩⟩
end
section
variable {cv:AV}{g:Ac}{A ib gb:Nat}{base:Bz->Prop}
theorem nz{k:Nat}(j:Gu cv g)(D:g.Small)(f:g.Ok)(a:List Bool)(st:St)(H:EV cv A ib gb g.AB.length a st)(c:∀s,s∈g.AB->a.getD (g.ix s) false=true->kY base g s) :
 (Ab E (k+4) 192 [.AL gb 0,.AL ib 0] st).to fun x=>∃B more,x.1=.bool more/\EV cv A ib gb g.AB.length B x.2/\(∀s,s∈g.AB->B.getD (g.ix s) false=true->kY base g s)/\(∀x,a.getD x false=true->B.getD x false=true) /\
  ((more=true/\WQ g B<WQ g a)∨(more=false/\∀r∈g.AP,okB g B r=true->B.getD (g.ix r.left) false=true)):=by
 obtain⟨O,m,P,I,R,u,K,l,p,y,N,Q,L⟩:=j.out;rw[Av (fn:=C.f192) rfl rfl rfl,Ap (by simp)];have o:AQ st.h (.AL gb 0)=some cv:=by rw[AR H.g];rfl
 have i:∀b:St,BZ .slice m b=some (.int .i64 (g.AP.length:Int),b):=fun b=>by have:=l.len (st:=b);rw[this,p]
 rw[u]at o;simp[-Bool.exists_bool,-List.getD_eq_getElem?_getD,C.f192,o,i];refine M.BG (jK (k:=k) j D f m I l p y a st H c _ (by simp) (by simp) (by simp) (by simp) (by simp) (by simp)) fun x F=>?_;obtain⟨e,z,w⟩:=x;obtain⟨n,B,more,t,q,J,d,v⟩:=F;simp only at n t q;subst n;simp[-Bool.exists_bool,-List.getD_eq_getElem?_getD,t,Al,results,Af];exact⟨B,q,J,d,v⟩
theorem jL{k:Nat}(J:Gu cv g)(m:g.Small)(j:g.Ok)(c:List Bool)(a:St)(H:EV cv A ib gb g.AB.length c a)(u:∀s,s∈g.AB->c.getD (g.ix s) false=true->kY base g s)(L:∀s,base s->c.getD (g.ix s) false=true) :
 (Ab E (k+5) 104 [.fn (.func 192) [] [.AL gb 0,.AL ib 0]] a).to fun x=>∃B,EV cv A ib gb g.AB.length B x.2/\(∀s,s∈g.AB->(B.getD (g.ix s) false=true↔kY base g s)):=by
 have t:=m.many;have D:WQ g c<=g.AP.length:=List.countP_le_length;rw[Av (fn:=C.f104) rfl rfl rfl,Ap (by simp)];simp[-Bool.exists_bool,-List.getD_eq_getElem?_getD,C.f104];refine M.BG (Df (fun (n:Nat) o a=>o.get 0=.fn (.func 192) [] [.AL gb 0,.AL ib 0]/\∃B,EV cv A ib gb g.AB.length B a/\(∀s,s∈g.AB->B.getD (g.ix s) false=true->kY base g s)/\(∀x,c.getD x false=true->B.getD x false=true)/\WQ g B<n)
  (fun n=>n) (fun e o a=>e=.exit 0/\∃B,EV cv A ib gb g.AB.length B a/\(∀s,s∈g.AB->(B.getD (g.ix s) false=true↔kY base g s))) ?step _ (g.AP.length+1) _ _ ?_ ?_) ?_
 case step=>
  rintro n o a ⟨I,B,H,z,i,p⟩;have pass:=nz (k:=k) J m j B a H z;simp[-Bool.exists_bool,-List.getD_eq_getElem?_getD,C.f104L0,I];refine M.BG pass fun x y=>?_;obtain⟨v,r⟩:=x;obtain⟨F,w,l,d,f,b,K⟩:=y;simp only at l d;subst l;rcases K with⟨rfl,q⟩|⟨rfl,q⟩
  ·simp[-Bool.exists_bool,-List.getD_eq_getElem?_getD,I];exact⟨WQ g B,p,⟨F,d,f,fun x y=>b x (i x y),q⟩⟩
  ·simp[-Bool.exists_bool,-List.getD_eq_getElem?_getD];exact⟨F,d,fun s m=>⟨f s m,mg j (fun s h=>b _ (i _ (L s h))) q⟩⟩
 ·exact FX (by show g.AP.length+1<1000000;omega)
 ·exact⟨by simp,c,H,u,fun _ h=>h,by omega⟩
 ·rintro⟨e,o,r⟩ ⟨l,B,d,z⟩;simp only at l d;subst l;simp[-List.getD_eq_getElem?_getD,Al,results,Af];exact⟨B,d,z⟩
theorem oG{k:Nat}(z:Gu cv g)(w:g.Small)(p:g.Ok)(d:List Bool)(e:St)(y:HB e)(q:e.lo<=A)(L:A<e.c)(N:AA e.h A=some (.cells 4 1 (Cj d) false))(I:d.length=g.AB.length)(o:∀s,s∈g.AB->d.getD (g.ix s) false=true->base s)(b:∀s,base s->d.getD (g.ix s) false=true) :
 (Ab E (k+6) 147 [cv,.AU A 0 g.AB.length (some g.AB.length)] e).to fun x=>x.1=.AU A 0 g.AB.length (some g.AB.length)/\∃B,AA x.2.h A=some (.cells 4 1 (Cj B) false)/\B.length=g.AB.length/\(∀s,s∈g.AB->(B.getD (g.ix s) false=true↔kY base g s)):=by
 obtain⟨T,U,V,W,P,H,_⟩:=z.out;rw[Av (fn:=C.f147) rfl rfl rfl,Ap (by simp)];obtain⟨h,c,lo⟩:=e;have u:A<c:=L;have l:lo<=A:=q;have t:Ls c 76 1 cv=some (.AL c 0,.cells 76 1 [cv] false):=by rw[H];rfl
 have f:Ls (c+1) 77 1 (.AU A 0 g.AB.length (some g.AB.length))=some (.AL (c+1) 0,.cells 77 1 [.AU A 0 g.AB.length (some g.AB.length)] false):=rfl;have Q:BA c (.cells 76 1 [cv] false) ⟨h,c+2,lo⟩=some ⟨(c,.cells 76 1 [cv] false)::h,c+2,lo⟩:=Bb y;have j:HB ⟨(c,.cells 76 1 [cv] false)::h,c+1,lo⟩:=HB.cons (h:=h) (c:=c) (lo:=lo) y (by omega) (by omega);have F:BA (c+1) (.cells 77 1 [.AU A 0 g.AB.length (some g.AB.length)] false) ⟨(c,.cells 76 1 [cv] false)::h,c+2,lo⟩=some ⟨(c+1,.cells 77 1 [.AU A 0 g.AB.length (some g.AB.length)] false)::(c,.cells 76 1 [cv] false)::h,c+2,lo⟩:=Bb j;obtain⟨S,D⟩:∃S:St,S=⟨(c+1,.cells 77 1 [.AU A 0 g.AB.length (some g.AB.length)] false)::(c,.cells 76 1 [cv] false)::h,c+2,lo⟩:=⟨_,rfl⟩;rw[←D]at F;have r:EV cv A (c+1) c g.AB.length d S:=by
  subst D;refine⟨HB.cons (h:=(c,.cells 76 1 [cv] false)::h) (c:=c+1) (lo:=lo) j (by omega) (by omega),l,?_,I,?_,?_,?_,?_,?_,by omega,by omega,?_⟩
  ·show AA (_::_::h) A=_;rw[Dt (by omega),Dt u];exact N
  ·show AA (_::_::h) (c+1)=_;rw[AZ,AX rfl]
  ·show AA (_::_::h) c=_;rw[Dt (by omega),AZ,AX rfl]
  ·show A<c+2;omega
  ·show c+1<c+2;omega
  ·show c<c+2;omega
  ·show lo<=c+2;omega
 have K:=jL (k:=k) (base:=base) z w p d S r (fun s w h=>.base (o s w h)) b;simp[-List.getD_eq_getElem?_getD,C.f147,t,f,Q,F];refine M.BG K fun x J=>?_;obtain⟨v,n⟩:=x;obtain⟨B,m,R⟩:=J;simp only at m;have O:AQ n.h (.AL (c+1) 0)=some (.AU A 0 g.AB.length (some g.AB.length)):=by rw[AR m.i];rfl
 simp[-List.getD_eq_getElem?_getD,O,Al,results,Af];exact⟨B,m.a,m.len,R⟩
end
theorem YY(c:Nat)(l:List Bool):AV.Dq c (Cj l)=true:=Lv fun x a=>by simp only[Cj,BP]at a;obtain⟨n,_,rfl⟩:=a;rfl
theorem Co.wo{v:AV}{l:List Bool}(h:Co v 1 (Cj l))(c:Nat):v.CY c=true:=by
 rcases h.out with⟨rfl,_⟩|⟨t,rfl⟩
 ·rfl
 ·exact YY c _
theorem lX{h:Aa}{A n:Nat}{B:List Bool}(a:AA h A=some (.cells 4 1 (Cj B) false))(c:B.length=n):Ce 0 h 64 (.AU A 0 n (some n))=some (.list true 1 (Cj B)):=by
 have b:DD (Ce 0 h 63) (((Cj B).drop 0).take (n*1))=some (Cj B):=by rw[FB,Fe,Gx (by simp;omega)];exact Hu (YY 0 _)
 rw[Gh (CZ _) a (by omega) (by simp;omega) b];have:rows 1 n (Cj B)=Cj B:=by have:=Jw (Cj B);rwa [dE,c]at this
 simp[this]
theorem Ye{o n:Nat}(b:n<=1000):Dy o 4 1 1 [.bool false] (.int .i64 (n:Int)) (.int .i64 (n:Int))=some (.AU o 0 n (some n),.cells 4 1 (Cj (List.replicate n false)) false):=by
 have a:n*1<=room/\n<=room:=by unfold room;constructor<;>omega
 simp[Dy,Bg,ble_eq,blt_eq,a.2,Iq,Cj]
theorem WN{k:Nat}{cv:AV}{g:Ac}{st:St}(l:Gu cv g)(t:g.Small)(j:g.Ok) :
 ∃w B,Ab E (k+7) 94 [cv] st=.ret (w,st)/\Co w 1 (Cj B)/\B.length=g.AB.length/\∀s,s∈g.AB->(B.getD (g.ix s) false=true↔VT g s):=by
 have a:=l.Ow 0;have N:=Ac.JP t;obtain⟨F,Q,R,T,P,y,I,_⟩:=l.out;rw[GH (fn:=C.f94) rfl rfl rfl (by simp[AV.Dq,a]),Ap (by simp)];have f:∀d:St,BZ .slice F d=some (.int .i64 (g.AB.length:Int),d):=fun d=>by have:=I.len (st:=d);simpa using this
 have m:=Ye (o:=0) (n:=g.AB.length) (by omega);obtain⟨S,c⟩:∃S:St,S=⟨[(0,.cells 4 1 (Cj (List.replicate g.AB.length false)) false)],1,0⟩:=⟨_,rfl⟩;have O:BA 0 (.cells 4 1 (Cj (List.replicate g.AB.length false)) false) ⟨[],1,0⟩=some S:=by rw[c];rfl
 have D:HB S:=by
  subst c;intro p x K;rcases BK.1 K with e|e
  ·cases e;exact QP
  ·cases e
 have L:AA S.h 0=some (.cells 4 1 (Cj (List.replicate g.AB.length false)) false):=by rw[c];rfl
 have b:∀x,(List.replicate g.AB.length false).getD x false=false:=fun x=>by simp only[List.getD,NW];split<;>rfl
 have i:=oG (k:=k) (A:=0) (base:=fun _=>False) l t j (List.replicate g.AB.length false) S D (by rw[c];exact Ao _) (by rw[c];exact QP) L (by simp) (fun s _ h=>by rw[b]at h;cases h) (fun s h=>h.elim);obtain⟨⟨v,z⟩,H,u,B,q,r,J⟩:=i;simp only at u q;subst u;refine⟨.list true 1 (Cj B),B,?_,⟨.inr ⟨_,rfl⟩⟩,r,J⟩;subst y;simp[C.f94,f,m,O,H,Al,results,Af,BU,Ck,lX q r]
theorem dF{g:Ac}(c:g.Ok){s:Bz}(h:s∈g.AB):g.ix s<g.Ae.length↔s∈g.Ae:=by
 obtain⟨k,j⟩:=Ja h;constructor
 ·intro a;rw[←j];have:g.AB[Lr s g.AB]'k=g.Ae[Lr s g.AB]'a:=IX a;rw[this];exact BH _
 ·intro f;obtain⟨i,d,rfl⟩:=Du f;have b:i<g.AB.length:=by unfold Ac.AB;rw[Bd];omega
  have e:g.AB[i]'b=g.Ae[i]:=IX d;have:=Uo (Ac.Rv c) b;rw[e]at this;show Lr g.Ae[i] g.AB<_;rw[this];exact d
def pick(g:Ac)(p:Nat->Bool)(j:Nat):List Bz:=(g.Km.take j).filter fun s=>p (g.ix s)
inductive Stk (h:Aa):AV->List Nat->Prop
 |nl:Stk h .AO []
 |ob (id:Nat) (L:List Nat) (rest:List AV) (ext:Bool) (cap:Option Nat) (hf:AA h id=some (.cells 3 1 (BI L++rest) ext)) (hc:(cap=none/\ext=true)∨cap=some (L.length+rest.length)):Stk h (.AU id 0 L.length cap) L
structure RC (A n:Nat)(B:List Bool)(w:AV)(L:List Nat)(st:St):Prop where
 hb:HB st
 lo:st.lo=0
 a:AA st.h A=some (.cells 4 1 (Cj B) false)
 len:B.length=n
 ac:A<st.c
 sk:Stk st.h w L
 own:∀p,Az w=some p->p<st.c/\p≠A
structure RI (g:Ac)(Z:Nat->Prop)(B:List Bool)(L:List Nat):Prop where
 sound:∀s,s∈g.AB->B.getD (g.ix s) false=true->Reach g s
 stk:∀x∈L,x<g.AB.length/\B.getD x false=true
 cl:∀r∈g.AP,B.getD (g.ix r.left) false=true->g.ix r.left∈L∨Z (g.ix r.left)∨∀y∈r.right,B.getD (g.ix y) false=true
 Ai:B.getD (g.ix g.Ai) false=true
theorem gq{g:Ac}{i s j:Nat}:j∈Px g i s↔j<i/\g.ix (g.AP.getD j default).left=s:=by unfold Px;simp
theorem TE{k:Nat}{a:AV}{g:Ac}{st:St}(c:Gu a g)(x:Nat):Ab E (k+1) 56 [a,.int .i64 (x:Int)] st=.ret (.bool (decide (x<g.Ae.length)),st):=by
 obtain⟨e,i,h,f,d,b,_⟩:=c.out;subst b;rw[Av (fn:=C.f56) rfl rfl rfl,Ap (by simp)];have:decide ((x:Int)<(g.Ae.length:Int))=decide (x<g.Ae.length):=by rw[decide_eq_decide];omega
 simp[C.f56,Al,results,Af]
def okN(B:List Bool)(r:List Nat)(q:Nat):Bool:=((r.take q).all fun y=>B.getD y false)&&(r.drop (q+1)).all fun y=>B.getD y false
structure TO (nw:AV)(n:Nat)(R:Nat->Nat)(ol:List AV)(K:Nat->List Nat)(st:St):Prop where
 hb:HB st
 lo:st.lo=0
 c1:1<st.c
 n0:AA st.h 0=some (.cells 77 1 [nw] false)
 f1:AA st.h 1=some (.cells 22 1 ol false)
 len:ol.length=n
 to:∀s,s<n->∃w,ol[s]? =some w/\Lp st.h 3 1 w (BI (K s))/\∀p,Az w=some p->1<p/\p<st.c/\R p=s
def lone(m:Nat)(B:List Bool)(rl:List Nat)(q:Nat):Bool:=!decide (rl.getD q 0<m)&&okN B rl q
inductive BN (K:Nat->List Nat) (s:Nat):Nat->Prop
 |one {x:Nat} (h:x∈K s):BN K s x
 |more {x y:Nat} (h:BN K s x) (k:y∈K x):BN K s y
structure DS (A n:Nat)(st0:St)(B:List Bool)(w:AV)(L:List Nat)(st:St):Prop where
 hb:HB st
 lo:st.lo=0
 fr:∀p,p<A->AA st.h p=AA st0.h p
 a:AA st.h A=some (.cells 4 1 (Cj B) false)
 len:B.length=n
 ac:A<st.c
 sk:Stk st.h w L
 own:∀p,Az w=some p->A<p/\p<st.c
structure DI (K:Nat->List Nat)(n s:Nat)(B:List Bool)(L:List Nat):Prop where
 sound:∀x,B.getD x false=true->BN K s x
 stk:∀x∈L,x<n/\BN K s x
 cl:∀x,B.getD x false=true->∀y∈K x,B.getD y false=true∨y∈L
 root:∀y∈K s,B.getD y false=true∨y∈L
theorem AC8{g:Ac}{a b:Bz}(d:a∈g.AB)(e:b∈g.AB)(h:g.ix a=g.ix b):a=b:=by obtain⟨j,i⟩:=Ja d;obtain⟨k,c⟩:=Ja e;have f:Lr a g.AB=Lr b g.AB:=h;rw[←i,←c];simp only[f]
inductive vW (g:Ac) (k:Bz):Bz->Prop
 |kind (h:k∈g.Ae):vW g k k
 |FJ {r:Dw} {a b:List Bz} {x:Bz} (hr:r∈g.AP) (e:r.right=a++x::b) (ha:∀y∈a,VT g y) (hx:vW g k x):vW g k r.left
def XV(g:Ac)(k:Bz)(l:List Bz):Prop:=∃a x b,l=a++x::b/\(∀y∈a,VT g y)/\vW g k x
theorem WU{g:Ac}{k x:Bz}{l:List Bz}:XV g k (x::l)↔vW g k x∨(VT g x/\XV g k l):=by
 constructor
 ·rintro⟨a,y,b,e,f,d⟩;cases a with
  |nil=>simp only[JJ,Lg]at e;exact .inl (e.1▸d)
  |cons z a=>simp only[Lj,Lg]at e;obtain⟨rfl,rfl⟩:=e;exact .inr ⟨f x (by simp),a,y,b,rfl,fun q c=>f q (Cu _ c),d⟩
 ·rintro (h|⟨h,a,y,b,rfl,f,d⟩)
  ·exact⟨[],x,l,rfl,by simp,h⟩
  ·exact⟨x::a,y,b,rfl,fun q c=>by
    rcases BK.1 c with e|c
    ·subst e;exact h
    ·exact f q c,d⟩
theorem vW.ofL{g:Ac}{k:Bz}{r:Dw}(d:r∈g.AP)(h:XV g k r.right):vW g k r.left:=by obtain⟨a,x,b,e,c,f⟩:=h;exact .FJ d e c f
theorem vW.Ae{g:Ac}{k s:Bz}(h:vW g k s):k∈g.Ae:=by
 induction h with
 |kind h=>exact h
 |FJ _ _ _ _ a=>exact a
theorem XV.Ae{g:Ac}{k:Bz}{l:List Bz}(h:XV g k l):k∈g.Ae:=by obtain⟨_,_,_,_,_,h⟩:=h;exact h.Ae
inductive ADf (g:Ac) (k:Bz):Bz->Prop
 |here {r:Dw} {a b:List Bz} {s:Bz} (hr:r∈g.AP) (hR:Reach g r.left) (e:r.right=a++s::b) (h:XV g k b):ADf g k s
 |up {r:Dw} {a b:List Bz} {s:Bz} (hr:r∈g.AP) (hR:Reach g r.left) (e:r.right=a++s::b) (hb:∀y∈b,VT g y) (h:ADf g k r.left):ADf g k s
inductive ADd (g:Ac):Bz->Prop
 |Ai:ADd g g.Ai
 |up {r:Dw} {a b:List Bz} {s:Bz} (hr:r∈g.AP) (hR:Reach g r.left) (e:r.right=a++s::b) (hb:∀y∈b,VT g y) (h:ADd g r.left):ADd g s
theorem aH{a:Nat}(h:a<2^64):(BitVec.ofInt IntKind.u64.bits (a:Int)).toNat=a:=by show (BitVec.ofInt 64 (a:Int)).toNat=a;rw[BitVec.ofInt_natCast,BitVec.toNat_ofNat,Nat.mod_eq_of_lt h]
theorem OV{a:Nat}(h:a<2^64):IntKind.u64.wrap (a:Int)=a:=by
 have b:((a:Int))<2^64:=by exact_mod_cast h
 have c:(a:Int) % 2^64=a:=Int.emod_eq_of_lt (by omega) b;unfold IntKind.wrap;simp only[IntKind.signed,IntKind.bits,Bool.false_and,GA,Dn];exact c
theorem Qs{a b:Nat}(d:a<2^64)(c:b<2^64):bin .or (.int .u64 (a:Int)) (.int .u64 (b:Int))=some (.int .u64 ((a ||| b:Nat):Int)):=by show some (AV.int .u64 (IntKind.u64.wrap ((BitVec.ofInt IntKind.u64.bits (a:Int) ||| BitVec.ofInt IntKind.u64.bits (b:Int)).toNat:Nat)))=_;rw[BitVec.toNat_or,aH d,aH c,OV (Nat.or_lt_two_pow d c)]
def Vq(a b:Nat):Nat:=(BitVec.ofNat 64 a &&& ~~~ BitVec.ofNat 64 b).toNat
theorem Yh{a b:Nat}:bin .andNot (.int .u64 (a:Int)) (.int .u64 (b:Int))=some (.int .u64 ((Vq a b:Nat):Int)):=by
 show some (AV.int .u64 (IntKind.u64.wrap ((BitVec.ofInt IntKind.u64.bits (a:Int) &&& ~~~ BitVec.ofInt IntKind.u64.bits (b:Int)).toNat:Nat)))=_;have:(BitVec.ofInt IntKind.u64.bits (a:Int) &&& ~~~ BitVec.ofInt IntKind.u64.bits (b:Int)).toNat=Vq a b:=by unfold Vq;show (BitVec.ofInt 64 (a:Int) &&& ~~~ BitVec.ofInt 64 (b:Int)).toNat=_;rw[BitVec.ofInt_natCast,BitVec.ofInt_natCast]
 rw[this,OV];unfold Vq;exact (BitVec.ofNat 64 a &&& ~~~ BitVec.ofNat 64 b).isLt
theorem gZ{a b:Nat}(d:a<2^64)(e:b<2^64)(j:Nat):(Vq a b).testBit j=(a.testBit j&&!b.testBit j):=by
 unfold Vq;rw[BitVec.testBit_toNat];by_cases hj:j<64
 ·rw[BitVec.getLsbD_and,BitVec.getLsbD_not,BitVec.getLsbD_ofNat,BitVec.getLsbD_ofNat];simp[hj]
 ·have c:a.testBit j=false:=Nat.testBit_lt_two_pow (Bt d (TB (by omega) (by omega)));rw[c,BitVec.getLsbD_and,BitVec.getLsbD_ofNat];simp[hj]
theorem Sm{a b:Nat}(c:a<2^64)(d:b<2^64):Vq a b=0↔∀j,a.testBit j=true->b.testBit j=true:=by
 constructor
 ·intro h j e;have:=gZ c d j;rw[h,e]at this;simpa using this
 ·intro h;apply Nat.eq_of_testBit_eq;intro j;rw[gZ c d,Nat.zero_testBit];cases h1:a.testBit j with
  |false=>rfl
  |true=>rw[h j h1];rfl
theorem xK{s:Nat}(h:s<64):bin .shl (.int .u64 1) (.int .i64 (s:Int))=some (.int .u64 ((2^s:Nat):Int)):=by
 have a:¬((s:Int)<0):=by omega
 show (if ((s:Int)<0) then none else some (AV.int .u64 (IntKind.u64.wrap (1*2^min (s:Int).toNat IntKind.u64.bits))))=_;rw[AJ a];have e:min (s:Int).toNat IntKind.u64.bits=s:=by show min (s:Int).toNat 64=s;simp only[OL];omega
 rw[e,Int.one_mul];have b:((2:Int)^s)=((2^s:Nat):Int):=by simp
 rw[b,OV (MN (by omega) h)]
@[simp] theorem AGY{a b:Int}:bin .neq (.int .u64 a) (.int .u64 b)=some (.bool (a !=b)):=rfl
@[simp] theorem AGc{a b:Int}:bin .eql (.int .u64 a) (.int .u64 b)=some (.bool (a==b)):=rfl
def HV(l:List Nat):List AV:=l.map fun (n:Nat)=>AV.int .u64 (n:Int)
@[simp] theorem bE(l:List Nat):(HV l).length=l.length:=by simp[HV]
theorem masks_get? (B:List Nat)(j:Nat)(h:j<B.length):(HV B)[j]? =some (.int .u64 ((B.getD j 0:Nat):Int)):=by simp[HV,List.getD,h]
theorem aR(B:List Nat)(j b:Nat):(HV B).set j (.int .u64 (b:Int))=HV (B.set j b):=by simp[HV,GX]
theorem Uf{B:List Nat}{i a:Nat}(h:i<B.length)(p:Nat):(B.set i a).getD p 0=if p=i then a else B.getD p 0:=by
 simp only[List.getD,FW];by_cases e:p=i
 ·subst e;simp[h]
 ·rw[AJ (Aj e),AJ e]
def Sb(B:List Nat):Prop:=∀x,B.getD x 0<2^64
theorem Sb.set{B:List Nat}(h:Sb B){i a:Nat}(c:i<B.length)(b:a<2^64):Sb (B.set i a):=fun x=>by
 rw[Uf c];split
 ·exact b
 ·exact h x
structure Rd (h:Aa)(w:AV)(n:Nat)(f:Nat->AV):Prop where
 len:CV w=some n
 at_:∀(i:Nat),i<n->∀st:St,st.h=h->∃p,AY 1 w (.int .i64 (i:Int)) st=some (p,st)/\AQ h p=some (f i)
theorem Rd.obj{h:Aa}{o n d sz:Nat}{cap:Option Nat}{b:List AV}{ext:Bool}{f:Nat->AV}(a:AA h o=some (.cells d 1 b ext))(g:∀i,i<n->b[i]? =some (f i)):Rd h (.AU o 0 n cap) n f where
 len:=rfl
 at_:=fun i c j e=>by subst e;exact⟨_,PZ a c,by rw[AR a];exact g i c⟩
theorem Rd.Cj{h:Aa}{w:AV}{B:List Bool}(H:Co w 1 (Cj B)):Rd h w B.length fun i=>.bool (B.getD i false) where
 len:=by rw[H.iK];simp
 at_:=fun i a b _=>⟨_,H.idx (by simpa using a),by simp[Go.Am.Cj,AV.cells,List.getD,a]⟩
theorem Rd.HV{h:Aa}{w:AV}{B:List Nat}(H:Co w 1 (HV B)):Rd h w B.length fun i=>.int .u64 ((B.getD i 0:Nat):Int) where
 len:=by rw[H.iK];simp
 at_:=fun i a b _=>⟨_,H.idx (by simpa using a),by simp[Go.Am.HV,AV.cells,List.getD,a]⟩
theorem Rd.ACj{h:Aa}{o n b:Nat}{cap:Option Nat}{B:List Nat}{ext:Bool}(a:AA h o=some (.cells b 1 (Go.Am.HV B) ext))(d:n<=B.length):Rd h (.AU o 0 n cap) n fun i=>.int .u64 ((B.getD i 0:Nat):Int):=
 Rd.obj (sz:=1) a fun i c=>masks_get? B i (by omega)
theorem Rd.BI{h:Aa}{w:AV}{B:List Nat}(H:Co w 1 (BI B)):Rd h w B.length fun i=>.int .i64 ((B.getD i 0:Nat):Int) where
 len:=by rw[H.iK];simp
 at_:=fun i a b _=>⟨_,H.idx (by simpa using a),by simp[Go.Am.BI,AV.cells,List.getD,a]⟩
def fo(F:List Nat)(N:List Bool):List Nat->Nat×Bool
 |[]=>(0,true)
 |x::l=>if N.getD x false=true then (F.getD x 0 ||| (fo F N l).1,(fo F N l).2) else (F.getD x 0,false)
theorem AAt{F l:List Nat}{N:List Bool}{x:Nat}:fo F N (x::l)=if N.getD x false=true then (F.getD x 0 ||| (fo F N l).1,(fo F N l).2) else (F.getD x 0,false):=rfl
theorem yM{F:List Nat}{N:List Bool}(h:Sb F):∀l,(fo F N l).1<2^64
 |[]=>by show 0<2^64;omega
 |x::l=>by
  unfold fo;split
  ·exact Nat.or_lt_two_pow (h x) (yM h l)
  ·exact h x
theorem jF{F:List Nat}{N:List Bool}:∀l,(fo F N l).2=l.all fun x=>N.getD x false
 |[]=>rfl
 |x::l=>by
  unfold fo;split
  ·rename_i h;rw[List.all_cons,h];simpa using jF l
  ·rename_i h;rw[List.all_cons,Bool.not_eq_true]at *;rw[h];rfl
theorem WE{k n:Nat}{u t q:AV}{F l:List Nat}{N:List Bool}{st:St}(V:Rd st.h u n fun i=>.int .u64 ((F.getD i 0:Nat):Int))(Y:Rd st.h t n fun i=>.bool (N.getD i false))(H:Rd st.h q l.length fun i=>.int .i64 ((l.getD i 0:Nat):Int))(y:∀x∈l,x<n)(D:Sb F)(S:l.length<1000000) :
 Ab E (k+1) 149 [u,t,q] st=.ret (.tuple [.int .u64 (((fo F N l).1:Nat):Int),.bool (fo F N l).2],st):=by
 rw[FD (fn:=C.f149) rfl rfl rfl,Ap (by simp)];have goal:((Bc E (Ab E k) C.f149.body (TS.FK [u,t,q] 0 .nil) { st with lo:=st.c }).bind (Al C.f149.results)).to fun x=>x.1=.tuple [.int .u64 (((fo F N l).1:Nat):Int),.bool (fo F N l).2]:=by
  have j:BZ .slice q ⟨st.h,st.c,st.c⟩=some (.int .i64 (l.length:Int),⟨st.h,st.c,st.c⟩):=by simp[BZ,H.len]
  simp[-List.getD_eq_getElem?_getD,C.f149,j];refine M.BG (Df (fun (i:Nat) b d=>i<=l.length/\b.get 0=u/\b.get 1=t/\b.get 11=q/\b.get 12=.int .i64 (l.length:Int)/\b.get 13=.int .i64 (i:Int)/\d=⟨st.h,st.c,st.c⟩/\∃m,m<2^64/\b.get 8=.int .u64 ((m:Nat):Int)/\((m ||| (fo F N (l.drop i)).1),(fo F N (l.drop i)).2)=fo F N l)
   (fun i=>l.length-i) (fun e b d=>d=⟨st.h,st.c,st.c⟩/\((e=.exit 0/\b.get 8=.int .u64 (((fo F N l).1:Nat):Int)/\(fo F N l).2=true)∨(e=.ret/\b.get 6=.int .u64 (((fo F N l).1:Nat):Int)/\b.get 7=.bool (fo F N l).2))) ?step _ 0 _ _ ?_ ?_) ?_
  case step=>
   rintro i b d ⟨hi,K,A,p,g,f,rfl,m,O,z,a⟩;by_cases Bi:i<l.length
   ·have J:=y _ (BH Bi);have R:l.getD i 0=l[i]:=by simp[List.getD,Bi]
    obtain⟨Z,P,v⟩:=H.at_ i Bi ⟨st.h,st.c,st.c⟩ rfl;rw[R]at v;obtain⟨q2,Q,I⟩:=V.at_ _ J ⟨st.h,st.c,st.c⟩ rfl;obtain⟨q3,B,s⟩:=Y.at_ _ J ⟨st.h,st.c,st.c⟩ rfl;have o:=Qs O (D l[i]);have Kc:l.drop i=l[i]::l.drop (i+1):=MP Bi;rw[Kc,AAt]at a;cases hnx:N.getD l[i] false with
    |true=>rw[hnx]at s;rw[AX hnx]at a;simp[-List.getD_eq_getElem?_getD,C.f149L0,K,A,z,p,g,f,Bi,P,v,Q,I,B,s,o,wi i];refine⟨i+1,by omega,by omega,by simp,m ||| F.getD l[i] 0,Nat.or_lt_two_pow O (D _),rfl,?_⟩;rw[←a,Nat.or_assoc]
    |false=>rw[hnx]at s;rw[AJ (by rw[hnx];simp)]at a;simp[-List.getD_eq_getElem?_getD,C.f149L0,K,A,z,p,g,f,Bi,P,v,Q,I,B,s,o,←a]
   ·have:i=l.length:=by omega
    subst this;rw[List.drop_length]at a;have U:fo F N l=(m,true):=by rw[←a];simp[fo]
    simp[-List.getD_eq_getElem?_getD,C.f149L0,z,g,f,U]
  ·exact FX (by show l.length-0<1000000;omega)
  ·exact⟨by omega,by simp,by simp,by simp,by simp,by simp,rfl,0,by omega,by simp,by simp⟩
  ·rintro⟨e,b,d⟩ ⟨rfl,h⟩;rcases h with⟨rfl,h,r⟩|⟨rfl,h,r⟩
   ·simp only at h;simp[h,r,Al,results,Af]
   ·simp only at h r;simp[h,r,Al,results,Af]
 obtain⟨⟨w,W⟩,T,L⟩:=goal;simp only at L;subst L;rw[T];simp only[M.JZ];exact Jk rfl
def RP(g:Ac)(F:List Nat):Prop:=∀s∈g.AB,∀j,(F.getD (g.ix s) 0).testBit j=true->∃hj:j<g.Ae.length,vW g g.Ae[j] s
def Tg(g:Ac)(N:List Bool):Prop:=∀s∈g.AB,(N.getD (g.ix s) false=true↔VT g s)
theorem Yx{g:Ac}{F:List Nat}{N:List Bool}(i:Tg g N)(e:RP g F):∀{l:List Bz},(∀s∈l,s∈g.AB)->∀j,(fo F N (l.map g.ix)).1.testBit j=true->∃a:j<g.Ae.length,XV g g.Ae[j] l
 |[],_,j,h=>by simp[fo]at h
 |x::l,f,j,h=>by
  have d:=f x (by simp);have c:∀s∈l,s∈g.AB:=fun s k=>f s (Cu _ k);rw[Dh]at h;unfold fo at h;split at h
  ·rename_i m;rw[Hw,FO]at h;rcases h with h|h
   ·obtain⟨a,b⟩:=e x d j h;exact⟨a,WU.2 (.inl b)⟩
   ·obtain⟨a,b⟩:=Yx i e c j h;exact⟨a,WU.2 (.inr ⟨(i x d).1 m,b⟩)⟩
  ·obtain⟨a,b⟩:=e x d j h;exact⟨a,WU.2 (.inl b)⟩
theorem SH{g:Ac}{F:List Nat}{N:List Bool}(i:Tg g N){j:Nat}:∀{l:List Bz},(∀s∈l,s∈g.AB)->∀{a b:List Bz} {x:Bz},l=a++x::b->(∀y∈a,VT g y)->(F.getD (g.ix x) 0).testBit j=true->(fo F N (l.map g.ix)).1.testBit j=true
 |[],_,a,b,x,e,_,_=>by simp at e
 |y::l,f,a,b,x,e,h,d=>by
  have c:∀s∈l,s∈g.AB:=fun s k=>f s (Cu _ k);rw[Dh];cases a with
  |nil=>
   simp only[JJ,Lg]at e;obtain⟨rfl,rfl⟩:=e;unfold fo;split
   ·rw[Hw,d];rfl
   ·exact d
  |cons z a=>simp only[Lj,Lg]at e;obtain⟨rfl,rfl⟩:=e;have m:=(i y (f y (by simp))).2 (h y (by simp));unfold fo;rw[AX m,Hw,SH i c rfl (fun q n=>h q (Cu _ n)) d,Bool.or_true]
theorem AAs{g:Ac}{F:List Nat}{N:List Bool}(c:Tg g N){l:List Bz}(b:∀s∈l,s∈g.AB):(fo F N (l.map g.ix)).2=true↔∀y∈l,VT g y:=by
 rw[jF,Fj];constructor
 ·intro h y a;exact (c y (b y a)).1 (h _ (List.mem_map_of_mem a))
 ·intro h x d;obtain⟨y,a,rfl⟩:=BP.1 d;exact (c y (b y a)).2 (h y a)
def UL(g:Ac)(F:List Nat):Prop:=∀s∈g.AB,∀j,(F.getD (g.ix s) 0).testBit j=true↔∃hj:j<g.Ae.length,vW g g.Ae[j] s
theorem yN{g:Ac}{F:List Nat}{N:List Bool}(d:Tg g N)(i:UL g F){l:List Bz}(c:∀s∈l,s∈g.AB)(j:Nat):(fo F N (l.map g.ix)).1.testBit j=true↔∃f:j<g.Ae.length,XV g g.Ae[j] l:=by
 constructor
 ·exact Yx d (fun s k j h=>(i s k j).1 h) c j
 ·rintro⟨f,a,x,b,e,n,m⟩;exact SH d c e n ((i x (c x (by rw[e];simp)) j).2 ⟨f,m⟩)
structure FE (cv nv:AV)(n:Nat)(F:List Nat)(st:St):Prop where
 hb:HB st
 lo:st.lo=0
 c:3<st.c
 o0:AA st.h 0=some (.cells 76 1 [cv] false)
 o1:AA st.h 1=some (.cells 77 1 [nv] false)
 o2:AA st.h 2=some (.cells 200 1 (HV F) false)
 o3:AA st.h 3=some (.cells 78 1 [.AU 2 0 n (some n)] false)
 len:F.length=n
 nw:Sb F
def ABl(g:Ac)(F:List Nat)(N:List Bool)(r:Dw):Nat:=(fo F N (r.right.map g.ix)).1
def prs(g:Ac):List (Nat×Nat):=g.AP.flatMap fun r=>(List.range 64).map fun j=>(g.ix r.left,j)
def WO(g:Ac)(F:List Nat):Nat:=(prs g).countP fun p=>!(F.getD p.1 0).testBit p.2
theorem mU{g:Ac}(b:g.Small):(prs g).length<=768:=by
 have c:=b.many;have:∀R:List Dw,(R.flatMap fun r=>(List.range 64).map fun j=>(g.ix r.left,j)).length=R.length*64:=by
  intro R;induction R with
  |nil=>rfl
  |cons r R a=>rw[Cn,Bd,a,FV,Il];simp;omega
 unfold prs;rw[this];omega
theorem ABA{g:Ac}(a:g.Small)(F:List Nat):WO g F<=768:=DV List.countP_le_length (mU a)
theorem uq{a j:Nat}(c:a<2^64)(h:a.testBit j=true):j<64:=by
 rcases FU j 64 with b|b
 ·exact b
 ·rw[Nat.testBit_lt_two_pow (Bt c (TB (by omega) b))]at h;cases h
theorem AA9{g:Ac}{F b:List Nat}(h:∀x j,(F.getD x 0).testBit j=true->(b.getD x 0).testBit j=true){r:Dw}(f:r∈g.AP){j:Nat}(d:j<64)(i:(F.getD (g.ix r.left) 0).testBit j=false)(e:(b.getD (g.ix r.left) 0).testBit j=true):WO g b<WO g F:=
 WM (a:=(g.ix r.left,j)) (fun x _ c=>by
  cases hb:(F.getD x.1 0).testBit x.2 with
  |true=>rw[h _ _ hb]at c;cases c
  |false=>rfl) (Ka.2 ⟨r,f,BP.2 ⟨j,Gd.2 d,rfl⟩⟩) (by show (!(b.getD (g.ix r.left) 0).testBit j)=false;rw[e];rfl) (by show (!(F.getD (g.ix r.left) 0).testBit j)=true;rw[i];rfl)
def RQ(g:Ac)(F:List Nat)(N:List Bool)(r:Dw):Prop:=∀j,(ABl g F N r).testBit j=true->(F.getD (g.ix r.left) 0).testBit j=true
def kW(F F':List Nat):Prop:=∀x j,(F.getD x 0).testBit j=true->(F'.getD x 0).testBit j=true
section
variable {cv nv:AV}{g:Ac}{N:List Bool}
theorem jI{k:Nat}(Z:g.Small)(a8:g.Ok)(b7:Co nv 1 (Cj N))(c7:N.length=g.AB.length)(hN:Tg g N)(rv:AV)(lr:List AV)(h2:Co rv 3 lr)(h3:lr.length=g.AP.length)(h4:∀j (z:j<g.AP.length),∃w,lr[j]? =some (.agg [.int .i64 (g.ix g.AP[j].left:Nat),w,.int .i64 g.AP[j].level])/\Co w 1 (BI (g.AP[j].right.map g.ix)))(Y:List Nat)(st:St)(H:FE cv nv g.AB.length Y st)(c3:RP g Y)(u:TS)(z0:u.get 0=.AL 0 0)(z1:u.get 1=.AL 3 0)(z2:u.get 2=.AL 1 0)(z4:u.get 4=.bool false)(T:u.get 12=rv)(I:u.get 13=.int .i64 (g.AP.length:Int))(J:u.get 14=.int .i64 ((0:Nat):Int)) :
 (Dm (Bc E (Ab E (k+1)) C.f148L0) E.k u st).to fun x=>x.1=.exit 0/\∃F more,x.2.1.get 4=.bool more/\FE cv nv g.AB.length F x.2.2/\RP g F/\kW Y F /\
  ((more=true/\WO g F<WO g Y)∨(more=false/\∀r∈g.AP,RQ g F N r)):=by
 have b8:=Z.many;refine Cy (fun (i:Nat) V st=>i<=g.AP.length/\V.get 0=.AL 0 0/\V.get 1=.AL 3 0/\V.get 2=.AL 1 0/\V.get 12=rv/\V.get 13=.int .i64 (g.AP.length:Int)/\V.get 14=.int .i64 (i:Int)/\∃F more,V.get 4=.bool more/\FE cv nv g.AB.length F st/\RP g F/\kW Y F /\
  ((more=true/\WO g F<WO g Y)∨(more=false/\F=Y/\∀j (z:j<g.AP.length),j<i->RQ g F N g.AP[j])))
  (fun i=>g.AP.length-i) ?_ _ 0 _ _ ?_ ?_
 ·rintro i V st ⟨hi,z0,z1,z2,T,I,J,F,more,z4,H,hB,a5,hM⟩;by_cases Bi:i<g.AP.length
  ·have b6:i<lr.length:=by omega
   obtain⟨w,e1,e2⟩:=h4 i Bi;rw[Bu b6,Ct]at e1;have f:=BH Bi;have c9:=(Z.AP _ f).right;obtain⟨h,c,lo⟩:=st;have b9:lo=0:=H.lo;subst b9;have d0:3<c:=H.c;have c5:∀p x,(p,x)∈h->p<c:=H.hb;obtain⟨d,D⟩:∃s,s=g.ix g.AP[i].left:=⟨_,rfl⟩;have c2:d<g.AB.length:=D▸vU (Ac.Iu f);rw[←D]at e1;obtain⟨W,K⟩:∃W:List AV,W=[.int .i64 (d:Int),w,.int .i64 g.AP[i].level]:=⟨_,rfl⟩;obtain⟨o,Q⟩:∃o:Aa,o=(c,BJ.cells 218 3 W false)::h:=⟨_,rfl⟩;have b3:HB ⟨o,c+1,0⟩:=Q▸HB.cons (h:=h) (c:=c) (lo:=0) H.hb (by omega) (by omega);have fr:∀p,p<c->AA o p=AA h p:=fun p hp=>by rw[Q,Dt hp]
   have B:FE cv nv g.AB.length F ⟨o,c+1,0⟩:=⟨b3,rfl,by show 3<c+1;omega,(fr 0 (by omega)).trans H.o0,(fr 1 (by omega)).trans H.o1,(fr 2 (by omega)).trans H.o2,(fr 3 (by omega)).trans H.o3,H.len,H.nw⟩;have a0:AY 3 rv (.int .i64 (i:Int)) ⟨h,c+1,0⟩=some (.CB lr[i].cells,⟨h,c+1,0⟩):=h2.idx b6;have O:lr[i].cells=W:=by rw[e1,K];rfl
   rw[O]at a0;have hn:BA c (.cells 218 3 [.int .i64 0,.AO,.int .i64 0] false) ⟨h,c+1,0⟩=some ⟨(c,.cells 218 3 [.int .i64 0,.AO,.int .i64 0] false)::h,c+1,0⟩:=Bb c5;have a2:=Ic (h:=h) (c:=c) (c':=c+1) (lo:=0) (ty:=218) (n:=3) (zs:=[.int .i64 0,.AO,.int .i64 0]) (vs:=W) (by omega) (by rw[K];rfl) rfl;rw[←Q]at a2;have U:Ak h (.CB W) 3=some W:=by rw[K];rfl
   have fc:AA o c=some (.cells 218 3 W false):=by rw[Q,AZ,AX rfl]
   have a7:AQ o (.AL c 0)=some (.int .i64 (d:Int)):=by rw[AR fc,K];rfl
   have b4:AQ o (.AL c 1)=some w:=by rw[AR fc,K];rfl
   have r1:AQ o (.AL 1 0)=some nv:=by rw[AR B.o1];rfl
   have r3:AQ o (.AL 3 0)=some (.AU 2 0 g.AB.length (some g.AB.length)):=by rw[AR B.o3];rfl
   have a6:=PZ (st:=⟨o,c+1,0⟩) (n:=g.AB.length) (cap:=some g.AB.length) B.o2 c2;have c1:=B.len;have rA:AQ o (.AL 2 d)=some (.int .u64 ((F.getD d 0:Nat):Int)):=by rw[AR B.o2,masks_get? _ _ (by omega)]
   have c6:Rd o nv g.AB.length fun i=>.bool (N.getD i false):=c7▸Rd.Cj b7;have A:=WE (k:=k) (n:=g.AB.length) (st:=⟨o,c+1,0⟩) (F:=F) (N:=N) (l:=g.AP[i].right.map g.ix) (Rd.ACj (cap:=some g.AB.length) B.o2 (by omega)) c6 (Rd.BI e2) (fun x q=>by
    obtain⟨y,hy,rfl⟩:=BP.1 q
    exact vU (Ac.NF a8 f hy)) H.nw (by simp;omega)
   obtain⟨m,hm⟩:∃m,m=ABl g F N g.AP[i]:=⟨_,rfl⟩;have a1:(fo F N (g.AP[i].right.map g.ix)).1=m:=hm.symm;rw[a1]at A;have t:m<2^64:=by rw[←a1];exact yM H.nw _
   have L:=Yh (a:=m) (b:=F.getD d 0);have c4:=Qs (H.nw d) t;have a4:∀F':List Nat,F'=F->(∀j (z:j<g.AP.length),j<i->RQ g F N g.AP[j])->RQ g F N g.AP[i]->∀j (z:j<g.AP.length),j<i+1->RQ g F N g.AP[j]:=fun _ _ b2 a3 j z d1=>by
    rcases FU j i with h|h
    ·exact b2 j z h
    ·have:j=i:=by omega
     subst this;exact a3
   by_cases hz:Vq m (F.getD d 0)=0
   ·rw[hz]at L;simp[-Bool.exists_bool,-List.getD_eq_getElem?_getD,C.f148L0,z0,z1,z2,z4,T,I,J,Bi,a0,-Cw,U,hn,a2,r1,r3,a7,b4,A,a6,rA,L,wi i];refine⟨i+1,by omega,by omega,by simp,F,B,hB,a5,?_⟩;rcases hM with⟨R,S⟩|⟨R,S,m3⟩
    ·exact .inl ⟨R,S⟩
    ·refine .inr ⟨R,S,a4 F rfl m3 fun j z=>?_⟩;rw[←hm]at z;rw[←D];exact (Sm t (H.nw d)).1 hz j z
   ·have d2:¬((Vq m (F.getD d 0):Nat):Int)=0:=by omega
    have c0:(((Vq m (F.getD d 0):Nat):Int) !=0)=true:=by simpa using hz
    have s1:=DZ (st:=⟨o,c+1,0⟩) (off:=d) (v:=.int .u64 ((F.getD d 0 ||| m:Nat):Int)) B.o2 (CZ _) (by simp;omega) rfl rfl;rw[aR]at s1;simp[-Bool.exists_bool,-List.getD_eq_getElem?_getD,C.f148L0,z0,z1,z2,T,I,J,Bi,a0,-Cw,U,hn,a2,r1,r3,a7,b4,A,a6,rA,L,c0,c4,s1,wi i];have P:d<F.length:=by omega
    have b0:kW F (F.set d (F.getD d 0 ||| m)):=fun x j q=>by
     rw[Uf P];split
     ·rename_i e;subst e;rw[Hw,q];rfl
     ·exact q
    have Fr:∀p,p≠2->AA (Ah o 2 (.cells 200 1 (HV (F.set d (F.getD d 0 ||| m))) false)) p=AA o p:=fun p hp=>by rw[Ag B.o2,AJ (Aj hp)]
    refine⟨i+1,by omega,by omega,by simp,F.set d (F.getD d 0 ||| m),⟨HB.Ah (st:=⟨o,c+1,0⟩) b3,rfl,by show 3<c+1;omega,(Fr 0 (by omega)).trans B.o0,(Fr 1 (by omega)).trans B.o1,?_,(Fr 3 (by omega)).trans B.o3,by simpa using B.len,H.nw.set P (Nat.or_lt_two_pow (H.nw d) t)⟩,fun s Z j q=>?_,fun x j q=>b0 x j (a5 x j q),?_⟩
    ·show AA (Ah o 2 _) 2=_;rw[Ag B.o2,AX rfl]
    ·rw[Uf P]at q;split at q
     ·rename_i e;have es:s=g.AP[i].left:=by obtain⟨q1,q2⟩:=Ja Z;obtain⟨q3,q4⟩:=Ja (Ac.Iu f);have e':Lr s g.AB=Lr g.AP[i].left g.AB:=e.trans D;rw[←q2,←q4];simp only[e']
      rw[Hw,FO]at q;rcases q with q|q
      ·rw[←e]at q;exact hB s Z j q
      ·rw[←a1]at q;obtain⟨z,hb⟩:=Yx hN hB (fun s Z=>Ac.NF a8 f Z) j q;exact⟨z,es▸vW.ofL f hb⟩
     ·exact hB s Z j q
    ·have:∃j,m.testBit j=true/\(F.getD d 0).testBit j=false:=by
      refine Qb fun b1=>hz ((Sm t (H.nw d)).2 fun j z=>?_);cases hb:(F.getD d 0).testBit j with
      |true=>rfl
      |false=>exact absurd ⟨j,z,hb⟩ b1
     obtain⟨j,a9,c8⟩:=this;have b5:WO g (F.set d (F.getD d 0 ||| m))<WO g F:=AA9 b0 f (uq t a9) (by rw[←D];exact c8) (by rw[←D,Uf P,AX rfl,Hw,a9,Bool.or_true]);rcases hM with⟨R,S⟩|⟨R,S,m3⟩
     ·omega
     ·rw[←S];exact b5
  ·have:i=g.AP.length:=by omega
   subst this;simp[-Bool.exists_bool,-List.getD_eq_getElem?_getD,C.f148L0,z4,I,J];refine⟨F,H,hB,a5,?_⟩;rcases hM with⟨R,S⟩|⟨R,S,m3⟩
   ·exact .inl ⟨R,S⟩
   ·refine .inr ⟨R,fun r hr=>?_⟩;obtain⟨j,z,rfl⟩:=Du hr;exact m3 j z z
 ·exact FX (by show g.AP.length-0<1000000;omega)
 ·exact⟨by omega,z0,z1,z2,T,I,J,Y,false,z4,H,c3,fun _ _ h=>h,.inr ⟨rfl,rfl,fun j _ h=>by omega⟩⟩
end
section
variable {cv nv:AV}{g:Ac}{N:List Bool}
theorem nk{k:Nat}(v:Gu cv g)(B:g.Small)(j:g.Ok)(c:Co nv 1 (Cj N))(f:N.length=g.AB.length)(I:Tg g N)(a:List Nat)(st:St)(H:FE cv nv g.AB.length a st)(d:RP g a) :
 (Ab E (k+2) 148 [.AL 0 0,.AL 3 0,.AL 1 0] st).to fun x=>∃F more,x.1=.bool more/\FE cv nv g.AB.length F x.2/\RP g F/\kW a F /\
  ((more=true/\WO g F<WO g a)∨(more=false/\∀r∈g.AP,RQ g F N r)):=by
 obtain⟨Q,n,R,J,T,u,L,m,s,z,P,S,O⟩:=v.out;rw[Av (fn:=C.f148) rfl rfl rfl,Ap (by simp)];have q:AQ st.h (.AL 0 0)=some cv:=by rw[AR H.o0];rfl
 have l:∀b:St,BZ .slice n b=some (.int .i64 (g.AP.length:Int),b):=fun b=>by have:=m.len (st:=b);rw[this,s]
 rw[u]at q;simp[-Bool.exists_bool,-List.getD_eq_getElem?_getD,C.f148,q,l];refine M.BG (jI (k:=k) B j c f I n J m s z a st H d _ (by simp) (by simp) (by simp) (by simp) (by simp) (by simp) (by simp)) fun x D=>?_;obtain⟨e,A,y⟩:=x;obtain⟨o,F,more,p,t,K,i,w⟩:=D;simp only at o p t;subst o;simp[-Bool.exists_bool,-List.getD_eq_getElem?_getD,p,Al,results,Af];exact⟨F,t,K,i,w⟩
theorem dY(c:g.Ok)(t:Tg g N){F:List Nat}(w:RP g F)(u:∀i,i<g.Ae.length->(F.getD i 0).testBit i=true)(z:∀r∈g.AP,RQ g F N r):UL g F:=by
 intro s m j;refine⟨w s m j,?_⟩;rintro⟨p,o⟩;obtain⟨l,f⟩:∃l,l=g.Ae[j]:=⟨_,rfl⟩;rw[←f]at o;induction o with
 |kind h=>
  have d:j<g.AB.length:=by unfold Ac.AB;rw[Bd];omega
  have e:g.AB[j]'d=g.Ae[j]:=IX p;have q:=Uo (Ac.Rv c) d;rw[e,←f]at q;show (F.getD (Lr l g.AB) 0).testBit j=true;rw[q];exact u j p
 |@FJ r a b x k e y A v=>refine z r k j ?_;have n:x∈g.AB:=Ac.NF c k (by rw[e];simp);exact SH t (fun s m=>Ac.NF c k m) e y (v n)
theorem jJ{k:Nat}(O:Gu cv g)(z:g.Small)(m:g.Ok)(s:Co nv 1 (Cj N))(w:N.length=g.AB.length)(L:Tg g N)(c:List Nat)(a:St)(H:FE cv nv g.AB.length c a)(u:RP g c)(Q:∀i,i<g.Ae.length->(c.getD i 0).testBit i=true) :
 (Ab E (k+3) 104 [.fn (.func 148) [] [.AL 0 0,.AL 3 0,.AL 1 0]] a).to fun x=>∃F,FE cv nv g.AB.length F x.2/\UL g F:=by
 have y:=z.many;have I:=ABA z c;rw[Av (fn:=C.f104) rfl rfl rfl,Ap (by simp)];simp[-Bool.exists_bool,-List.getD_eq_getElem?_getD,C.f104];refine M.BG (Df (fun (n:Nat) p a=>p.get 0=.fn (.func 148) [] [.AL 0 0,.AL 3 0,.AL 1 0]/\∃F,FE cv nv g.AB.length F a/\RP g F/\kW c F/\WO g F<n)
  (fun n=>n) (fun e p a=>e=.exit 0/\∃F,FE cv nv g.AB.length F a/\UL g F) ?step _ 769 _ _ ?_ ?_) ?_
 case step=>
  rintro n p a ⟨K,F,H,D,l,q⟩;have pass:=nk (k:=k) O z m s w L F a H D;simp[-Bool.exists_bool,-List.getD_eq_getElem?_getD,C.f104L0,K];refine M.BG pass fun x B=>?_;obtain⟨v,t⟩:=x;obtain⟨J,A,o,d,f,b,P⟩:=B;simp only at o d;subst o;rcases P with⟨rfl,r⟩|⟨rfl,r⟩
  ·simp[-Bool.exists_bool,-List.getD_eq_getElem?_getD,K];exact⟨WO g F,q,⟨J,d,f,fun x j B=>b x j (l x j B),r⟩⟩
  ·simp[-Bool.exists_bool,-List.getD_eq_getElem?_getD];exact⟨J,d,dY m L f (fun i R=>b _ _ (l _ _ (Q i R))) r⟩
 ·exact FX (by show 769<1000000;omega)
 ·exact⟨by simp,c,H,u,fun _ _ h=>h,by omega⟩
 ·rintro⟨e,p,t⟩ ⟨o,F,d,D⟩;simp only at o d;subst o;simp[-List.getD_eq_getElem?_getD,Al,results,Af];exact⟨F,d,D⟩
def MW(m n i:Nat):List Nat:=(List.range n).map fun s=>if s<i/\s<m then 2^s else 0
theorem tq{m n i s:Nat}(h:s<n):(MW m n i).getD s 0=if s<i/\s<m then 2^s else 0:=by simp[MW,List.getD,h]
theorem aX{m n i:Nat}(h:i<m)(c:m<=n):(MW m n i).set i (2^i)=MW m n (i+1):=by
 apply List.ext_getElem
 ·simp[MW]
 ·intro s d a;have b:s<n:=by simpa [MW]using a
  rw[List.getElem_set];simp only[MW,List.getElem_map,List.getElem_range];by_cases e:i=s
  ·subst e;rw[AX rfl,AX (by omega)]
  ·rw[AJ e];by_cases h3:s<i/\s<m
   ·rw[AX h3,AX (by omega)]
   ·rw[AJ h3,AJ (by omega)]
theorem xD{o n:Nat}(b:n<=1000):Dy o 200 1 8 [.int .u64 0] (.int .i64 (n:Int)) (.int .i64 (n:Int))=some (.AU o 0 n (some n),.cells 200 1 (HV (List.replicate n 0)) false):=by
 have a:n*8<=room/\n<=room:=by unfold room;constructor<;>omega
 simp[Dy,Bg,ble_eq,blt_eq,a.1,a.2,Iq,HV]
theorem YW(c:Nat)(l:List Nat):AV.Dq c (HV l)=true:=Lv fun x a=>by simp only[HV,BP]at a;obtain⟨n,_,rfl⟩:=a;rfl
theorem Co.AHH{v:AV}{l:List Nat}(h:Co v 1 (HV l))(c:Nat):v.CY c=true:=by
 rcases h.out with⟨rfl,_⟩|⟨t,rfl⟩
 ·rfl
 ·exact YW c _
theorem lW{h:Aa}{A n d:Nat}{B:List Nat}(m:Nat)(a:AA h A=some (.cells d 1 (HV B) false))(b:B.length=n):Ce 0 h (m+2) (.AU A 0 n (some n))=some (.list true 1 (HV B)):=by
 have c:DD (Ce 0 h (m+1)) (((HV B).drop 0).take (n*1))=some (HV B):=by rw[FB,Fe,Gx (by simp;omega)];exact Hu (YW 0 _)
 rw[Gh (CZ _) a (by omega) (by simp;omega) c];have:rows 1 n (HV B)=HV B:=by have:=Jw (HV B);rwa [bE,b]at this
 simp[this]
theorem nu{n:Nat}(z:g.Small)(st:St)(H:FE cv nv g.AB.length (MW g.Ae.length g.AB.length 0) st)(a:TS)(t:a.get 2=.AL 0 0)(r:a.get 3=.AL 1 0)(q:a.get 5=.AL 3 0)(d:a.get 16=.int .i64 (g.Ae.length:Int))(b:a.get 17=.int .i64 ((0:Nat):Int)) :
 (Dm (Bc E (Ab E n) C.f95L0) E.k a st).to fun x=>x.1=.exit 0/\x.2.1.get 2=.AL 0 0/\x.2.1.get 3=.AL 1 0/\x.2.1.get 5=.AL 3 0/\FE cv nv g.AB.length (MW g.Ae.length g.AB.length g.Ae.length) x.2.2:=by
 have B:=z.Ae;have f:g.Ae.length<=g.AB.length:=by unfold Ac.AB;rw[Bd];omega
 refine Cy (fun (i:Nat) e st=>i<=g.Ae.length/\e.get 2=.AL 0 0/\e.get 3=.AL 1 0/\e.get 5=.AL 3 0/\e.get 16=.int .i64 (g.Ae.length:Int)/\e.get 17=.int .i64 (i:Int)/\FE cv nv g.AB.length (MW g.Ae.length g.AB.length i) st)
  (fun i=>g.Ae.length-i) ?_ _ 0 _ _ ?_ ?_
 ·rintro i e st ⟨A,t,r,q,d,b,H⟩;by_cases Bi:i<g.Ae.length
  ·have w:AQ st.h (.AL 3 0)=some (.AU 2 0 g.AB.length (some g.AB.length)):=by rw[AR H.o3];rfl
   have y:=PZ (st:=st) (n:=g.AB.length) (cap:=some g.AB.length) H.o2 (show i<g.AB.length by omega);have o:=xK (s:=i) (by omega);have u:=DZ (st:=st) (off:=i) (v:=.int .u64 ((2^i:Nat):Int)) H.o2 (by rw[H.lo];omega) (by simp[MW];omega) rfl rfl;rw[aR,aX Bi f]at u;have j:(2:Nat)^i<2^64:=MN (by omega) (by omega);have l:=aX (m:=g.Ae.length) (n:=g.AB.length) Bi f;generalize (2:Nat)^i=p at o u j l;simp[-List.getD_eq_getElem?_getD,C.f95L0,t,r,q,d,b,Bi,w,o,y,u,wi i];refine⟨i+1,by omega,by omega,by simp,HB.Ah H.hb,H.lo,H.c,?_,?_,?_,?_,by simp[MW],?_⟩
   ·show AA (Ah st.h 2 _) 0=_;rw[Ag H.o2,AJ (by omega)];exact H.o0
   ·show AA (Ah st.h 2 _) 1=_;rw[Ag H.o2,AJ (by omega)];exact H.o1
   ·show AA (Ah st.h 2 _) 2=_;rw[Ag H.o2,AX rfl]
   ·show AA (Ah st.h 2 _) 3=_;rw[Ag H.o2,AJ (by omega)];exact H.o3
   ·rw[←l];exact H.nw.set (by simp[MW];omega) j
  ·have:i=g.Ae.length:=by omega
   subst this;simp[-List.getD_eq_getElem?_getD,C.f95L0,t,r,q,d,b];exact H
 ·exact FX (by show g.Ae.length-0<1000000;omega)
 ·exact⟨by omega,t,r,q,d,b,H⟩
theorem Zy{k:Nat}{st:St}(hC:Gu cv g)(hs:g.Small)(Y:g.Ok)(z:Co nv 1 (Cj N))(a4:N.length=g.AB.length)(hN:Tg g N) :
 ∃w F,Ab E (k+4) 95 [cv,nv] st=.ret (w,st)/\Co w 1 (HV F)/\F.length=g.AB.length/\Sb F/\UL g F:=by
 have R:=hC.Ow 0;have a8:=Ac.JP hs;have B:=z.wo 0;have a6:g.Ae.length<=g.AB.length:=by unfold Ac.AB;rw[Bd];omega
 obtain⟨nn,rv,ov,lr,a7,e0,h1,_⟩:=hC.out;rw[GH (fn:=C.f95) rfl rfl rfl (by simp[AV.Dq,R,B]),Ap (by simp)];have U:∀S:St,BZ .slice nn S=some (.int .i64 (g.AB.length:Int),S):=fun S=>by have:=h1.len (st:=S);simpa using this
 have K:=xD (o:=2) (n:=g.AB.length) (by omega);have Z:Ls 0 76 1 cv=some (.AL 0 0,.cells 76 1 [cv] false):=by rw[e0];rfl
 have u:nv.isTuple=false/\nv.cells=[nv]:=by rcases z.out with⟨rfl,_⟩|⟨t,rfl⟩<;>exact⟨rfl,rfl⟩
 have J:Ls 1 77 1 nv=some (.AL 1 0,.cells 77 1 [nv] false):=by simp[Ls,u.1,u.2]
 have n1:BA 0 (.cells 76 1 [cv] false) ⟨[],2,0⟩=some ⟨[(0,.cells 76 1 [cv] false)],2,0⟩:=rfl;obtain⟨a,q⟩:∃h:Aa,h=[(1,BJ.cells 77 1 [nv] false),(0,.cells 76 1 [cv] false)]:=⟨_,rfl⟩;have n2:BA 1 (.cells 77 1 [nv] false) ⟨[(0,.cells 76 1 [cv] false)],2,0⟩=some ⟨a,2,0⟩:=by rw[q];rfl
 have L:HB ⟨a,2,0⟩:=fun p x hp=>by rw[q]at hp;show p<2;simp only[BK,Ju,Jp]at hp;rcases hp with e|e<;>cases e<;>omega
 have f0:AA a 0=some (.cells 76 1 [cv] false):=by rw[q];rfl
 have f1:AA a 1=some (.cells 77 1 [nv] false):=by rw[q];rfl
 have r0:AQ a (.AL 0 0)=some cv:=by rw[AR f0];rfl
 obtain⟨T,r⟩:∃F:List Nat,F=List.replicate g.AB.length 0:=⟨_,rfl⟩;rw[←r]at K;have n3:BA 2 (.cells 200 1 (HV T) false) ⟨a,4,0⟩=some ⟨(2,.cells 200 1 (HV T) false)::a,4,0⟩:=Bb L;obtain⟨f,l⟩:∃h:Aa,h=(2,BJ.cells 200 1 (HV T) false)::a:=⟨_,rfl⟩;rw[←l]at n3;have O:HB ⟨f,3,0⟩:=l▸HB.cons (h:=a) (c:=2) (lo:=0) L (by omega) (by omega);have n4:BA 3 (.cells 78 1 [.AO] false) ⟨f,4,0⟩=some ⟨(3,.cells 78 1 [.AO] false)::f,4,0⟩:=Bb O;obtain⟨b,d⟩:∃h:Aa,h=(3,BJ.cells 78 1 [.AU 2 0 g.AB.length (some g.AB.length)] false)::f:=⟨_,rfl⟩;have s4:BM 1 (.AL 3 0) (.AU 2 0 g.AB.length (some g.AB.length)) ⟨(3,.cells 78 1 [.AO] false)::f,4,0⟩=some (.undef,⟨b,4,0⟩):=by rw[DZ (cs:=[.AO]) (ty:=78) (sz:=1) (ext:=false) (by rw[AZ,AX rfl]) (by show 0<=3;omega) (by simp) rfl rfl,d];simp[Ah]
 have a5:HB ⟨b,4,0⟩:=d▸HB.cons (h:=f) (c:=3) (lo:=0) O (by omega) (by omega);have a3:MW g.Ae.length g.AB.length 0=T:=by
  rw[r];apply List.ext_getElem
  ·simp[MW]
  ·intro s _ _;simp[MW]
 have Q:FE cv nv g.AB.length (MW g.Ae.length g.AB.length 0) ⟨b,4,0⟩:=by
  rw[a3];refine⟨a5,rfl,by show 3<4;omega,?_,?_,?_,?_,by rw[r];simp,fun x=>?_⟩
  ·show AA b 0=_;rw[d,Dt (by omega),l,Dt (by omega)];exact f0
  ·show AA b 1=_;rw[d,Dt (by omega),l,Dt (by omega)];exact f1
  ·show AA b 2=_;rw[d,Dt (by omega),l,AZ,AX rfl]
  ·show AA b 3=_;rw[d,AZ,AX rfl]
  ·rw[r];simp only[List.getD,NW];split<;>simp
 have a2:AQ b (.AL 0 0)=some cv:=by rw[AR Q.o0];rfl
 have goal:((Bc E (Ab E (k+3)) C.f95.body (TS.FK [cv,nv] 0 .nil) ⟨[],0,0⟩).bind (Al C.f95.results)).to fun x=>x.1=.AU 2 0 g.AB.length (some g.AB.length)/\∃F,FE cv nv g.AB.length F x.2/\UL g F:=by
  have a1:=e0;subst a1;simp[-List.getD_eq_getElem?_getD,C.f95,Z,J,n1,n2,r0,U,K,n3,n4,s4,a2];refine M.BG (nu (n:=k+3) hs _ Q _ (by simp) (by simp) (by simp) (by simp) (by simp)) fun x W=>?_;obtain⟨e,a9,P⟩:=x;obtain⟨ee,g2,g3,g5,H1⟩:=W;simp only at ee g2 g3 g5 H1;subst ee;have y:∀s,s<g.AB.length->(MW g.Ae.length g.AB.length g.Ae.length).getD s 0=if s<g.Ae.length then 2^s else 0:=fun s m=>by rw[tq m];simp
  have V:=jJ (k:=k) hC hs Y z a4 hN _ P H1 (fun s m j H=>by
   rw[y _ (vU m)]at H
   split at H
   ·rename_i I
    rw[Nat.testBit_two_pow]at H
    have ej:g.ix s=j:=QT H
    have D:j<g.Ae.length:=by omega
    refine⟨D,?_⟩
    obtain⟨q1,q2⟩:=Ja m
    have q3:g.AB[Lr s g.AB]'q1=g.Ae[j]:=by
     have:g.AB[Lr s g.AB]'q1=g.Ae[Lr s g.AB]'I:=IX I
     rw[this];simp only[←ej];rfl
    rw[q2]at q3
    rw[q3]
    exact .kind (BH D)
   ·simp at H) (fun i hi=>by
   rw[y i (by omega),AX hi,Nat.testBit_two_pow_self])
  simp[-List.getD_eq_getElem?_getD,g2,g3,g5];refine M.BG V fun x W=>?_;obtain⟨v,a0⟩:=x;obtain⟨F,H2,hE⟩:=W;simp only at H2;have A:AQ a0.h (.AL 3 0)=some (.AU 2 0 g.AB.length (some g.AB.length)):=by rw[AR H2.o3];rfl
  simp[-List.getD_eq_getElem?_getD,A,Al,results,Af];exact⟨F,H2,hE⟩
 obtain⟨⟨v,P⟩,r1,r2,F,A,r4⟩:=goal;simp only at r2 A;subst r2;refine⟨.list true 1 (HV F),F,?_,⟨.inr ⟨_,rfl⟩⟩,A.len,A.nw,r4⟩;rw[r1];simp[BU,Ck,lW 62 A.o2 A.len]
end
end Go.Am
