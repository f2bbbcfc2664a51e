/- A part of tablesStay. -/
import Derived.Test.YthnghmpbgomacaaGreatDoorW3
set_option maxHeartbeats 1000000
namespace Go.Am
open Go
theorem Co.cut{v:AV}{b i:Nat}{a:List AV}{st:St}(h:Co v b a)(c:i<=a.length) :
 ∃w,DW b false true false [v,.int .i64 (i:Int)] st=some (w,st)/\Co w b (a.take i):=by
 rcases h.out with⟨rfl,rfl⟩|⟨t,rfl⟩
 ·have:i=0:=by simpa using c
  subst this;exact⟨.AO,rfl,⟨.inl ⟨rfl,rfl⟩⟩⟩
 ·refine⟨.list (t&&Nat.beq i a.length) b (a.take i),?_,⟨.inr ⟨_,rfl⟩⟩⟩;simp[DW,Gi,Bg,GK,beq_eq,Sg,ble_eq,c]
theorem HB.cons{h:Aa}{c lo b p a:Nat}{x:BJ}(i:HB ⟨h,c,lo⟩)(d:p<b)(j:c<=b):HB ⟨(p,x)::h,b,a⟩:=by
 intro q y g;rcases BK.1 g with e|f
 ·cases e;exact d
 ·exact Bt (i q y f) j
theorem Ic{h:Aa}{c c' lo ty n:Nat}{zs vs:List AV}(a:lo<=c)(d:vs.length=n)(b:zs.length=n) :
 BM n (.AL c 0) (.agg vs) ⟨(c,.cells ty n zs false)::h,c',lo⟩=some (.undef,⟨(c,.cells ty n vs false)::h,c',lo⟩):=by
 rw[KA (cs:=zs) (ty:=ty) (sz:=n) (ext:=false) (by rw[AZ,AX rfl]) a d b];simp[Ah]
structure FS (gs:List AV)(st:St):Prop where
 hb:HB st
 g0:AA st.h 0=some (.cells 29 3 gs false)
 c0:0<st.c
 lo:st.lo=0
def Ac.Pe(g:Ac):Int:=if 60<g.Ae.length then 2 else if g.JR≠0 then g.JR else if g.AP.length=0 then 8 else if 100<g.AP.length then 2 else g.fault
theorem Ac.aj{g:Ac}(h:g.Ae.length<=60)(a:g.AP.length<=100):g.Pe=g.fault:=by
 unfold Ac.Pe;rw[AJ (by omega)];by_cases h1:g.JR≠0
 ·rw[AX h1];unfold Ac.fault;rw[AX h1]
 ·rw[AJ h1];by_cases h2:g.AP.length=0
  ·rw[AX h2];unfold Ac.fault;rw[AJ h1,AX h2]
  ·rw[AJ h2,AJ (by omega)]
theorem uH{k:Nat}{x l u:Int}{st:St}:Ab E (k+1) 144 [.int .i64 x,.int .i64 l,.int .i64 u] st=.ret (.bool (decide (l<=x/\x<=u)),st):=by
 rw[Av (fn:=C.f144) rfl rfl rfl,Ap (by simp)];by_cases h:l<=x
 ·by_cases h2:x<=u
  ·simp[C.f144,Cm,h,h2,Al,results,Af]
  ·simp[C.f144,Cm,h,h2,Al,results,Af]
 ·simp[C.f144,Da,h,Al,results,Af]
theorem bU{k q:Nat}{st:St}{la e:Bz}{a j:AV}{f l:List Bz}{na z:Int}(y:HB st)(B:q<st.c)(u:AA st.h q=some (.cells 63 3 [.str e,j,.int .i64 z] false))(g:f.length<1000000)(v:∀h:Aa,(∀p,p<st.c->AA h p=AA st.h p)->Reads h a f)(A:∀h:Aa,(∀p,p<st.c->AA h p=AA st.h p)->Reads h j l) :
 Ab E (k+2) 145 [.agg [.str la,a,.int .i64 na],.AL q 0] st=.ret (.bool (decide (la=e/\f=l)),st):=by
 rw[FD (fn:=C.f145) rfl rfl rfl,Ap (by simp)];have d:∀p x,(p,x)∈st.h->p<st.c:=y;have b:∀p,p<st.c->AA ((st.c,BJ.cells 63 3 [.str la,a,.int .i64 na] false)::st.h) p=AA st.h p:=fun p F=>by rw[AZ,AJ (by omega)]
 have o:AA ((st.c,BJ.cells 63 3 [.str la,a,.int .i64 na] false)::st.h) st.c=some (.cells 63 3 [.str la,a,.int .i64 na] false):=by rw[AZ,AX rfl]
 have n:=(b q B).trans u;have r:AQ ((st.c,BJ.cells 63 3 [.str la,a,.int .i64 na] false)::st.h) (.AL st.c 0)=some (.str la):=by rw[AR o];rfl
 have m:AQ ((st.c,BJ.cells 63 3 [.str la,a,.int .i64 na] false)::st.h) (.AL st.c 1)=some a:=by rw[AR o];rfl
 have s:AQ ((st.c,BJ.cells 63 3 [.str la,a,.int .i64 na] false)::st.h) (.AL q 0)=some (.str e):=by rw[AR n];rfl
 have t:AQ ((st.c,BJ.cells 63 3 [.str la,a,.int .i64 na] false)::st.h) (.AL q 1)=some j:=by rw[AR n];rfl
 have i:=fun (w D:Nat)=>Sv (k:=k) (st:=⟨(st.c,.cells 63 3 [.str la,a,.int .i64 na] false)::st.h,w,D⟩) (v _ b) (A _ b) g;by_cases h:la=e
 ·subst h;simp[C.f145,Ls,AV.isTuple,AV.cells,Bb d,RH,r,m,s,t,i,Al,results,Af]
 ·simp[C.f145,Ls,AV.isTuple,AV.cells,Bb d,RH,r,m,s,t,h,Hy h,Al,results,Af]
theorem dI{k n s:Nat}{w:AV}{a b:List AV}{D:Nat->Bz}{p:Nat->Bool}{d:St}(m:CV w=some n)(L:n<1000000)(v:∀i,i<n->∃q,AY 1 w (.int .i64 (i:Int)) d=some (q,d)/\AQ d.h q=some (.str (D i)))(g:∀i,i<n->Ab E k s (a++([.str (D i)]++b)) d=.ret (.bool (p i),d)) :
 ∃r:Int,Ab E (k+1) 146 [w,.fn (.func s) a b] d=.ret (.int .i64 r,d)/\-1<=r/\(0<=r↔∃i,i<n/\p i=true):=by
 have main:(Gt E (Ab E k) C.f146 [w,.fn (.func s) a b] d).to fun x=>∃r:Int,x=(.int .i64 r,d)/\-1<=r/\(0<=r↔∃i,i<n/\p i=true):=by
  rw[Ap (by simp)];simp[C.f146,BZ,m];refine M.BG (Df (fun (i:Nat) f c=>c=d/\i<=n/\f.get 0=w/\f.get 1=.fn (.func s) a b/\f.get 7=.int .i64 (n:Int)/\f.get 8=.int .i64 (i:Int)/\∀j,j<i->p j=false)
   (fun i=>n-i) (fun e f c=>c=d/\((e=.exit 0/\∀j,j<n->p j=false)∨(e=.ret/\∃i:Nat,i<n/\p i=true/\f.get 4=.int .i64 (i:Int)))) ?step _ 0 _ _ ?_ ?_) ?_
  case step=>
   rintro i f c ⟨rfl,u,B,t,y,z,F⟩;by_cases Bi:i<n
   ·obtain⟨q,H,A⟩:=v i Bi;have o:=g i Bi;simp only[List.singleton_append]at o;cases l:p i with
    |true=>rw[l]at o;simp[C.f146L0,B,t,y,z,Bi,H,A,o];exact⟨i,Bi,l,rfl⟩
    |false=>
     rw[l]at o;simp[C.f146L0,B,t,y,z,Bi,H,A,o,wi i];refine⟨i+1,by omega,by omega,by simp,fun j K=>?_⟩;by_cases e:j=i
     ·subst e;exact l
     ·exact F j (by omega)
   ·have:i=n:=by omega
    subst this;simp[C.f146L0,y,z];exact F
  ·exact FX (by show n-0<1000000;omega)
  ·simp
  ·rintro⟨e,f,c⟩ ⟨rfl,h⟩;rcases h with⟨rfl,h⟩|⟨rfl,i,u,l,J⟩
   ·simp[Al,results,Af];intro i u;simp[h i u]
   ·simp[J,Al,results,Af];exact⟨i,u,l⟩
 rw[Av (fn:=C.f146) rfl rfl rfl];obtain⟨x,t,r,rfl,I⟩:=main;exact⟨r,t,I⟩
theorem XQ{k n fc:Nat}{w:AV}{a b:List AV}{el:Nat->Bz}{p:Nat->Bool}{st:St}(d:CV w=some n)(g:n<1000000)(e:∀i,i<n->∃q,AY 1 w (.int .i64 (i:Int)) st=some (q,st)/\AQ st.h q=some (.str (el i)))(c:∀i,i<n->Ab E k fc (a++([.str (el i)]++b)) st=.ret (.bool (p i),st)) :
 Ab E (k+2) 92 [w,.fn (.func fc) a b] st=.ret (.bool (decide (∃i,i<n/\p i=true)),st):=by
 obtain⟨r,j,l,f⟩:=dI d g e c;rw[Av (fn:=C.f92) rfl rfl rfl,Ap (by simp)];have:decide (0<=r)=decide (∃i,i<n/\p i=true):=by simp only[f]
 simp[C.f92,j,Al,results,Af];simpa using this
theorem Co.Ow{v:AV}{l:List Bz}(h:Co v 1 (Bf l))(c:Nat):v.CY c=true:=by
 rcases h.out with⟨rfl,_⟩|⟨t,rfl⟩
 ·rfl
 ·exact LW c _
theorem XT{k:Nat}{g:Ac}{w:AV}{st:St}(v:Co w 1 (Bf g.Ae))(I:g.We)(l:TS)(d:l.get 0=w)(u:l.get 8=w)(t:l.get 9=.int .i64 (g.Ae.length:Int))(a:l.get 10=.int .i64 ((0:Nat):Int)) :
 (Dm (Bc E (Ab E (k+3)) C.f90L0) E.k l st).to fun x=>x.2.2=st/\((x.1=.exit 0/\g.JR=0)∨(x.1=.ret/\g.JR≠0/\x.2.1.get 2=.int .i64 g.JR)):=by
 have J:=I.Ae;refine Cy (fun (i:Nat) y o=>o=st/\i<=g.Ae.length/\y.get 0=w/\y.get 8=w/\y.get 9=.int .i64 (g.Ae.length:Int)/\y.get 10=.int .i64 (i:Int)/\∀j,j<i->Rx g.Ae j=0)
  (fun i=>g.Ae.length-i) ?_ _ 0 _ _ ?_ ?_
 ·rintro i y o ⟨rfl,O,d,u,t,a,p⟩;by_cases Bi:i<g.Ae.length
  ·have N:=I.AB _ (BH Bi);have b:=Yp (k:=k) (s:=g.Ae[i]) (st:=o) (by omega);have c:g.Ae.getD i []=g.Ae[i]:=by simp[List.getD,Bi]
   have bad:∀n,Rx g.Ae i=n->n≠0->g.JR=n:=fun n h q=>by unfold Ac.JR;rw[WI p (by rw[h];exact q) Bi,h]
   cases q:Vy g.Ae[i] with
   |false=>have D:=bad 5 (by unfold Rx;rw[c,q];simp) (by decide);simp[C.f90L0,u,t,a,Bi,v.WB Bi,b,q,D]
   |true=>
    by_cases h0:i=0
    ·subst h0;have z:AY 1 w (.int .i64 0) o=some (.CB [.str g.Ae[0]],o):=v.WB (i:=0) Bi;have f:Rx g.Ae 0=0:=by unfold Rx;rw[c,q];simp
     simp[C.f90L0,Da,d,u,t,a,Bi,z,b,q,wrap64 (n:=(1:Int)) (by omega) (by omega)];exact⟨1,by omega,by omega,by simp,fun j L=>by
      have:j=0:=by omega
      subst this;exact f⟩
    ·have F:i-1<g.Ae.length:=by omega
     have m:((i:Int)-1)=((i-1:Nat):Int):=by omega
     have r:0<i:=by omega
     have A:g.Ae.getD (i-1) []=g.Ae[i-1]:=by simp[List.getD,F]
     by_cases hless:g.Ae[i-1]<g.Ae[i]
     ·have f:Rx g.Ae i=0:=by unfold Rx;rw[c,A,q];simp[hless]
      have B:decide (g.Ae[i]<g.Ae[i-1])=false:=FP (Sd hless);have K:(g.Ae[i]==g.Ae[i-1])=false:=Hy fun e=>Kv _ (e▸hless);simp[C.f90L0,Cm,d,u,t,a,Bi,v.WB Bi,b,q,r,wrap64 (n:=((i-1:Nat):Int)) (by omega) (by omega),m,v.WB F,Xd,B,K,wi i];refine⟨i+1,by omega,by omega,by simp,fun j L=>?_⟩;rcases FU j i with h|h
      ·exact p j h
      ·have:j=i:=by omega
       subst this;exact f
     ·have D:=bad 7 (by unfold Rx;rw[c,A,q];simp[hless];omega) (by decide);have B:(decide (g.Ae[i]<g.Ae[i-1])||(g.Ae[i]==g.Ae[i-1]))=true:=by
       by_cases e:g.Ae[i]=g.Ae[i-1]
       ·simp[e]
       ·have:=Md hless (Aj e);simp only[FO,Aw];exact .inl this
      simp only[←Xd]at B;have H:bin .leq (.str g.Ae[i]) (.str g.Ae[i-1])=some (.bool true):=by rw[jq,B]
      simp[C.f90L0,Cm,d,u,t,a,Bi,v.WB Bi,b,q,r,wrap64 (n:=((i-1:Nat):Int)) (by omega) (by omega),m,v.WB F,-jq,H,D]
  ·have:i=g.Ae.length:=by omega
   subst this;have:g.JR=0:=PQ p;simp[C.f90L0,t,a,this]
 ·exact FX (by show g.Ae.length-0<1000000;omega)
 ·exact⟨rfl,by omega,d,u,t,a,fun j h=>by omega⟩
theorem SL{k:Nat}{g:Ac}{f:AV}{st:St}(j:Co f 1 (Bf g.Ae))(m:g.We):Ab E (k+4) 90 [f] st=.ret (.int .i64 (if 60<g.Ae.length then 2 else g.JR),st):=by
 have d:=j.Ow 0;have o:=m.Ae;rw[GH (fn:=C.f90) rfl rfl rfl (by simp[AV.Dq,d]),Ap (by simp)];have goal:((Bc E (Ab E (k+3)) C.f90.body (TS.FK [f] 0 .nil) ⟨[],0,0⟩).bind (Al C.f90.results)).to fun r=>r.1=.int .i64 (if 60<g.Ae.length then 2 else g.JR):=by
  have b:∀i:St,BZ .slice f i=some (.int .i64 (g.Ae.length:Int),i):=fun i=>by have:=j.len (st:=i);simpa using this
  by_cases h6:60<g.Ae.length
  ·have a:(60:Int)<(g.Ae.length:Int):=by omega
   simp[C.f90,b,a,h6,Al,results,Af]
  have a:¬(60:Int)<(g.Ae.length:Int):=by omega
  rw[AJ h6];simp[C.f90,b,a];refine M.BG (XT (k:=k) j m _ (by simp) (by simp) (by simp) (by simp)) fun x t=>?_;obtain⟨e,p,s⟩:=x;obtain⟨h,n⟩:=t;simp only at h n;subst h;rcases n with⟨rfl,c⟩|⟨rfl,c,u⟩
  ·simp[Al,results,Af,c]
  ·simp[Al,results,Af,u]
 obtain⟨⟨v,q⟩,w,l⟩:=goal;simp only at l;subst l;rw[w];simp
theorem aA{k i:Nat}{v:AV}{g:Ac}{st:St}(H:GD v g)(W:g.We)(hi:i<g.AP.length):Ab E (k+5) 91 [v,.int .i64 (i:Int)] st=.ret (.int .i64 (TT g i),st):=by
 have T:=H.Ow 0;obtain⟨F,t,l,rfl,hk,hr,z⟩:=H;have b8:=z.length;have a0:=W.many;have b7:=W.Ae;have a9:i<l.length:=by omega
 obtain⟨w,e1,e2⟩:=(z.get i hi).2;have L:=W.AP _ (BH hi);have b9:=L.right;rw[GH (fn:=C.f91) rfl rfl rfl (by simp[AV.Dq,T];rfl),Ap (by simp)];have O:g.AP.getD i default=g.AP[i]:=by simp[List.getD,hi]
 have a3:Ls 0 29 3 (.agg [F,.str g.Ai,t])=some (.AL 0 0,.cells 29 3 [F,.str g.Ai,t] false):=rfl;obtain⟨A,f⟩:∃A:List AV,A=[.str g.AP[i].left,w,.int .i64 g.AP[i].level]:=⟨_,rfl⟩;obtain⟨h,hh⟩:∃h:Aa,h=[(0,.cells 29 3 [F,.str g.Ai,t] false)]:=⟨_,rfl⟩;have a4:BA 0 (.cells 29 3 [F,.str g.Ai,t] false) ⟨[],1,0⟩=some ⟨h,1,0⟩:=by rw[hh];rfl
 obtain⟨d,y⟩:∃d:Aa,d=(1,BJ.cells 63 3 A false)::h:=⟨_,rfl⟩;have Q:HB ⟨h,1,0⟩:=by
  intro p x hp;rw[hh]at hp;rcases BK.1 hp with e|e
  ·cases e;exact QP
  ·cases e
 have a6:HB ⟨d,2,0⟩:=y▸HB.cons (h:=h) (c:=1) (lo:=0) Q (by omega) (by omega);have S:AA h 0=some (.cells 29 3 [F,.str g.Ai,t] false):=by rw[hh];rfl
 have f0:AA d 0=some (.cells 29 3 [F,.str g.Ai,t] false):=by rw[y,AZ,AJ (by omega)];exact S
 have fc:AA d 1=some (.cells 63 3 A false):=by rw[y,AZ,AX rfl]
 have J:AY 3 t (.int .i64 (i:Int)) ⟨h,2,0⟩=some (.CB l[i].cells,⟨h,2,0⟩):=hr.idx a9;have r:l[i].cells=A:=by rw[e1,f];rfl
 rw[r]at J;have hn:BA 1 (.cells 63 3 [.str [],.AO,.int .i64 0] false) ⟨h,2,0⟩=some ⟨(1,.cells 63 3 [.str [],.AO,.int .i64 0] false)::h,2,0⟩:=Bb Q;have P:=Ic (h:=h) (c:=1) (c':=2) (lo:=0) (ty:=63) (n:=3) (zs:=[.str [],.AO,.int .i64 0]) (vs:=A) (by omega) (by rw[f];rfl) rfl;rw[←y]at P;have N:Ak h (.CB A) 3=some A:=by rw[f];rfl
 have rr:AQ h (.AL 0 2)=some t:=by rw[AR S];rfl
 have r0:AQ d (.AL 0 2)=some t:=by rw[AR f0];rfl
 have rk:AQ d (.AL 0 0)=some F:=by rw[AR f0];rfl
 have Z:AQ d (.AL 1 0)=some (.str g.AP[i].left):=by rw[AR fc,f];rfl
 have a7:AQ d (.AL 1 1)=some w:=by rw[AR fc,f];rfl
 have a2:AQ d (.AL 1 2)=some (.int .i64 g.AP[i].level):=by rw[AR fc,f];rfl
 obtain⟨w2,c1,c2⟩:=hr.cut (st:=⟨d,2,0⟩) (i:=i) (by omega);have K:(l.take i).length=i:=by simp;omega
 have B:=QJ (k:=k+2) (n:=i) (fc:=145) (w:=w2) (a:=[]) (b:=[.AL 1 0]) (el:=fun j=>(l.getD j .undef).cells) (p:=fun j=>pY (g.AP.getD j default) g.AP[i]) (st:=⟨d,2,0⟩)
  (by rw[c2.iK,K]) (by omega) (fun j hj=>by
   have D:j<l.length:=by omega
   have H:l.getD j .undef=l[j]:=by simp[List.getD,D]
   obtain⟨w',c0,e'⟩:=(z.get j (by omega)).2.AFR
   refine⟨.CB l[j].cells,?_,?_⟩
   ·have:=c2.idx (st:=⟨d,2,0⟩) (i:=j) (by omega)
    simpa using this
   ·rw[H,e'];simp[Ak,AV.cells,ble_eq]) (fun j hj=>by
   have D:j<l.length:=by omega
   have H:l.getD j .undef=l[j]:=by simp[List.getD,D]
   have a8:g.AP.getD j default=g.AP[j]'(by omega):=by simp[List.getD,show j<g.AP.length by omega]
   obtain⟨w',b0,Y⟩:=(z.get j (by omega)).2
   have V:=W.AP _ (BH (show j<g.AP.length by omega))
   have b6:=V.right
   have:=bU (k:=k) (la:=(g.AP[j]'(by omega)).left) (q:=1) (st:=⟨d,2,0⟩) (na:=(g.AP[j]'(by omega)).level) a6 (by show 1<2;omega) (f▸fc) (by omega) (fun _ _=>Reads.sO Y) (fun _ _=>Reads.sO e2)
   rw[H,b0,a8]
   exact this)
 have o:=Yp (k:=k+1) (s:=g.AP[i].left) (st:=⟨d,2,0⟩) (by have:=L.left;omega);have m:=di (k:=k+2) (x:=g.AP[i].left) (st:=⟨d,2,0⟩) hk (by omega);have U:=uH (k:=k+3) (x:=g.AP[i].level) (l:=0) (u:=99) (st:=⟨d,2,0⟩);have a1:BZ .slice w ⟨d,2,0⟩=some (.int .i64 (g.AP[i].right.length:Int),⟨d,2,0⟩):=by have:=e2.len (st:=⟨d,2,0⟩);simpa using this
 have I:TT g i=bif !Vy g.AP[i].left then 5 else bif decide (g.AP[i].left∈g.Ae) then 13 else bif decide (20<g.AP[i].right.length) then 2 else bif !decide (0<=g.AP[i].level/\g.AP[i].level<=99) then 1 else bif decide (∃j,j<i/\pY (g.AP.getD j default) g.AP[i]=true) then 6 else 0:=by unfold TT;rw[O];simp only[Ad,Fp,Aw,Ji]
 have a5:decide ((20:Int)<(g.AP[i].right.length:Int))=decide (20<g.AP[i].right.length):=by simp only[decide_eq_decide];omega
 have R:bin .gtr (.int .i64 (g.AP[i].right.length:Int)) (.int .i64 20)=some (.bool (decide (20<g.AP[i].right.length))):=by rw[qW,a5]
 generalize Vy g.AP[i].left=b1 at I o;generalize decide (g.AP[i].left∈g.Ae)=b2 at I m;generalize decide (20<g.AP[i].right.length)=b3 at I R;generalize decide (0<=g.AP[i].level/\g.AP[i].level<=99)=b4 at I U;generalize decide (∃j,j<i/\pY (g.AP.getD j default) g.AP[i]=true)=b5 at I B;rw[I];simp[C.f91,a3,a4,rr,J,-Cw,N,hn,P,r0,rk,c1,B,Z,a7,a2,o,m,a1,-qW,R,U,M.uT];cases b1<;>cases b2<;>cases b3<;>cases b4<;>cases b5<;>simp[Al,results,Af]
def IC(h:Aa)(o:Nat)(K:List Bz):Prop:=∃bs clock,AA h o=some (.map (Bf K) (List.replicate K.length (.bool true)) bs clock)
theorem Qu(x:Bz):∀K:List Bz,(x∈K/\∃i,i<K.length/\Ii (.one .str) (Bf K) (.str x)=some (some i))∨(x∉K/\Ii (.one .str) (Bf K) (.str x)=some none)
 |[]=>.inr ⟨by simp,rfl⟩
 |y::K=>by
  have b:tu (.one .str) (.str x) (.str y)=some (x==y):=rfl;by_cases e:x=y
  ·subst e;refine .inl ⟨by simp,0,by simp,?_⟩;show Ii (.one .str) (.str x::Bf K) (.str x)=_;simp[Ii,b]
  ·have a:(x==y)=false:=Hy e;rcases Qu x K with⟨c,i,d,f⟩|⟨c,d⟩
   ·refine .inl ⟨Cu _ c,i+1,by simp;omega,?_⟩;show Ii (.one .str) (.str y::Bf K) (.str x)=_;simp[Ii,b,a,f]
   ·refine .inr ⟨by simp[e,c],?_⟩;show Ii (.one .str) (.str y::Bf K) (.str x)=_;simp[Ii,b,a,d]
theorem IC.look{st:St}{o:Nat}{K:List Bz}(H:IC st.h o K)(x:Bz):FT (.one .str) (.bool false) false (.Cq o) (.str x) st=some (.bool (decide (x∈K)),st):=by
 obtain⟨e,clock,c⟩:=H;rcases Qu x K with⟨b,i,a,d⟩|⟨b,a⟩
 ·simp[FT,c,LA,Nj,d,MJ,b,a]
 ·simp[FT,c,LA,Nj,a,MJ,b]
theorem IC.put{st:St}{o:Nat}{K:List Bz}(H:IC st.h o K)(l:st.lo<=o)(x:Bz) :
 ∃ob j,FL (.one .str) (.Cq o) (.str x) (.bool true) st=some (.undef,{ st with h:=Ah st.h o ob })/\IC (Ah st.h o ob) o j/\(∀y,y∈j↔y=x∨y∈K)/\∀p,p≠o->AA (Ah st.h o ob) p=AA st.h p:=by
 obtain⟨d,clock,a⟩:=H;have f:Nat.blt o st.lo=false:=by rw[blt_eq];simp;omega
 rcases Qu x K with⟨g,i,c,k⟩|⟨g,c⟩
 ·refine⟨_,K,by simp only[FL,f,Nj,a,k,Lf,OH,Bj];rfl,⟨d,clock,?_⟩,fun y=>⟨.inr,fun h=>h.elim (fun e=>e▸g) id⟩,fun p b=>by rw[Ag a,AJ (Aj b)]⟩;rw[Ag a,AX rfl];simp
 ·refine⟨_,K++[x],by simp only[FL,f,Nj,a,c,Lf,OH,Bj];rfl,⟨d++[clock],clock+1,?_⟩,fun y=>by simp[or_comm],fun p b=>by rw[Ag a,AJ (Aj b)]⟩;rw[Ag a,AX rfl];simp[Bf,List.replicate_succ']
theorem IC.frame{h a:Aa}{o:Nat}{K:List Bz}(H:IC h o K)(e:AA a o=AA h o):IC a o K:=by obtain⟨c,clock,b⟩:=H;exact⟨c,clock,e.trans b⟩
theorem HB.Ah{st:St}{o:Nat}{ob:BJ}(c:HB st):HB { st with h:=Ah st.h o ob }:=by intro p x b;obtain⟨d,a⟩:=NP b;exact c p d a
structure CS (gs:List AV)(K:List Bz)(st:St):Prop where
 hb:HB st
 g0:AA st.h 0=some (.cells 29 3 gs false)
 m1:IC st.h 1 K
 k2:AA st.h 2=some (.cells 155 1 [.Cq 1] false)
 lo:st.lo=0
 c2:2<st.c
theorem jb{n:Nat}{g:Ac}{q:List AV}{p:AV}(F:Co p 1 (Bf g.Ae))(B:g.We)(l:St)(H:CS q [] l)(a:TS)(o:a.get 1=.AL 0 0)(m:a.get 4=.AL 2 0)(f:a.get 31=p)(d:a.get 32=.int .i64 (g.Ae.length:Int))(e:a.get 33=.int .i64 ((0:Nat):Int)) :
 (Dm (Bc E (Ab E n) C.f51L0) E.k a l).to fun x=>x.1=.exit 1/\x.2.1.get 1=.AL 0 0/\x.2.1.get 4=.AL 2 0/\x.2.2.c=l.c/\∃K,CS q K x.2.2/\∀s,s∈K↔s∈g.Ae:=by
 have w:=B.Ae;refine Cy (fun (i:Nat) j b=>i<=g.Ae.length/\j.get 1=.AL 0 0/\j.get 4=.AL 2 0/\j.get 31=p/\j.get 32=.int .i64 (g.Ae.length:Int)/\j.get 33=.int .i64 (i:Int)/\b.c=l.c/\∃K,CS q K b/\∀s,s∈K↔s∈g.Ae.take i)
  (fun i=>g.Ae.length-i) ?_ _ 0 _ _ ?_ ?_
 ·rintro i j b ⟨I,o,m,f,d,e,u,K,H,r⟩;by_cases Bi:i<g.Ae.length
  ·have D:AQ b.h (.AL 2 0)=some (.Cq 1):=by rw[AR H.k2];rfl
   obtain⟨ob,A,y,z,v,t⟩:=H.m1.put (by rw[H.lo];omega) g.Ae[i];simp[C.f51L0,o,m,f,d,e,Bi,F.WB Bi,D,y,wi i];refine⟨i+1,by omega,by omega,by simp,u,A,⟨H.hb.Ah,(t 0 (by omega)).trans H.g0,z,(t 2 (by omega)).trans H.k2,H.lo,H.c2⟩,fun s=>?_⟩;rw[v,r,Gy Bi,Ca,Di,or_comm]
  ·have:i=g.Ae.length:=by omega
   subst this;rw[FQ]at r;simp[C.f51L0,o,m,d,e];exact⟨u,K,H,r⟩
 ·exact FX (by show g.Ae.length-0<1000000;omega)
 ·exact⟨by omega,o,m,f,d,e,rfl,[],H,by simp⟩
theorem Ww(g:Ac)(i:Nat)(c:i<g.AP.length)(s:Bz):(s=g.AP[i].left∨∃r∈g.AP.take i,r.left=s)↔∃r∈g.AP.take (i+1),r.left=s:=by
 rw[Gy c];constructor
 ·rintro (rfl|⟨r,b,a⟩)
  ·exact⟨g.AP[i],Ca.2 (.inr (by simp only[Di])),rfl⟩
  ·exact⟨r,Ca.2 (.inl b),a⟩
 ·rintro⟨r,b,a⟩;rcases Ca.1 b with h|h
  ·exact .inr ⟨r,h,a⟩
  ·simp only[Di]at h;subst h;exact .inl a.symm
theorem ja{k:Nat}{g:Ac}{F m:AV}{l:List AV}(hk:Co F 1 (Bf g.Ae))(hr:Co m 3 l)(P:Gg l g.AP)(hs:g.We)(st:St){K0:List Bz}(H:CS [F,.str g.Ai,m] K0 st)(a6:∀s,s∈K0↔s∈g.Ae)(V:IC st.h 3 [])(z:3<st.c)(b:TS)(T:b.get 1=.AL 0 0)(W:b.get 4=.AL 2 0)(Y:b.get 7=.Cq 3)(A:b.get 42=m)(e:b.get 43=.int .i64 (g.AP.length:Int))(f:b.get 44=.int .i64 ((0:Nat):Int)) :
 (Dm (Bc E (Ab E (k+5)) C.f51L1) E.k b st).to fun x=>
  (x.1=.exit 3/\g.Qh=0/\x.2.1.get 1=.AL 0 0/\x.2.1.get 4=.AL 2 0/\x.2.1.get 7=.Cq 3/\3<x.2.2.c/\∃K L,CS [F,.str g.Ai,m] K x.2.2/\IC x.2.2.h 3 L/\(∀s,s∈K↔g.sym s=true)/\∀s,s∈L↔g.isLeft s=true)∨(x.1=.ret/\g.Qh≠0/\x.2.1.get 2=.int .i64 g.Qh):=by
 have a9:=P.length;have a2:=hs.many;have hG:GD (.agg [F,.str g.Ai,m]) g:=⟨F,m,l,rfl,hk,hr,P⟩;refine Cy (fun (i:Nat) J o=>i<=g.AP.length/\J.get 1=.AL 0 0/\J.get 4=.AL 2 0/\J.get 7=.Cq 3/\J.get 42=m/\J.get 43=.int .i64 (g.AP.length:Int)/\J.get 44=.int .i64 (i:Int)/\3<o.c/\(∀j,j<i->TT g j=0)/\∃K L,CS [F,.str g.Ai,m] K o/\IC o.h 3 L/\(∀s,s∈K↔s∈g.Ae∨∃r∈g.AP.take i,r.left=s)/\∀s,s∈L↔∃r∈g.AP.take i,r.left=s)
  (fun i=>g.AP.length-i) ?_ _ 0 _ _ ?_ ?_
 ·rintro i J o ⟨hi,T,W,Y,A,e,f,z,q,K,L,H,V,hK,hL⟩;by_cases Bi:i<g.AP.length
  ·have a7:i<l.length:=by omega
   obtain⟨w,e1,e2⟩:=(P.get i Bi).2;have bad:TT g i≠0->g.Qh=TT g i:=fun hn=>by unfold Ac.Qh;rw[WI q hn Bi]
   obtain⟨h,c,lo⟩:=o;have a3:lo=0:=H.lo;subst a3;have a4:∀p x,(p,x)∈h->p<c:=H.hb;have U:3<c:=z;obtain⟨D,t⟩:∃D:List AV,D=[.str g.AP[i].left,w,.int .i64 g.AP[i].level]:=⟨_,rfl⟩;obtain⟨a,y⟩:∃a:Aa,a=(c,BJ.cells 63 3 D false)::h:=⟨_,rfl⟩;have a5:HB ⟨a,c+1,0⟩:=y▸HB.cons (h:=h) (c:=c) (lo:=0) H.hb (by omega) (by omega);have R:∀p,p<c->AA a p=AA h p:=fun p hp=>by rw[y,AZ,AJ (by omega)]
   have I:AY 3 m (.int .i64 (i:Int)) ⟨h,c+1,0⟩=some (.CB l[i].cells,⟨h,c+1,0⟩):=hr.idx a7;have v:l[i].cells=D:=by rw[e1,t];rfl
   rw[v]at I;have hn:BA c (.cells 63 3 [.str [],.AO,.int .i64 0] false) ⟨h,c+1,0⟩=some ⟨(c,.cells 63 3 [.str [],.AO,.int .i64 0] false)::h,c+1,0⟩:=Bb a4;have N:=Ic (h:=h) (c:=c) (c':=c+1) (lo:=0) (ty:=63) (n:=3) (zs:=[.str [],.AO,.int .i64 0]) (vs:=D) (by omega) (by rw[t];rfl) rfl;rw[←y]at N;have B:Ak h (.CB D) 3=some D:=by rw[t];rfl
   have fc:AA a c=some (.cells 63 3 D false):=by rw[y,AZ,AX rfl]
   have f0:AA a 0=some (.cells 29 3 [F,.str g.Ai,m] false):=(R 0 (by omega)).trans H.g0;have rg:Ak a (.AL 0 0) 3=some [F,.str g.Ai,m]:=FI f0 rfl;have a1:AQ a (.AL c 0)=some (.str g.AP[i].left):=by rw[AR fc,t];rfl
   have r2:AQ a (.AL 2 0)=some (.Cq 1):=by rw[AR ((R 2 (by omega)).trans H.k2)];rfl
   have M1:IC (St.mk a (c+1) 0).h 1 K:=H.m1.frame (R 1 (by omega));obtain⟨ob,K',p1,p2,p3,Q⟩:=M1.put (st:=⟨a,c+1,0⟩) (by show 0<=1;omega) g.AP[i].left;simp only at p1 p2 Q;have S:AQ (Ah a 1 ob) (.AL c 0)=some (.str g.AP[i].left):=by rw[AR ((Q c (by omega)).trans fc),t];rfl
   have M3:IC (St.mk (Ah a 1 ob) (c+1) 0).h 3 L:=V.frame ((Q 3 (by omega)).trans (R 3 U));obtain⟨a8,L',q1,q2,q3,Z⟩:=M3.put (st:=⟨Ah a 1 ob,c+1,0⟩) (by show 0<=3;omega) g.AP[i].left;simp only at q1 q2 Z;have d:=aA (k:=k) (st:=⟨a,c+1,0⟩) hG hs Bi;by_cases hz:TT g i=0
   ·rw[hz]at d;simp[C.f51L1,T,W,Y,A,e,f,Bi,I,-Cw,B,hn,N,rg,d,KJ,MQ,Cc,Ci,DK,beq_eq,AV.DU,r2,a1,p1,S,q1,wi i];refine⟨i+1,by omega,by omega,by simp,by omega,fun j hj=>?_,K',⟨HB.Ah (st:=⟨Ah a 1 ob,c+1,0⟩) (HB.Ah (st:=⟨a,c+1,0⟩) a5),?_,p2.frame (Z 1 (by omega)),?_,rfl,by show 2<c+1;omega⟩,L',q2,fun s=>?_,fun s=>?_⟩
    ·rcases FU j i with h|h
     ·exact q j h
     ·have:j=i:=by omega
      subst this;exact hz
    ·exact (Z 0 (by omega)).trans ((Q 0 (by omega)).trans f0)
    ·exact (Z 2 (by omega)).trans ((Q 2 (by omega)).trans ((R 2 (by omega)).trans H.k2))
    ·rw[p3,hK,←Ww g i Bi s];constructor
     ·rintro (h|h|h)
      ·exact .inr (.inl h)
      ·exact .inl h
      ·exact .inr (.inr h)
     ·rintro (h|h|h)
      ·exact .inr (.inl h)
      ·exact .inl h
      ·exact .inr (.inr h)
    ·rw[q3,hL,←Ww g i Bi s]
   ·have a0:(TT g i !=0)=true:=by simpa using hz
    simp[C.f51L1,T,A,e,f,Bi,I,-Cw,B,hn,N,rg,d,a0,hz,bad hz]
  ·have:i=g.AP.length:=by omega
   subst this;have O:g.Qh=0:=PQ q;rw[FQ]at hK hL;have u:∀s,(∃r∈g.AP,r.left=s)↔g.isLeft s=true:=fun s=>by unfold Ac.isLeft;simp
   simp[C.f51L1,T,W,Y,e,f,O];exact⟨z,K,H,L,V,fun s=>by rw[hK,u];unfold Ac.sym;simp,fun s=>by rw[hL,u]⟩
 ·exact FX (by show g.AP.length-0<1000000;omega)
 ·exact⟨by omega,T,W,Y,A,e,f,z,fun j h=>by omega,K0,[],H,V,by simpa using a6,by simp⟩
theorem AAf{k:Nat}{K:List Bz}{x:Bz}{st:St}(e:AA st.h 2=some (.cells 155 1 [.Cq 1] false))(a:IC st.h 1 K) :
 Ab E (k+1) 93 [.str x,.AL 2 0] st=.ret (.bool (!decide (x∈K)),st):=by
 rw[FD (fn:=C.f93) rfl rfl rfl,Ap (by simp)];have b:AQ st.h (.AL 2 0)=some (.Cq 1):=by rw[AR e];rfl
 have d:=IC.look (st:=⟨st.h,st.c,st.c⟩) a x;simp[C.f93,b,d,Al,results,Af]
theorem fG{k:Nat}{K r:List Bz}{w:AV}{st:St}(d:Co w 1 (Bf r))(g:r.length<=100000)(f:AA st.h 2=some (.cells 155 1 [.Cq 1] false))(m:IC st.h 1 K) :
 Ab E (k+3) 92 [w,.fn (.func 93) [] [.AL 2 0]] st=.ret (.bool (!r.all fun s=>decide (s∈K)),st):=by
 have o:=XQ (k:=k+1) (n:=r.length) (fc:=93) (w:=w) (a:=[]) (b:=[.AL 2 0]) (el:=fun j=>r.getD j []) (p:=fun j=>!decide (r.getD j []∈K)) (st:=st)
  (by rw[d.iK];simp) (by omega) (fun i c=>⟨_,d.WB c,by simp[List.getD,c]⟩) (fun i c=>AAf f m)
 have e:decide (∃i,i<r.length/\(!decide (r.getD i []∈K))=true)=!r.all fun s=>decide (s∈K):=by
  rw[KZ];simp only[Aw,Fp,List.all_eq_false,Ji];constructor
  ·rintro⟨i,c,h⟩;refine⟨r[i],BH c,?_⟩;simpa [List.getD,c]using h
  ·rintro⟨s,l,h⟩;obtain⟨i,c,rfl⟩:=Du l;exact⟨i,c,by simpa [List.getD,c]using h⟩
 rw[o,e]
theorem jZ{k:Nat}{g:Ac}{W t:AV}{l:List AV}(hr:Co t 3 l)(I:Gg l g.AP)(hs:g.We)(st:St){K L:List Bz}(H:CS [W,.str g.Ai,t] K st)(hK:∀s,s∈K↔g.sym s=true)(R:IC st.h 3 L)(D:3<st.c)(a:TS)(T:a.get 1=.AL 0 0)(S:a.get 4=.AL 2 0)(U:a.get 7=.Cq 3)(o:a.get 63=t)(d:a.get 64=.int .i64 (g.AP.length:Int))(e:a.get 65=.int .i64 ((0:Nat):Int)) :
 (Dm (Bc E (Ab E (k+3)) C.f51L2) E.k a st).to fun x=>
  (x.1=.exit 5/\g.UT=true/\x.2.1.get 1=.AL 0 0/\x.2.1.get 7=.Cq 3/\CS [W,.str g.Ai,t] K x.2.2/\IC x.2.2.h 3 L)∨(x.1=.ret/\g.UT=false/\x.2.1.get 2=.int .i64 8):=by
 have a8:=I.length;have a1:=hs.many;have F:(fun s=>decide (s∈K))=g.sym:=by funext s;rw[KZ,Aw];exact hK s
 refine Cy (fun (i:Nat) B b=>i<=g.AP.length/\B.get 1=.AL 0 0/\B.get 4=.AL 2 0/\B.get 7=.Cq 3/\B.get 63=t/\B.get 64=.int .i64 (g.AP.length:Int)/\B.get 65=.int .i64 (i:Int)/\3<b.c/\(∀j (Q:j<g.AP.length),j<i->g.AP[j].right.all g.sym=true)/\CS [W,.str g.Ai,t] K b/\IC b.h 3 L)
  (fun i=>g.AP.length-i) ?_ _ 0 _ _ ?_ ?_
 ·rintro i B b ⟨hi,T,S,U,o,d,e,D,v,H,R⟩;by_cases Bi:i<g.AP.length
  ·have a3:i<l.length:=by omega
   obtain⟨w,e1,e2⟩:=(I.get i Bi).2;have a2:=hs.AP _ (BH Bi);have a6:=a2.right;obtain⟨h,c,lo⟩:=b;have a5:lo=0:=H.lo;subst a5;have a4:∀p x,(p,x)∈h->p<c:=H.hb;have O:3<c:=D;obtain⟨y,m⟩:∃y:List AV,y=[.str g.AP[i].left,w,.int .i64 g.AP[i].level]:=⟨_,rfl⟩;obtain⟨f,r⟩:∃f:Aa,f=(c,BJ.cells 63 3 y false)::h:=⟨_,rfl⟩;have a0:HB ⟨f,c+1,0⟩:=r▸HB.cons (h:=h) (c:=c) (lo:=0) H.hb (by omega) (by omega);have V:∀p,p<c->AA f p=AA h p:=fun p hp=>by rw[r,AZ,AJ (by omega)]
   have z:AY 3 t (.int .i64 (i:Int)) ⟨h,c+1,0⟩=some (.CB l[i].cells,⟨h,c+1,0⟩):=hr.idx a3;have q:l[i].cells=y:=by rw[e1,m];rfl
   rw[q]at z;have hn:BA c (.cells 63 3 [.str [],.AO,.int .i64 0] false) ⟨h,c+1,0⟩=some ⟨(c,.cells 63 3 [.str [],.AO,.int .i64 0] false)::h,c+1,0⟩:=Bb a4;have A:=Ic (h:=h) (c:=c) (c':=c+1) (lo:=0) (ty:=63) (n:=3) (zs:=[.str [],.AO,.int .i64 0]) (vs:=y) (by omega) (by rw[m];rfl) rfl;rw[←r]at A;have u:Ak h (.CB y) 3=some y:=by rw[m];rfl
   have fc:AA f c=some (.cells 63 3 y false):=by rw[r,AZ,AX rfl]
   have J:AQ f (.AL c 1)=some w:=by rw[AR fc,m];rfl
   have M1:IC (St.mk f (c+1) 0).h 1 K:=H.m1.frame (V 1 (by omega));have HC:CS [W,.str g.Ai,t] K ⟨f,c+1,0⟩:=⟨a0,(V 0 (by omega)).trans H.g0,M1,(V 2 (by omega)).trans H.k2,rfl,by show 2<c+1;omega⟩;have N:=fG (k:=k) (st:=⟨f,c+1,0⟩) e2 (by omega) HC.k2 HC.m1;rw[F]at N;have Z:IC f 3 L:=R.frame (V 3 O);cases ha:g.AP[i].right.all g.sym with
   |true=>
    rw[ha]at N;simp[C.f51L2,T,S,U,o,d,e,Bi,z,-Cw,u,hn,A,J,N,wi i];refine⟨i+1,by omega,by omega,by simp,by omega,fun j Q a7=>?_,HC,Z⟩;rcases FU j i with h|h
    ·simpa using v j Q h
    ·have:j=i:=by omega
     subst this;simpa using ha
   |false=>
    rw[ha]at N;have Y:g.UT=false:=by unfold Ac.UT;rw[List.all_eq_false];exact⟨_,BH Bi,by simp only[ha];decide⟩
    simp[C.f51L2,S,o,d,e,Bi,z,-Cw,u,hn,A,J,N,Y]
  ·have:i=g.AP.length:=by omega
   subst this;have P:g.UT=true:=by unfold Ac.UT;rw[Fj];intro x hx;obtain⟨j,Q,rfl⟩:=Du hx;exact v j Q Q
   simp[C.f51L2,T,U,d,e,P,H,R]
 ·exact FX (by show g.AP.length-0<1000000;omega)
 ·exact⟨by omega,T,S,U,o,d,e,D,fun j _ h=>by omega,H,R⟩
theorem ABH{k:Nat}{u v:AV}{g:Ac}{st:St}(b1:Ce 0 st.h 64 u=some v)(hg:GD v g)(J:g.We)(b7:g.Ae.length<=60)(b5:g.AP.length<=100):Ab E (k+6) 51 [u] st=.ret (.int .i64 g.fault,st):=by
 have b3:=hg.Ow 0;obtain⟨d,b,l,rfl,R,hr,w⟩:=hg;have hG:GD (.agg [d,.str g.Ai,b]) g:=⟨d,b,l,rfl,R,hr,w⟩;have a3:=w.length;have a4:=J.many;have b4:=J.Ae;rw[XF (fn:=C.f51) (args':=[.agg [d,.str g.Ai,b]]) rfl rfl rfl (by simp[DD,Ck,b1]),Ap (by simp)];have goal:((Bc E (Ab E (k+5)) C.f51.body (TS.FK [.agg [d,.str g.Ai,b]] 0 .nil) ⟨[],0,0⟩).bind (Al C.f51.results)).to fun r=>r.1=.int .i64 g.fault:=by
  have D:Ls 0 29 3 (.agg [d,.str g.Ai,b])=some (.AL 0 0,.cells 29 3 [d,.str g.Ai,b] false):=rfl;obtain⟨j,F⟩:∃h:Aa,h=[(0,.cells 29 3 [d,.str g.Ai,b] false)]:=⟨_,rfl⟩;have hn:BA 0 (.cells 29 3 [d,.str g.Ai,b] false) ⟨[],1,0⟩=some ⟨j,1,0⟩:=by rw[F];rfl
  have L:AA j 0=some (.cells 29 3 [d,.str g.Ai,b] false):=by rw[F];rfl
  have T:HB ⟨j,1,0⟩:=by
   intro p x hp;rw[F]at hp;rcases BK.1 hp with e|e
   ·cases e;exact QP
   ·cases e
  have rk:∀{h:Aa},AA h 0=some (.cells 29 3 [d,.str g.Ai,b] false)->AQ h (.AL 0 0)=some d:=fun H=>by rw[AR H];rfl
  have r1:∀{h:Aa},AA h 0=some (.cells 29 3 [d,.str g.Ai,b] false)->AQ h (.AL 0 1)=some (.str g.Ai):=fun H=>by rw[AR H];rfl
  have r2:∀{h:Aa},AA h 0=some (.cells 29 3 [d,.str g.Ai,b] false)->AQ h (.AL 0 2)=some b:=fun H=>by rw[AR H];rfl
  have a5:∀s:St,BZ .slice d s=some (.int .i64 (g.Ae.length:Int),s):=fun s=>by have:=R.len (st:=s);simpa using this
  have q:∀s:St,BZ .slice b s=some (.int .i64 (g.AP.length:Int),s):=fun s=>by have:=hr.len (st:=s);rw[this,a3]
  have B:¬(100:Int)<(g.AP.length:Int):=by omega
  have m:=SL (k:=k+1) (st:=⟨j,1,0⟩) R J;rw[AJ (by omega)]at m;by_cases hf0:g.JR=0
  ·rw[hf0]at m;by_cases hz:g.AP.length=0
   ·have a:g.fault=8:=by unfold Ac.fault;rw[AJ (by simp[hf0]),AX hz]
    simp[C.f51,D,hn,rk L,m,r2 L,q,hz,Al,results,Af,a]
   ·have a8:((g.AP.length:Int)==0)=false:=by simp only[Gm,ne_eq];omega
    obtain⟨h1,O⟩:∃h:Aa,h=(2,BJ.cells 155 1 [.Cq 1] false)::(1,.map [] [] [] 0)::j:=⟨_,rfl⟩;have n1:BA 1 (.map [] [] [] 0) ⟨j,3,0⟩=some ⟨(1,.map [] [] [] 0)::j,3,0⟩:=Bb T;have a1:HB ⟨(1,.map [] [] [] 0)::j,2,0⟩:=HB.cons (h:=j) (c:=1) (lo:=0) T (by omega) (by omega);have n2:BA 2 (.cells 155 1 [.IZ] false) ⟨(1,.map [] [] [] 0)::j,3,0⟩=some ⟨(2,.cells 155 1 [.IZ] false)::(1,.map [] [] [] 0)::j,3,0⟩:=Bb a1;have s2:BM 1 (.AL 2 0) (.Cq 1) ⟨(2,.cells 155 1 [.IZ] false)::(1,.map [] [] [] 0)::j,3,0⟩=some (.undef,⟨h1,3,0⟩):=by rw[O];simp[BM,AV.isTuple,AV.cells,beq_eq,CO,blt_eq,AZ,ble_eq,Bl,Ah]
    have a0:CS [d,.str g.Ai,b] [] ⟨h1,3,0⟩:=by
     subst O;refine⟨HB.cons (h:=(1,.map [] [] [] 0)::j) (c:=2) (lo:=0) a1 (by omega) (by omega),?_,⟨[],0,?_⟩,?_,rfl,by show 2<3;omega⟩
     ·simp[AZ,L]
     ·simp[AZ,Bf]
     ·simp[AZ]
    simp[C.f51,D,hn,rk L,m,r2 L,q,a8,B,n1,n2,s2,rk a0.g0,a5];refine M.BG (jb R J _ a0 _ (by simp) (by simp) (by simp) (by simp) (by simp)) fun x Q=>?_;obtain⟨e,c0,b0⟩:=x;obtain⟨h,g1,g4,hc,K,H1,hK⟩:=Q;simp only at h g1 g4 hc H1;subst h;obtain⟨z,c2,a6⟩:=b0;have Z:a6=0:=H1.lo;subst Z;simp only at hc;subst hc;have n3:BA 3 (.map [] [] [] 0) ⟨z,4,0⟩=some ⟨(3,.map [] [] [] 0)::z,4,0⟩:=Bb H1.hb;obtain⟨h3,t⟩:∃h:Aa,h=(3,BJ.map [] [] [] 0)::z:=⟨_,rfl⟩;rw[←t]at n3;have fr:∀p,p<3->AA h3 p=AA z p:=fun p hp=>by rw[t,AZ,AJ (by omega)]
    have P:CS [d,.str g.Ai,b] K ⟨h3,4,0⟩:=by refine⟨t▸HB.cons (h:=z) (c:=3) (lo:=0) H1.hb (by omega) (by omega),(fr 0 (by omega)).trans H1.g0,H1.m1.frame (fr 1 (by omega)),(fr 2 (by omega)).trans H1.k2,rfl,by show 2<4;omega⟩
    have M3:IC h3 3 []:=⟨[],0,by rw[t,AZ,AX rfl];rfl⟩;simp[g1,n3,r2 P.g0,q];refine M.BG (ja (k:=k) R hr w J _ P hK M3 (by show 3<4;omega) _ (by simp[g1]) (by simp[g4]) (by simp) (by simp) (by simp) (by simp)) fun x Q=>?_;obtain⟨e,c1,b9⟩:=x;rcases Q with⟨h,f,I,V,Y,U,K2,L2,H2,N,b2,a9⟩|⟨h,f,S⟩
    ·simp only at h f I V Y U H2 N;subst h;simp[I,r2 H2.g0,q];refine M.BG (jZ (k:=k+2) hr w J _ H2 b2 N U _ (by simp[I]) (by simp[V]) (by simp[Y]) (by simp) (by simp) (by simp)) fun x Q=>?_;obtain⟨e,b6,a7⟩:=x;rcases Q with⟨h,i,o,n,H3,A⟩|⟨h,i,y⟩
     ·simp only at h i o n H3 A;subst h;have W:=A.look (st:=a7) g.Ai;have hd:decide (g.Ai∈L2)=g.isLeft g.Ai:=by rw[KZ,Aw];exact a9 _
      rw[hd]at W;cases hst:g.isLeft g.Ai with
      |true=>
       rw[hst]at W;have a:g.fault=0:=by unfold Ac.fault;rw[AJ (by simp[hf0]),AJ hz,AJ (by simp[f]),AJ (by simp[i]),AJ (by simp[hst])]
       simp[o,n,r1 H3.g0,W,Al,results,Af,a]
      |false=>
       rw[hst]at W;have a:g.fault=8:=by unfold Ac.fault;rw[AJ (by simp[hf0]),AJ hz,AJ (by simp[f]),AJ (by simp[i]),AX hst]
       simp[o,n,r1 H3.g0,W,Al,results,Af,a]
     ·simp only at h i y;subst h;have a:g.fault=8:=by unfold Ac.fault;rw[AJ (by simp[hf0]),AJ hz,AJ (by simp[f]),AX i]
      simp[y,Al,results,Af,a]
    ·simp only at h f S;subst h;have a:g.fault=g.Qh:=by unfold Ac.fault;rw[AJ (by simp[hf0]),AJ hz,AX f]
     simp[S,Al,results,Af,a]
  ·have a:g.fault=g.JR:=by unfold Ac.fault;rw[AX hf0]
   have a2:(g.JR !=0)=true:=by simpa using hf0
   simp[C.f51,D,hn,rk L,m,a2,Al,results,Af,a]
 obtain⟨⟨v,b8⟩,h1,z⟩:=goal;simp only at z;subst z;rw[h1];simp[LC,AV.plain]
theorem ABJ{k:Nat}{u v:AV}{g:Ac}{st:St}(j:Ce 0 st.h 64 u=some v)(x:GD v g)(z:g.We):Ab E (k+6) 51 [u] st=.ret (.int .i64 g.Pe,st):=by
 by_cases hb:g.Ae.length<=60/\g.AP.length<=100
 ·rw[Ac.aj hb.1 hb.2];exact ABH j x z hb.1 hb.2
 ·obtain⟨e,c,l,rfl,A,D,p⟩:=x;have r:=p.length;rw[XF (fn:=C.f51) (args':=[.agg [e,.str g.Ai,c]]) rfl rfl rfl (by simp[DD,Ck,j]),Ap (by simp)];have d:Ls 0 29 3 (.agg [e,.str g.Ai,c])=some (.AL 0 0,.cells 29 3 [e,.str g.Ai,c] false):=rfl;obtain⟨i,m⟩:∃h:Aa,h=[(0,.cells 29 3 [e,.str g.Ai,c] false)]:=⟨_,rfl⟩;have s:BA 0 (.cells 29 3 [e,.str g.Ai,c] false) ⟨[],1,0⟩=some ⟨i,1,0⟩:=by rw[m];rfl
  have y:AA i 0=some (.cells 29 3 [e,.str g.Ai,c] false):=by rw[m];rfl
  have q:AQ i (.AL 0 0)=some e:=by rw[AR y];rfl
  have F:AQ i (.AL 0 2)=some c:=by rw[AR y];rfl
  have t:∀n:St,BZ .slice c n=some (.int .i64 (g.AP.length:Int),n):=fun n=>by have:=D.len (st:=n);rw[this,r]
  have b:=SL (k:=k+1) (st:=⟨i,1,0⟩) A z;by_cases h6:60<g.Ae.length
  ·rw[AX h6]at b;have a:g.Pe=2:=by unfold Ac.Pe;rw[AX h6]
   simp[C.f51,d,s,q,b,Al,results,Af,a,LC,AV.plain]
  ·rw[AJ h6]at b;have B:100<g.AP.length:=by omega
   have f:(100:Int)<(g.AP.length:Int):=by omega
   have w:((g.AP.length:Int)==0)=false:=by simp only[Gm,ne_eq];omega
   by_cases hf0:g.JR=0
   ·rw[hf0]at b;have a:g.Pe=2:=by unfold Ac.Pe;rw[AJ h6,AJ (by simp[hf0]),AJ (by omega),AX B]
    simp[C.f51,d,s,q,b,F,t,w,f,Al,results,Af,a,LC,AV.plain]
   ·have a:g.Pe=g.JR:=by unfold Ac.Pe;rw[AJ h6,AX hf0]
    have o:(g.JR !=0)=true:=by simpa using hf0
    simp[C.f51,d,s,q,b,o,Al,results,Af,a,LC,AV.plain]
theorem ABG{k:Nat}{v:AV}{g:Ac}{st:St}(a:GD v g)(b:g.We):Ab E (k+6) 51 [v] st=.ret (.int .i64 g.Pe,st):=ABJ (FH (n:=63) (a.Ow 0)) a b
theorem uj{k:Nat}{v:AV}{g:Ac}{st:St}(b:GD v g)(a:g.Small):Ab E (k+6) 51 [v] st=.ret (.int .i64 g.fault,st) :=by have:=ABG (k:=k) (st:=st) b a.wide;rwa [Ac.aj (by have:=a.Ae;omega) (by have:=a.many;omega)]at this
end Go.Am
