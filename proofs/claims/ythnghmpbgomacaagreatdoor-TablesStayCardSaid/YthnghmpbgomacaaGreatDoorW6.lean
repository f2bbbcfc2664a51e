/- A part of tablesStay. -/
import Derived.Test.YthnghmpbgomacaaGreatDoorW4
set_option maxHeartbeats 1000000
namespace Go.Am
open Go
section
variable {E:Env}{call:Nat->List AV->St->M (AV×St)}{s d q i:Nat}{b:Bool}{k:AK}{args:List Ki}{l:List (Nat×Dr×List Nat)}{ts:TS}{st:St}
theorem Ou(h:ts.get q=.bool b):Db E call s ((i,⟨some d,some (q,b),k,args⟩,[])::l) [] ts st=Db E call s ((i,⟨some d,none,k,args⟩,[])::l) [] ts st:=by rw[qf,h];simp
theorem Wd(h:ts.get q=.bool (!b)):Db E call s ((i,⟨some d,some (q,b),k,args⟩,[])::l) [] ts st=Db E call s l [] (ts.set d .undef) st:=by rw[qf,h];simp
end
structure Zb (id:Nat)(st st':St):Prop where
 c:st'.c=st.c
 lo:st'.lo=st.lo
 hb:HB st->HB st'
 fr:∀p,p≠id->AA st'.h p=AA st.h p
theorem Zb.refl{id:Nat}{st:St}:Zb id st st:=⟨rfl,rfl,fun h=>h,fun _ _=>rfl⟩
theorem Zb.Ah{id:Nat}{st a:St}{x y:BJ}(H:Zb id st a)(d:AA a.h id=some x):Zb id st { a with h:=Ah a.h id y }:=
 ⟨H.c,H.lo,fun e=>(H.hb e).Ah,fun p b=>by rw[←H.fr p b];show AA (Am.Ah a.h id y) p=_;rw[Ag d,AJ (Aj b)]⟩
theorem XE(L:List Bz)(j:Nat)(x:Bz):(Bf L).set j (.str x)=Bf (L.set j x):=by simp[Bf,GX]
theorem strs_get? (L:List Bz)(j:Nat)(h:j<L.length):(Bf L)[j]? =some (.str (L.getD j [])):=by simp[Bf,List.getD,h]
theorem MH{L:List Bz}{i:Nat}{a:Bz}(h:i<L.length)(p:Nat):(L.set i a).getD p []=if p=i then a else L.getD p []:=by
 simp only[List.getD,FW];by_cases e:p=i
 ·subst e;simp[h]
 ·rw[AJ (Aj e),AJ e]
theorem Ug{L:List Bz}{s:Bz}:s∈L↔∃p,p<L.length/\L.getD p []=s:=by
 constructor
 ·intro h;obtain⟨p,a,rfl⟩:=Du h;exact⟨p,a,by simp[List.getD,a]⟩
 ·rintro⟨p,a,rfl⟩;simp only[List.getD,Bu a,KG];exact BH a
theorem PZ{st:St}{id n i c:Nat}{cap:Option Nat}{b:List AV}{ext:Bool}(a:AA st.h id=some (.cells c 1 b ext))(d:i<n):AY 1 (.AU id 0 n cap) (.int .i64 (i:Int)) st=some (.AL id i,st):=by simp[AY,Bg,a,blt_eq,d]
theorem AAb{k:Nat}{a b:Bz}{st:St}:Ab E (k+2) 245 [.str a,.str b] st=.ret (.bool (decide (a<b)),st):=by
 have c:∀x:Bz,Ab E (k+1) 120 [.str x] st=.ret (.bool false,st):=fun x=>by rw[Av (fn:=C.f120) rfl rfl rfl,Ap (by simp)];simp[C.f120,Al,results,Af]
 rw[Av (fn:=C.f245) rfl rfl rfl,Ap (by simp)];simp[C.f245,c,Cm,Da,Xd,Al,results,Af]
def vJ(L:List Bz)(i:Nat):Prop:=∀p q,p<q->q<i->¬L.getD q []<L.getD p []
def Wh(L:List Bz)(i j:Nat):Prop:=∀p q,p<q->q<=i->q≠j->¬L.getD q []<L.getD p []
theorem bu{x y z:Bz}(h:¬y<x)(k:¬z<y):¬z<x:=by
 intro a;by_cases e:y=x
 ·subst e;exact k a
 ·have:=Md h e;exact k (Nr a this)
theorem Wh.fin{L:List Bz}{i j:Nat}(H:Wh L i j)(h:j=0∨¬L.getD j []<L.getD (j-1) []):vJ L (i+1):=by
 intro p q a b;by_cases e:q=j
 ·subst e;rcases h with h|h
  ·omega
  ·by_cases e2:p=q-1
   ·subst e2;exact h
   ·exact bu (H p (q-1) (by omega) (by omega) (by omega)) h
 ·exact H p q a (by omega) e
def swp(L:List Bz)(j:Nat):List Bz:=(L.set j (L.getD (j-1) [])).set (j-1) (L.getD j [])
theorem lY(L:List Bz)(j:Nat):(swp L j).length=L.length:=by simp[swp]
theorem swp_get{L:List Bz}{j:Nat}(a:0<j)(h:j<L.length)(p:Nat):(swp L j).getD p []=if p=j-1 then L.getD j [] else if p=j then L.getD (j-1) [] else L.getD p []:=by unfold swp;rw[MH (by simp;omega),MH h]
theorem zu{L:List Bz}{j:Nat}(a:0<j)(h:j<L.length)(s:Bz):s∈swp L j↔s∈L:=by
 rw[Ug,Ug,lY];constructor
 ·rintro⟨p,b,e⟩;rw[swp_get a h]at e;split at e
  ·exact⟨j,h,e⟩
  split at e
  ·exact⟨j-1,by omega,e⟩
  ·exact⟨p,b,e⟩
 ·rintro⟨p,b,e⟩;by_cases e1:p=j
  ·exact⟨j-1,by omega,by rw[swp_get a h,AX rfl,←e1];exact e⟩
  ·by_cases e2:p=j-1
   ·exact⟨j,h,by rw[swp_get a h,AJ (by omega),AX rfl,←e2];exact e⟩
   ·exact⟨p,b,by rw[swp_get a h,AJ e2,AJ e1];exact e⟩
theorem Wh.swp{L:List Bz}{i j:Nat}(H:Wh L i j)(g:0<j)(f:j<L.length)(h:j<=i)(a:L.getD j []<L.getD (j-1) []):Wh (swp L j) i (j-1):=by
 intro p q d b c;rw[swp_get g f,swp_get g f,AJ c];by_cases e:q=j
 ·subst e;rw[AX rfl];by_cases e2:p=q-1
  ·rw[AX e2];exact Sd a
  ·rw[AJ e2,AJ (by omega)];exact H p (q-1) (by omega) (by omega) (by omega)
 ·rw[AJ e];by_cases e2:p=j-1
  ·rw[AX e2];exact H j q (by omega) b e
  ·rw[AJ e2];by_cases e3:p=j
   ·rw[AX e3];exact H (j-1) q (by omega) b e
   ·rw[AJ e3];exact H p q d b e
structure VV (id:Nat)(ext:Bool)(L0:List Bz)(st0:St)(L:List Bz)(st:St):Prop where
 at_:AA st.h id=some (.cells 9 1 (Bf L) ext)
 len:L.length=L0.length
 mem:∀s,s∈L↔s∈L0
 only:Zb id st0 st
section
variable {id:Nat}{ext:Bool}{cap:Option Nat}{L0:List Bz}{st0:St}
theorem mF{k i:Nat}(r:st0.lo<=id)(Q:i<L0.length)(T:L0.length<=1000)(d:TS)(st:St)(L:List Bz)(H:VV id ext L0 st0 L st)(y:vJ L i)(t:d.get 0=.AU id 0 L0.length cap)(u:d.get 1=.int .i64 0)(l:d.get 2=.int .i64 (L0.length:Int))(z:d.get 6=.int .i64 (i:Int))(w:d.get 7=.int .i64 (i:Int)) :
 (Dm (Bc E (Ab E (k+2)) C.f239L1) E.k d st).to fun x=>x.1=.exit 2/\x.2.1.get 0=.AU id 0 L0.length cap/\x.2.1.get 1=.int .i64 0/\x.2.1.get 2=.int .i64 (L0.length:Int)/\x.2.1.get 6=.int .i64 (i:Int)/\∃L,VV id ext L0 st0 L x.2.2/\vJ L (i+1):=by
 refine Cy (fun (j:Nat) ts st=>j<=i/\ts.get 0=.AU id 0 L0.length cap/\ts.get 1=.int .i64 0/\ts.get 2=.int .i64 (L0.length:Int)/\ts.get 6=.int .i64 (i:Int)/\ts.get 7=.int .i64 (j:Int)/\∃L,VV id ext L0 st0 L st/\Wh L i j)
  (fun j=>j) ?_ _ i _ _ ?_ ?_
 ·rintro j ts st ⟨F,t,u,l,z,w,L,H,y⟩;have m:=H.len;by_cases hj0:0<j
  ·have e:((j:Int)-1)=((j-1:Nat):Int):=by omega
   have K:∀p,p<L0.length->AQ st.h (.AL id p)=some (.str (L.getD p [])):=fun p S=>by rw[AR H.at_,strs_get? _ _ (by omega)]
   obtain⟨a,D⟩:∃a,L.getD j []=a:=⟨_,rfl⟩;obtain⟨b,A⟩:∃b,L.getD (j-1) []=b:=⟨_,rfl⟩;have f:=K j (by omega);have g:=K (j-1) (by omega);rw[D]at f;rw[A]at g;have c:=AAb (k:=k) (a:=a) (b:=b) (st:=st);by_cases Bi:a<b
   ·have o:swp L j=(L.set j b).set (j-1) a:=by unfold swp;rw[D,A]
    have J:=DZ (st:=st) (off:=j) (v:=.str b) H.at_ (by rw[H.only.lo];exact r) (by simp;omega) rfl rfl;rw[XE]at J;have B:AA (Ah st.h id (.cells 9 1 (Bf (L.set j b)) ext)) id=some (.cells 9 1 (Bf (L.set j b)) ext):=by rw[Ag H.at_,AX rfl]
    have N:=DZ (st:={ st with h:=Ah st.h id (.cells 9 1 (Bf (L.set j b)) ext) }) (off:=j-1) (v:=.str a) B (by show st.lo<=id;rw[H.only.lo];exact r) (by simp;omega) rfl rfl;rw[XE]at N;have P:AY 1 (.AU id 0 L0.length cap) (.int .i64 ((j-1:Nat):Int)) { st with h:=Ah st.h id (.cells 9 1 (Bf (L.set j b)) ext) }=some (.AL id (j-1),{ st with h:=Ah st.h id (.cells 9 1 (Bf (L.set j b)) ext) }):=PZ B (by omega);simp only[Bw Bi]at c;simp[C.f239L1,Ou,t,u,l,z,w,hj0,PZ H.at_ (show j<L0.length by omega),PZ H.at_ (show j-1<L0.length by omega),e,wrap64 (n:=((j-1:Nat):Int)) (by omega) (by omega),f,g,c,J,P,N];refine⟨j-1,by omega,by omega,rfl,(L.set j b).set (j-1) a,⟨?_,by simpa using m,fun s=>(o▸(zu hj0 (by omega) s).trans (H.mem s)),?_⟩,o▸y.swp hj0 (by omega) F (by rw[D,A];exact Bi)⟩
    ·show AA (Ah _ _ _) _=_;rw[Ag B,AX rfl]
    ·exact (H.only.Ah H.at_).Ah B
   ·simp only[FP Bi]at c;simp[C.f239L1,Ou,t,u,l,z,w,hj0,PZ H.at_ (show j<L0.length by omega),PZ H.at_ (show j-1<L0.length by omega),e,wrap64 (n:=((j-1:Nat):Int)) (by omega) (by omega),f,g,c];exact⟨L,H,y.fin (.inr (by rw[D,A];exact Bi))⟩
  ·have:j=0:=by omega
   subst this;simp[C.f239L1,Wd,t,u,l,z,w];exact⟨L,H,y.fin (.inl rfl)⟩
 ·exact FX (by show i<1000000;omega)
 ·exact⟨by omega,t,u,l,z,w,L,H,fun p q I R O=>y p q I (by omega)⟩
theorem mD{k:Nat}(l:st0.lo<=id)(K:L0.length<=1000)(a:TS)(st:St)(H:VV id ext L0 st0 L0 st)(g:a.get 0=.AU id 0 L0.length cap)(j:a.get 1=.int .i64 0)(b:a.get 2=.int .i64 (L0.length:Int))(d:a.get 6=.int .i64 ((1:Nat):Int)) :
 (Dm (Bc E (Ab E (k+2)) C.f239L0) E.k a st).to fun x=>x.1=.exit 0/\∃L,VV id ext L0 st0 L x.2.2/\vJ L L0.length:=by
 refine Cy (fun (i:Nat) ts st=>1<=i/\ts.get 0=.AU id 0 L0.length cap/\ts.get 1=.int .i64 0/\ts.get 2=.int .i64 (L0.length:Int)/\ts.get 6=.int .i64 (i:Int)/\(i<=L0.length∨i=1)/\∃L,VV id ext L0 st0 L st/\vJ L i)
  (fun i=>L0.length+1-i) ?_ _ 1 _ _ ?_ ?_
 ·rintro i ts st ⟨D,g,j,b,d,O,L,H,t⟩;by_cases Bi:i<L0.length
  ·have loop:=fun a N B z I v=>mF (k:=k) (cap:=cap) l Bi K a st L H t N B z I v;simp[C.f239L0,b,d,Bi];refine M.BG (loop _ (by simp[g]) (by simp[j]) (by simp[b]) (by simp[d]) (by simp)) fun x J=>?_;obtain⟨e,F,w⟩:=x;obtain⟨h,r,s,o,m,y,u,f⟩:=J;simp only at h r s o m u;subst h;simp[r,s,o,m,wi i];exact⟨i+1,by omega,by omega,by simp,by omega,y,u,f⟩
  ·simp[C.f239L0,b,d,Bi];exact⟨L,H,fun p q c A=>t p q c (by omega)⟩
 ·exact FX (by show L0.length+1-1<1000000;omega)
 ·exact⟨by omega,g,j,b,d,.inr rfl,L0,H,fun p q c A=>by omega⟩
end
def cZ:List UInt8:=[0,1,2,2,3,3,3,3,4,4,4,4,4,4,4,4,5,5,5,5,5,5,5,5,5,5,5,5,5,5,5,5,6,6,6,6,6,6,6,6,6,6,6,6,6,6,6,6,6,6,6,6,6,6,6,6,6,6,6,6,6,6,6,6,7,7,7,7,7,7,7,7,7,7,7,7,7,7,7,7,7,7,7,7,7,7,7,7,7,7,7,7,7,7,7,7,7,7,7,7,7,7,7,7,7,7,7,7,7,7,7,7,7,7,7,7,7,7,7,7,7,7,7,7,7,7,7,7,8,8,8,8,8,8,8,8,8,8,8,8,8,8,8,8,8,8,8,8,8,8,8,8,8,8,8,8,8,8,8,8,8,8,8,8,8,8,8,8,8,8,8,8,8,8,8,8,8,8,8,8,8,8,8,8,8,8,8,8,8,8,8,8,8,8,8,8,8,8,8,8,8,8,8,8,8,8,8,8,8,8,8,8,8,8,8,8,8,8,8,8,8,8,8,8,8,8,8,8,8,8,8,8,8,8,8,8,8,8,8,8,8,8,8,8,8,8,8,8,8,8,8,8,8,8,8,8]
def qF(T:Ki)(x y z:Int):BD:=C.S (C.R 0 [C.o 2 .move [C.i 0]]) (C.S (C.S (C.R 0 [C.m 3 0,C.o 4 (.bin .geq) [C.t 3,.val (.int .u64 x)]]) (C.C (C.t 4) (C.S (C.R 0 [C.m 5 0,C.o 6 (.bin .shr) [C.t 5,.val (.int .u64 32)],C.m 0 6]) (C.R 0 [C.o 2 .move [C.i 32]])) .skip)) (C.S (C.S (C.R 0 [C.m 7 0,C.o 8 (.bin .geq) [C.t 7,.val (.int .u64 y)]]) (C.C (C.t 8) (C.S (C.R 0 [C.m 9 0,C.o 10 (.bin .shr) [C.t 9,.val (.int .u64 16)],C.m 0 10]) (C.R 0 [C.m 11 2,C.o 12 (.bin .add) [C.t 11,C.i 16],C.m 2 12])) .skip)) (C.S (C.S (C.R 0 [C.m 13 0,C.o 14 (.bin .geq) [C.t 13,.val (.int .u64 z)]]) (C.C (C.t 14) (C.S (C.R 0 [C.m 15 0,C.o 16 (.bin .shr) [C.t 15,.val (.int .u64 8)],C.m 0 16]) (C.R 0 [C.m 17 2,C.o 18 (.bin .add) [C.t 17,C.i 8],C.m 2 18])) .skip)) (C.S (C.R 0 [C.m 19 2,C.m 20 0,C.o 21 (.De .u8) [C.t 20],C.o 22 .Fw [T,C.t 21],C.o 23 (.De .i64) [C.t 22],C.o 24 (.bin .add) [C.t 19,C.t 23],C.m 2 24]) .ret))))
set_option maxRecDepth 100000 in
theorem xW:C.f173=⟨[.tmp 2],.Bo,qF (.val (.str cZ)) 4294967296 65536 256⟩:=rfl
set_option maxRecDepth 100000 in
theorem xX{k n:Nat}(p:n<=12)(st:St):∃v,Ab E (k+2) 118 [.int .u64 (n:Int)] st=.ret (v,st):=by
 have g:∀m:Int,256<=m->bin .geq (.int .u64 (n:Int)) (.int .u64 m)=some (.bool false):=fun m q=>by show some (AV.bool (decide (m<=(n:Int))))=_;rw[FP (by omega)]
 have a:IntKind.u8.wrap (n:Int)=(n:Int):=by
  have:n=0∨n=1∨n=2∨n=3∨n=4∨n=5∨n=6∨n=7∨n=8∨n=9∨n=10∨n=11∨n=12:=by omega
  rcases this with rfl|rfl|rfl|rfl|rfl|rfl|rfl|rfl|rfl|rfl|rfl|rfl|rfl<;>rfl
 have c:∀l:List UInt8,13<=l.length->∃b:UInt8,IQ (.str l) (.int .u8 (n:Int)) st=some (.int .u8 b.toNat,st):=fun l o=>by
  have h:n<l.length:=by omega
  refine⟨l[n],?_⟩;have:asNat (.int .u8 (n:Int))=some n:=rfl;simp[IQ,this,h]
 have main:∃v,Ab E (k+1) 173 [.int .u64 (n:Int)] st=.ret (v,st):=by
  rw[Av (fn:=C.f173) rfl rfl rfl,xW,Ap (by simp)];obtain⟨b,e⟩:=c cZ (by
   obtain⟨rest,h⟩:∃rest,cZ=0::1::2::2::3::3::3::3::4::4::4::4::4::rest:=⟨_,rfl⟩
   rw[h];simp only[FV];omega)
  generalize cZ=tbl at e;have i:=g 4294967296 (by omega);have f:=g 65536 (by omega);have d:=g 256 (by omega);generalize (4294967296:Int)=x at i;generalize (65536:Int)=y at f;generalize (256:Int)=z at d;simp[qF,i,f,d,a,e,Al,results,Af]
 obtain⟨v,j⟩:=main;refine⟨v,?_⟩;rw[Av (fn:=C.f118) rfl rfl rfl,Ap (by simp)];simp[C.f118,j,Al,results,Af]
theorem wD{k id:Nat}{ext:Bool}{cap:Option Nat}{L:List Bz}{st:St}(p:AA st.h id=some (.cells 9 1 (Bf L) ext))(m:st.lo<=id)(u:L.length<=12) :
 (Ab E (k+5) 161 [.AU id 0 L.length cap] st).to fun x=>∃a,VV id ext L st a x.2/\vJ a L.length:=by
 have q:VV id ext L st L st:=⟨p,rfl,fun _=>.rfl,.refl⟩;have j:(Ab E (k+3) 239 [.AU id 0 L.length cap,.int .i64 0,.int .i64 (L.length:Int)] st).to fun x=>x.1=.tuple []/\∃a,VV id ext L st a x.2/\vJ a L.length:=by rw[Av (fn:=C.f239) rfl rfl rfl,Ap (by simp)];simp[C.f239];refine M.BG (mD (k:=k) (cap:=cap) m (by omega) _ st q (by simp) (by simp) (by simp) (by simp;rfl)) fun x i=>?_;obtain⟨e,s,f⟩:=x;obtain⟨h,a,c,b⟩:=i;simp only at h c;subst h;simp[Al,results,Af];exact⟨a,c,b⟩
 have l:∀v,(Ab E (k+4) 206 [.AU id 0 L.length cap,.int .i64 0,.int .i64 (L.length:Int),v] st).to fun x=>x.1=.tuple []/\∃a,VV id ext L st a x.2/\vJ a L.length:=fun v=>by
  rw[Av (fn:=C.f206) rfl rfl rfl,Ap (by simp)];have o:(L.length:Int)<=12:=by omega
  simp[C.f206];refine M.BG (Df (fun (_:Nat) ts d=>d=st/\ts.get 0=.AU id 0 L.length cap/\ts.get 1=.int .i64 0/\ts.get 2=.int .i64 (L.length:Int)) (fun _=>0) (fun e ts d=>e=.ret/\∃a,VV id ext L st a d/\vJ a L.length) ?step _ 0 _ _ ?_ ?_) ?_;case step=>rintro _ ts d ⟨rfl,t,y,r⟩;simp[C.f206L0,t,y,r,o,wrap64 (n:=(L.length:Int)) (by omega) (by omega)];refine M.BG j fun x i=>?_;obtain⟨z,f⟩:=x;obtain⟨h,a,c,b⟩:=i;simp only at h c;simp;exact⟨a,c,b⟩
  ·exact FX (by show 0<1000000;omega)
  ·simp
  ·rintro⟨e,ts,f⟩ ⟨h,a,c,b⟩;simp only at h c;subst h;simp[Al,results,Af];exact⟨a,c,b⟩
 obtain⟨v,w⟩:=xX (k:=k+2) u st;rw[Av (fn:=C.f161) rfl rfl rfl,Ap (by simp)];have g:IntKind.u64.wrap (L.length:Int)=(L.length:Int):=by
  have:L.length=0∨L.length=1∨L.length=2∨L.length=3∨L.length=4∨L.length=5∨L.length=6∨L.length=7∨L.length=8∨L.length=9∨L.length=10∨L.length=11∨L.length=12:=by omega
  rcases this with e|e|e|e|e|e|e|e|e|e|e|e|e<;>(rw[e];rfl)
 simp[C.f161,BZ,CV,g,w];refine M.BG (l v) fun x i=>?_;obtain⟨z,f⟩:=x;obtain⟨h,a,c,b⟩:=i;simp only at h c;simp[Al,results,Af];exact⟨a,c,b⟩
def Got(h:Aa)(id:Nat)(w:AV)(U:List Bz):Prop:=∃rest ext,w=.AU id 0 U.length none/\AA h id=some (.cells 9 1 (Bf U++rest) ext)
theorem YF{st:St}{id n k off e:Nat}{a:List AV}{ext:Bool}(b:AA st.h id=some (.cells e 1 a ext))(c:k<=n)(d:off+n<=a.length) :
 DW 1 true false false [.AU id off n none,.int .i64 (k:Int)] st=some (.AU id (off+k) (n-k) none,st):=by
 simp[DW,Gi,Bg,GK,b,blt_eq,He,ble_eq,c,d]
theorem fP{st:St}{id n k off d:Nat}{a:List AV}{ext:Bool}(b:AA st.h id=some (.cells d 1 a ext))(c:off+k<=a.length) :
 DW 1 false true false [.AU id off n none,.int .i64 (k:Int)] st=some (.AU id off k none,st):=by
 simp[DW,Gi,Bg,GK,b,blt_eq,He,ble_eq,c]
theorem dM{b:St}{id n i e a:Nat}{cap:Option Nat}{d:List AV}{ext:Bool}(c:AA b.h id=some (.cells e 1 d ext))(f:i<n):AY 1 (.AU id a n cap) (.int .i64 (i:Int)) b=some (.AL id (a+i),b):=by simp[AY,Bg,c,blt_eq,f]
theorem YQ(zero:List AV):∀n,(FZ zero n).length=n*zero.length
 |0=>by simp[FZ]
 |n+1=>by rw[FZ,Bd,YQ zero n,Il];omega
theorem ug{st:St}{id k n:Nat}{C:List Bz}{ext:Bool}(b:AA st.h id=some (.cells 9 1 (Bf C) ext))(c:st.lo<=id)(e:k<=C.length)(f:n=C.length-k) :
 ∃rest,Lu [.str []] (.AU id k n none) st=some (.tuple [],{ st with h:=Ah st.h id (.cells 9 1 (Bf (C.take k)++rest) ext) })∨(Lu [.str []] (.AU id k n none) st=some (.tuple [],st)/\n=0):=by
 by_cases h0:n=0
 ·exact⟨[],.inr ⟨by simp[Lu,h0,beq_eq],h0⟩⟩
 ·have a:=YQ [.str []] n;simp only[FV,GY]at a;have d:Nat.blt id st.lo=false:=by rw[blt_eq];simp;omega
  refine⟨FZ [.str []] n++(Bf C).drop (k+(FZ [.str []] n).length),.inl ?_⟩;simp[Lu,beq_eq,h0,b,CO,d,ble_eq,a,Bl,show k+n<=C.length by omega,Bf,List.map_take]
def zD(C:List Bz)(k:Nat):Prop:=∀p q,p<q->q<k->C.getD p []<C.getD q []
theorem zD.up{C:List Bz}{k:Nat}(H:zD C k)(f:k<=C.length):Up (C.take k):=by
 unfold Up;rw[List.pairwise_iff_getElem];intro i j e c a;simp only[Gv]at e c;have:=H i j a (by omega);have b:C.getD i []=C[i]'(by omega):=by simp[List.getD,show i<C.length by omega]
 have d:C.getD j []=C[j]'(by omega):=by simp[List.getD,show j<C.length by omega]
 rw[b,d]at this;simpa using this
theorem vJ.le{L:List Bz}{n i j:Nat}(H:vJ L n)(b:i<=j)(a:j<n):¬L.getD j []<L.getD i []:=by
 by_cases e:i=j
 ·subst e;exact Kv _
 ·exact H i j (by omega) a
theorem le_lt_trans{x y z:Bz}(h:¬y<x)(k:y<z):x<z:=by
 by_cases e:x=y
 ·subst e;exact k
 ·exact Nr (Md h (Aj e)) k
section
variable {id:Nat}{ext:Bool}{L:List Bz}{st0:St}
structure ABc (id:Nat)(ext:Bool)(L:List Bz)(st0:St)(k0 k2 k:Nat)(C:List Bz)(st:St):Prop where
 at_:AA st.h id=some (.cells 9 1 (Bf C) ext)
 len:C.length=L.length
 only:Zb id st0 st
 up:zD C k
 k1:1<=k
 kk:k<=k0+k2-1
 last:C.getD (k-1) []=L.getD (k0+k2-1) []
 same:∀p,k0+k2-1<=p->C.getD p []=L.getD p []
 mem:∀s,(∃p,p<k/\C.getD p []=s)↔∃p,p<k0+k2/\L.getD p []=s
theorem ZE{n c:Nat}{E':Nat->List AV->St->M (AV×St)}(hS:vJ L L.length)(R:st0.lo<=id)(a3:c<L.length)(a1:1<=c)(hn:L.length<=1000)(i:TS)(st:St)(H:ABc id ext L st0 c 1 c L st)(t:i.get 0=.AU id 0 L.length none)(I:i.get 3=.int .i64 (c:Int))(u:i.get 4=.AU id c (L.length-c) none)(z:i.get 5=.int .i64 ((1:Nat):Int)) :
 (Dm (Bc E E' C.f162L1) E.k i st).to fun x=>x.1=.exit 2/\x.2.1.get 0=.AU id 0 L.length none/\∃(k:Nat) (D:List Bz),x.2.1.get 3=.int .i64 (k:Int)/\k<=L.length/\ABc id ext L st0 c (L.length-c) k D x.2.2:=by
 refine Cy (fun (d:Nat) J st=>1<=d/\d<=L.length-c/\J.get 0=.AU id 0 L.length none/\J.get 4=.AU id c (L.length-c) none/\J.get 5=.int .i64 (d:Int)/\∃(k:Nat) (D:List Bz),J.get 3=.int .i64 (k:Int)/\ABc id ext L st0 c d k D st)
  (fun d=>L.length-c-d) ?_ _ 1 _ _ ?_ ?_
 ·rintro d J st ⟨a0,Z,t,u,z,k,D,I,H⟩;have V:=H.len;have a2:=H.kk;have U:=H.k1;by_cases Bi:d<L.length-c
  ·have j:((d:Int)-1)=((d-1:Nat):Int):=by omega
   have l:(d:Int)<((L.length-c:Nat):Int):=by omega
   have f:∀S:St,BZ .slice (.AU id c (L.length-c) none) S=some (.int .i64 ((L.length-c:Nat):Int),S):=fun S=>rfl;obtain⟨a,o⟩:∃a,L.getD (c+d) []=a:=⟨_,rfl⟩;obtain⟨b,O⟩:∃b,L.getD (c+(d-1)) []=b:=⟨_,rfl⟩;have w:AQ st.h (.AL id (c+d))=some (.str a):=by rw[AR H.at_,strs_get? _ _ (by omega),H.same _ (by omega),o]
   have F:AQ st.h (.AL id (c+(d-1)))=some (.str b):=by rw[AR H.at_,strs_get? _ _ (by omega),H.same _ (by omega),O]
   have A:¬a<b:=by rw[←o,←O];exact hS _ _ (by omega) (by omega)
   have m:b=L.getD (c+d-1) []:=by rw[←O];congr 1;omega
   by_cases he:a=b
   ·have W:(a !=b)=false:=by simp[he]
    have r:(a==b)=true:=by simp[he]
    simp[C.f162L1,t,I,u,z,f,l,dM H.at_ Bi,dM H.at_ (show d-1<L.length-c by omega),j,wrap64 (n:=((d-1:Nat):Int)) (by omega) (by omega),w,F,r,wi d];refine⟨d+1,by omega,by omega,by omega,by simp,k,rfl,D,H.at_,H.len,H.only,H.up,H.k1,by omega,?_,fun p B=>H.same p (by omega),fun s=>?_⟩
    ·rw[H.last,←m,←he,←o];congr 1
    ·rw[H.mem];constructor
     ·rintro⟨p,B,e⟩;exact⟨p,by omega,e⟩
     ·rintro⟨p,B,e⟩;by_cases e2:p=c+d
      ·exact⟨c+d-1,by omega,by rw[←m,←he,←o,←e2];exact e⟩
      ·exact⟨p,by omega,e⟩
   ·have r:(a==b)=false:=Hy he;have N:b<a:=Md A he;have Y:=DZ (st:=st) (off:=k) (v:=.str a) H.at_ (by rw[H.only.lo];exact R) (by simp;omega) rfl rfl;rw[XE]at Y;have g:k<D.length:=by omega
    simp[C.f162L1,t,I,u,z,f,l,dM H.at_ Bi,dM H.at_ (show d-1<L.length-c by omega),j,wrap64 (n:=((d-1:Nat):Int)) (by omega) (by omega),w,F,r,PZ H.at_ (show k<L.length by omega),Y,wi k,wi d];refine⟨d+1,by omega,by omega,by omega,by simp,k+1,by simp,D.set k a,?_,by simpa using H.len,H.only.Ah H.at_,fun p q K hq=>?_,by omega,by omega,?_,fun p B=>?_,fun s=>?_⟩
    ·show AA (Ah _ _ _) _=_;rw[Ag H.at_,AX rfl]
    ·rw[MH g,MH g,AJ (by omega)];by_cases e:q=k
     ·rw[AX e];refine le_lt_trans (y:=b) ?_ N;rw[m,←H.last];by_cases e2:p=k-1
      ·rw[e2];exact Kv _
      ·exact Sd (H.up p (k-1) (by omega) (by omega))
     ·rw[AJ e];exact H.up p q K (by omega)
    ·rw[Nat.add_sub_cancel,MH g,AX rfl,←o];congr 1
    ·rw[MH g,AJ (by omega)];exact H.same p (by omega)
    ·constructor
     ·rintro⟨p,B,e⟩;rw[MH g]at e;split at e
      ·exact⟨c+d,by omega,by rw[o];exact e⟩
      ·obtain⟨T,P,Q⟩:=(H.mem s).1 ⟨p,by omega,e⟩;exact⟨T,by omega,Q⟩
     ·rintro⟨p,B,e⟩;by_cases e2:p=c+d
      ·exact⟨k,by omega,by rw[MH g,AX rfl,←o,←e2];exact e⟩
      ·obtain⟨T,P,Q⟩:=(H.mem s).2 ⟨p,by omega,e⟩;exact⟨T,by omega,by rw[MH g,AJ (by omega)];exact Q⟩
  ·have:d=L.length-c:=by omega
   subst this;have f:∀S:St,BZ .slice (.AU id c (L.length-c) none) S=some (.int .i64 ((L.length-c:Nat):Int),S):=fun S=>rfl;simp[C.f162L1,t,I,u,z,f];exact⟨k,rfl,by omega,D,H⟩
 ·exact FX (by show L.length-c-1<1000000;omega)
 ·exact⟨by omega,by omega,t,u,z,c,L,I,H⟩
theorem jY{n:Nat}(i:AA st0.h id=some (.cells 9 1 (Bf L) ext))(hS:vJ L L.length)(h1:1<=L.length)(hn:L.length<=1000)(R:st0.lo<=id) :
 (Ab E (n+1) 162 [.AU id 0 L.length none] st0).to fun x=>Zb id st0 x.2/\∃U,Got x.2.h id x.1 U/\Up U/\∀s,s∈U↔s∈L:=by
 rw[Av (fn:=C.f162) rfl rfl rfl,Ap (by simp)];have c:∀S:St,BZ .slice (.AU id 0 L.length none) S=some (.int .i64 (L.length:Int),S):=fun S=>rfl;by_cases h2:L.length<2
 ·have u:(L.length:Int)<2:=by omega
  simp[C.f162,c,u,Al,results,Af];refine⟨.refl,L,⟨[],ext,rfl,by simpa using i⟩,?_,fun s=>.rfl⟩;match L,h2 with
  |[],_=>simp[Up]
  |[a],_=>simp[Up]
 ·have u:¬(L.length:Int)<2:=by omega
  simp[C.f162,c,u];refine M.BG (Df (fun (k:Nat) z st=>st=st0/\1<=k/\k<=L.length/\z.get 0=.AU id 0 L.length none/\z.get 3=.int .i64 (k:Int)/\zD L k)
   (fun k=>L.length-k) (fun e z st=>(e=.exit 0/\st=st0/\zD L L.length/\z.get 0=.AU id 0 L.length none)∨(e=.ret/\Zb id st0 st/\∃U,Got st.h id (z.get 2) U/\Up U/\∀s,s∈U↔s∈L)) ?step _ 1 _ _ ?_ ?_) ?_
  case step=>
   rintro k z st ⟨rfl,F,a1,t,V,N⟩;by_cases Bi:k<L.length
   ·have g:((k:Int)-1)=((k-1:Nat):Int):=by omega
    obtain⟨a,T⟩:∃a,L.getD k []=a:=⟨_,rfl⟩;obtain⟨b,I⟩:∃b,L.getD (k-1) []=b:=⟨_,rfl⟩;have K:AQ st.h (.AL id k)=some (.str a):=by rw[AR i,strs_get? _ _ (by omega),T]
    have Q:AQ st.h (.AL id (k-1))=some (.str b):=by rw[AR i,strs_get? _ _ (by omega),I]
    have O:¬a<b:=by rw[←T,←I];exact hS _ _ (by omega) (by omega)
    by_cases he:a=b
    ·have A:(a==b)=true:=by simp[he]
     have sf:=YF (st:=st) (k:=k) (n:=L.length) (off:=0) i (by omega) (by simp);rw[Dz]at sf;have C0:ABc id ext L st k 1 k L st:=⟨i,rfl,.refl,N,F,by omega,by show L.getD (k-1) []=L.getD k [];rw[T,I,he],fun _ _=>rfl,fun s=>by
      constructor
      ·rintro⟨p,w,e⟩;exact⟨p,by omega,e⟩
      ·rintro⟨p,w,e⟩
       by_cases e2:p=k
       ·exact⟨k-1,by omega,by rw[I,←he,←T,←e2];exact e⟩
       ·exact⟨p,by omega,e⟩⟩
     have loop:=fun a0 z0 z3 z4 z5=>ZE (n:=n) (E':=Ab E n) hS R Bi F hn a0 st C0 z0 z3 z4 z5;simp[C.f162L0,t,V,c,Bi,PZ i Bi,PZ i (show k-1<L.length by omega),g,wrap64 (n:=((k-1:Nat):Int)) (by omega) (by omega),K,Q,A,sf];refine M.BG (loop _ (by simp[t]) (by simp[V]) (by simp) (by simp)) fun x hx=>?_;obtain⟨e,a2,d⟩:=x;obtain⟨h,g0,f,m,g3,P,H⟩:=hx;simp only at h g0 g3 H;subst h;have Z:=H.len;have r:=YF (st:=d) (k:=f) (n:=L.length) (off:=0) H.at_ P (by simp;omega);rw[Dz]at r;have j:=H.up.up (by omega);have o:∀s,s∈m.take f↔s∈L:=fun s=>by
      rw[Ug (L:=L)];have e:k+(L.length-k)=L.length:=by omega
      have W:=H.mem s;rw[e]at W;rw[←W,Ug,Gv,Li (by omega)];constructor
      ·rintro⟨p,w,e⟩;exact⟨p,w,by rw[←e];simp[List.getD,w]⟩
      ·rintro⟨p,w,e⟩;exact⟨p,w,by rw[←e];simp[List.getD,w]⟩
     have l:(m.take f).length=f:=by rw[Gv];omega
     obtain⟨rest,B|⟨B,a3⟩⟩:=ug (st:=d) (k:=f) (n:=L.length-f) H.at_ (by rw[H.only.lo];exact R) (by omega) (by omega)
     ·have f1:AA (Ah d.h id (.cells 9 1 (Bf (m.take f)++rest) ext)) id=some (.cells 9 1 (Bf (m.take f)++rest) ext):=by rw[Ag H.at_,AX rfl]
      have v:=fP (st:={ d with h:=Ah d.h id (.cells 9 1 (Bf (m.take f)++rest) ext) }) (k:=f) (n:=L.length) (off:=0) f1 (by simp;omega);simp[g0,g3,r,B,v];exact⟨H.only.Ah H.at_,m.take f,⟨rest,ext,by rw[l],f1⟩,j,o⟩
     ·have v:=fP (st:=d) (k:=f) (n:=L.length) (off:=0) H.at_ (by simp;omega);simp[g0,g3,r,B,v];refine⟨H.only,m.take f,⟨Bf (m.drop f),ext,by rw[l],?_⟩,j,o⟩;rw[H.at_];simp[Bf]
    ·have A:(a==b)=false:=Hy he;have Y:b<a:=Md O he;simp[C.f162L0,t,V,c,Bi,PZ i Bi,PZ i (show k-1<L.length by omega),g,wrap64 (n:=((k-1:Nat):Int)) (by omega) (by omega),K,Q,A,wi k];refine⟨k+1,by omega,by omega,by omega,by simp,fun p q D hq=>?_⟩;by_cases e:q=k
     ·subst e;rw[T];refine le_lt_trans (y:=b) ?_ Y;rw[←I];exact hS.le (by omega) (by omega)
     ·exact N p q D (by omega)
   ·have:k=L.length:=by omega
    subst this;simp[C.f162L0,t,V,c];exact N
  ·exact FX (by show L.length-1<1000000;omega)
  ·exact⟨rfl,by omega,by omega,by simp,by simp,fun p q D hq=>by omega⟩
  ·rintro⟨e,z,d⟩ (⟨h,J,N,t⟩|⟨h,hO,U,hG,j,W⟩)
   ·simp only at h J t;subst h J;have:=N.up (Ao _);rw[FQ]at this;simp[t,Al,results,Af];exact⟨.refl,L,⟨[],ext,rfl,by simpa using i⟩,this,fun s=>.rfl⟩
   ·simp only at h hO hG;subst h;simp[Al,results,Af];exact⟨hO,U,hG,j,W⟩
end
theorem Dt{h:Aa}{c p:Nat}{x:BJ}(a:p<c):AA ((c,x)::h) p=AA h p:=by rw[AZ,AJ (by omega)]
theorem wR{h:Aa}{c lo b a bytes:Nat}{w x:AV}{d:List AV}(N:HB ⟨h,c,lo⟩)(H:Lp h b a w d)(J:∀p,Az w=some p->lo<=p/\p<c)(O:0<a)(z:bytes<=1000)(T:d.length<=1000)(L:x.cells.length=a) :
 ∃t,Bq (c+1) b a bytes w (.AU c 0 1 (some 1)) ⟨(c,.cells b a x.cells false)::h,c+2,lo⟩=some (.AU (c+1) 0 (d.length+1) none,⟨t,c+2,lo⟩)/\HB ⟨t,c+2,lo⟩ /\
  AA t (c+1)=some (.cells b a ((d++[x]).flatMap AV.cells) true)/\∀p,p<c->Az w≠some p->AA t p=AA h p:=by
 have A:Nat.beq a 0=false:=by rw[beq_eq];simp;omega
 have s:Nat.beq a a=true:=OI a;have o:Nat.beq b b=true:=OI b;have K:a≠0:=by omega
 have P:AA ((c,BJ.cells b a x.cells false)::h) c=some (.cells b a x.cells false):=by rw[AZ,AX rfl]
 have m:BS ((c,BJ.cells b a x.cells false)::h) a 1 (.AU c 0 1 (some 1))=some x.cells:=by simp[BS,P,ble_eq,L];rw[←L,FQ]
 have i:(d.length+1)*bytes<=room/\d.length+1<=room:=by have:=QO (show d.length+1<=1001 by omega) z;unfold room;constructor<;>omega
 have g:HB ⟨(c,BJ.cells b a x.cells false)::h,c+1,lo⟩:=HB.cons (h:=h) (c:=c) (lo:=lo) N (by omega) (by omega);have f:∀(h:Aa),(∀p y,(p,y)∈h->p<c+1)->∀v,grow (c+1) b a bytes d.length 1 v ⟨h,c+2,lo⟩=some (.AU (c+1) 0 (d.length+1) none,⟨(c+1,.cells b a v true)::h,c+2,lo⟩):=fun h R v=>by simp[grow,ble_eq,i.1,i.2,Bb R]
 cases H with
 |nl=>refine⟨(c+1,.cells b a x.cells true)::(c,BJ.cells b a x.cells false)::h,?_,HB.cons (h:=(c,BJ.cells b a x.cells false)::h) (c:=c+1) (lo:=lo) g (by omega) (by omega),by simp[AZ],fun p r _=>by rw[Dt (by omega),Dt r]⟩;have:=f _ g x.cells;simp only[GY]at this;simp only[Bq,lenOf,m,CX,A,Bj];simp only[show Nat.beq 1 0=false from rfl,Bj];exact this
 |mt j ext F=>
  refine⟨(c+1,.cells b a x.cells true)::(c,BJ.cells b a x.cells false)::h,?_,HB.cons (h:=(c,BJ.cells b a x.cells false)::h) (c:=c+1) (lo:=lo) g (by omega) (by omega),by simp[AZ],fun p r _=>by rw[Dt (by omega),Dt r]⟩;have:=f _ g x.cells;have k:AA ((c,BJ.cells b a x.cells false)::h) j=some (.cells b a [] ext):=by rw[Dt (J j rfl).2];exact F
  simp only[GY]at this;simp only[Bq,lenOf,m,CX,A,Bj];simp only[show Nat.beq 1 0=false from rfl,Bj,GG,k,o,s,GY,La,IK,Dz,FN,QW,List.drop_nil,List.take_nil,JJ];exact this
 |ob j d U Q F=>
  have n:=J j rfl;have l:=CP Q;have k:AA ((c,BJ.cells b a x.cells false)::h) j=some (.cells b a (d.flatMap AV.cells) true):=by rw[Dt n.2];exact F
  have q:∀p y,(p,y)∈Jv ((c,BJ.cells b a x.cells false)::h) j->p<c+1:=fun p y S=>g p y (Oh S);refine⟨(c+1,.cells b a (d.flatMap AV.cells++x.cells) true)::Jv ((c,BJ.cells b a x.cells false)::h) j,?_,HB.cons (h:=Jv ((c,BJ.cells b a x.cells false)::h) j) (c:=c+1) (lo:=lo) q (by omega) (by omega),by simp[AZ],fun p r u=>?_⟩
  ·have:=f _ q (d.flatMap AV.cells++x.cells);have g:Nat.ble (d.length*a) (d.flatMap AV.cells).length=true:=Dv (by omega);have I:Nat.ble ((d.length+1)*a) (d.flatMap AV.cells).length=false:=by rw[ble_eq,l];simp[Il];omega
   have B:Nat.ble lo j=true:=Dv n.1;have D:(d.flatMap AV.cells).take (d.length*a)=d.flatMap AV.cells:=Gx (by omega);simp only[Bq,lenOf,m,CX,A,Bj];simp only[show Nat.beq 1 0=false from rfl,Bj,GG,k,o,s,Dz,g,I,B,FN,Ba,FB,D];exact this
  ·have:j≠p:=fun e=>u (by rw[e];rfl);rw[AZ,AJ (by omega),Gz,AJ this,Dt r]
structure Over (st0 st:St):Prop where
 c:st0.c<=st.c
 lo:st.lo=st0.lo
 hb:HB st
 fr:∀p,p<st0.c->AA st.h p=AA st0.h p
theorem Over.refl{a:St}(b:HB a):Over a a:=⟨Ao _,rfl,b,fun _ _=>rfl⟩
theorem Over.trans{a b c:St}(h:Over a b)(k:Over b c):Over a c:=⟨DV h.c k.c,k.lo.trans h.lo,k.hb,fun p d=>(k.fr p (Bt d h.c)).trans (h.fr p d)⟩
def JB(g:Ac)(i:Nat):List Bz:=(g.AP.take i).map (·.left)
theorem cz{g:Ac}{i:Nat}(a:i<g.AP.length):JB g (i+1)=JB g i++[g.AP[i].left]:=by unfold JB;rw[Gy a,Hf];rfl
theorem Lx{g:Ac}{i:Nat}(a:i<=g.AP.length):(JB g i).length=i:=by unfold JB;simp;omega
theorem nJ{n:Nat}{g:Ac}{H:AV}{l:List AV}(hr:Co H 3 l)(z:Gg l g.AP)(hs:g.Small)(a:St)(R:HB a)(a0:a.lo<=a.c)(b:TS)(J:b.get 3=.AO)(Q:b.get 7=H)(I:b.get 8=.int .i64 (g.AP.length:Int))(K:b.get 9=.int .i64 ((0:Nat):Int)) :
 (Dm (Bc E (Ab E n) C.f111L0) E.k b a).to fun x=>x.1=.exit 0/\Over a x.2.2/\Lp x.2.2.h 9 1 (x.2.1.get 3) (Bf (JB g g.AP.length))/\∀p,Az (x.2.1.get 3)=some p->a.c<=p/\p<x.2.2.c:=by
 have a1:=z.length;have T:=hs.many;refine Cy (fun (i:Nat) D A=>i<=g.AP.length/\D.get 7=H/\D.get 8=.int .i64 (g.AP.length:Int)/\D.get 9=.int .i64 (i:Int)/\Over a A/\∃w,D.get 3=w/\Lp A.h 9 1 w (Bf (JB g i))/\∀p,Az w=some p->a.c<=p/\p<A.c)
  (fun i=>g.AP.length-i) ?_ _ 0 _ _ ?_ ?_
 ·rintro i D A ⟨hi,Q,I,K,O,w,J,M,hw⟩;by_cases Bi:i<g.AP.length
  ·have U:i<l.length:=by omega
   obtain⟨w1,lv,e1⟩:=(z.get i Bi).2.AFR;obtain⟨h,c,lo⟩:=A;have a2:a.c<=c:=O.c;have Y:lo=a.lo:=O.lo;have W:∀p x,(p,x)∈h->p<c:=O.hb;obtain⟨r,f⟩:∃r:List AV,r=[.str g.AP[i].left,w1,lv]:=⟨_,rfl⟩;obtain⟨d,m⟩:∃d:Aa,d=(c,BJ.cells 63 3 r false)::h:=⟨_,rfl⟩;have v:HB ⟨d,c+1,lo⟩:=m▸HB.cons (h:=h) (c:=c) (lo:=lo) O.hb (by omega) (by omega);have fr:∀p,p<c->AA d p=AA h p:=fun p q=>by rw[m,AZ,AJ (by omega)]
   have u:AY 3 H (.int .i64 (i:Int)) ⟨h,c+1,lo⟩=some (.CB l[i].cells,⟨h,c+1,lo⟩):=hr.idx U;have j:l[i].cells=r:=by rw[e1,f];rfl
   rw[j]at u;have hn:BA c (.cells 63 3 [.str [],.AO,.int .i64 0] false) ⟨h,c+1,lo⟩=some ⟨(c,.cells 63 3 [.str [],.AO,.int .i64 0] false)::h,c+1,lo⟩:=Bb W;have y:=Ic (h:=h) (c:=c) (c':=c+1) (lo:=lo) (ty:=63) (n:=3) (zs:=[.str [],.AO,.int .i64 0]) (vs:=r) (by omega) (by rw[f];rfl) rfl;rw[←m]at y;have B:Ak h (.CB r) 3=some r:=by rw[f];rfl
   have fc:AA d c=some (.cells 63 3 r false):=by rw[m,AZ,AX rfl]
   have S:AQ d (.AL c 0)=some (.str g.AP[i].left):=by rw[AR fc,f];rfl
   have L:BC (c+1) 9 1 1 [.str []] [0] [.str g.AP[i].left]=some (.AU (c+1) 0 1 (some 1),.cells 9 1 [.str g.AP[i].left] false):=by simp[BC,blt_eq,ble_eq,Bp,Bl,AV.isTuple,AV.cells]
   have n2:BA (c+1) (.cells 9 1 [.str g.AP[i].left] false) ⟨d,c+1+2,lo⟩=some ⟨(c+1,.cells 9 1 [.str g.AP[i].left] false)::d,c+1+2,lo⟩:=Bb v;have t:∀p,Az w=some p->a.c<=p/\p<c:=hw;have M':Lp d 9 1 w (Bf (JB g i)):=M.heap fun o ho=>fr o (t o ho).2;obtain⟨P,p1,p2,Z,p4⟩:=wR (bytes:=16) (x:=.str g.AP[i].left) v M' (fun p q=>by have:=t p q;omega) (by omega) (by omega) (by simp[Lx (show i<=g.AP.length by omega)];omega) rfl;have N:(Bf (JB g i)).length=i:=by rw[Gb,Lx (by omega)]
   rw[N]at p1;have F:Bf (JB g i)++[.str g.AP[i].left]=Bf (JB g (i+1)):=by rw[cz Bi];simp[Bf]
   rw[F,Mc]at Z;have V:Bq (c+1+1) 9 1 16 w (.AU (c+1) 0 1 (some 1)) ⟨(c+1,.cells 9 1 [.str g.AP[i].left] false)::d,c+1+2,lo⟩=some (.AU (c+1+1) 0 (i+1) none,⟨P,c+1+2,lo⟩):=p1;simp[C.f111L0,J,Q,I,K,Bi,u,-Cw,B,hn,y,S,L,n2,V,wi i];have hM:Lp P 9 1 (.AU (c+1+1) 0 (i+1) none) (Bf (JB g (i+1))):=by
    have:=Lp.ob (h:=P) (ty:=9) (sz:=1) (c+1+1) (Bf (JB g (i+1))) (by rw[←F];simp) (fun x hx=>by
     simp only[Bf,BP]at hx
     obtain⟨s,_,rfl⟩:=hx;rfl) (by rw[Mc];exact Z)
    rw[Gb,Lx (by omega)]at this;exact this
   exact⟨i+1,by omega,by omega,by simp,⟨by show a.c<=c+1+2;omega,Y,p2,fun p q=>by rw[←O.fr p q,←fr p (by omega)];exact p4 p (by omega) fun e=>by have:=t p e;omega⟩,hM,fun p q=>by simp only[Az,Ct]at q;omega⟩
  ·have:i=g.AP.length:=by omega
   subst this;simp[C.f111L0,J,I,K,O];exact⟨M,hw⟩
 ·exact FX (by show g.AP.length-0<1000000;omega)
 ·exact⟨by omega,Q,I,K,.refl R,_,J,.nl,fun p q=>by cases q⟩
theorem VV.over{id:Nat}{ext:Bool}{L0 L:List Bz}{a b s:St}(H:Zb id a b)(f:HB a)(O:Over s a)(e:s.c<=id):Over s b:=
 ⟨by rw[H.c];exact O.c,H.lo.trans O.lo,H.hb f,fun p d=>(H.fr p (by omega)).trans (O.fr p d)⟩
theorem nK{k:Nat}{v:AV}{g:Ac}{st:St}(hg:GD v g)(hs:g.Small)(h0:0<g.AP.length)(W:HB st)(O:st.lo<=st.c) :
 ((Bc E (Ab E (k+5)) C.f111.body (TS.FK [v] 0 .nil) st).bind (Al [.tmp 2])).to fun x=>Over st x.2/\∃id,st.c<=id/\id<x.2.c/\Got x.2.h id x.1 g.Km:=by
 obtain⟨y,i,l,rfl,hk,hr,t⟩:=hg;have J:=t.length;have K:=hs.many;obtain⟨h,c,lo⟩:=st;have a0:lo<=c:=O;have V:∀p x,(p,x)∈h->p<c:=W;have Q:Ls c 29 3 (.agg [y,.str g.Ai,i])=some (.AL c 0,.cells 29 3 [y,.str g.Ai,i] false):=rfl;obtain⟨f,b⟩:∃f:Aa,f=(c,BJ.cells 29 3 [y,.str g.Ai,i] false)::h:=⟨_,rfl⟩;have n1:BA c (.cells 29 3 [y,.str g.Ai,i] false) ⟨h,c+1,lo⟩=some ⟨f,c+1,lo⟩:=by rw[b];exact Bb V
 have z:HB ⟨f,c+1,lo⟩:=b▸HB.cons (h:=h) (c:=c) (lo:=lo) W (by omega) (by omega);have O1:Over ⟨h,c,lo⟩ ⟨f,c+1,lo⟩:=⟨by show c<=c+1;omega,rfl,z,fun p hp=>by rw[b];exact Dt hp⟩;have f1:AA f c=some (.cells 29 3 [y,.str g.Ai,i] false):=by rw[b,AZ,AX rfl]
 have r2:AQ f (.AL c 2)=some i:=by rw[AR f1];rfl
 have N:∀B:St,BZ .slice i B=some (.int .i64 (g.AP.length:Int),B):=fun B=>by have:=hr.len (st:=B);rw[this,J]
 simp[C.f111,Q,n1,r2,N];refine M.BG (nJ hr t hs _ z (by show lo<=c+1;omega) _ (by simp) (by simp) (by simp) (by simp)) fun x o=>?_;obtain⟨e,T,F⟩:=x;obtain⟨Z,D,M,I⟩:=o;simp only at Z D M I;subst Z;generalize j:T.get 3=w at M I;generalize r:Bf (JB g g.AP.length)=LL at M;have m:(JB g g.AP.length).length=g.AP.length:=Lx (Ao _);have u:LL.length=g.AP.length:=by rw[←r,Gb,m]
 cases M with
 |nl=>simp only[GY]at u;omega
 |mt=>simp only[GY]at u;omega
 |ob id _ a1 hc hf=>
  have q:=I id rfl;subst r;rw[Mc]at hf;rw[Gb]at j;have a2:c+1<=id:=q.1;have Y:F.lo=lo:=D.lo;have sorted:=wD (k:=k) (cap:=none) hf (by omega) (by omega);simp[j];refine M.BG sorted fun x o=>?_;obtain⟨v1,H⟩:=x;obtain⟨A,d,hS⟩:=o;simp only at d;have a:=d.len;rw[←a]at hS;have comp:=jY (n:=k+4) d.at_ hS (by omega) (by omega) (by rw[d.only.lo];omega);rw[a]at comp;simp;refine M.BG comp fun x o=>?_;obtain⟨v2,P⟩:=x;obtain⟨R,U,G,hU,hm⟩:=o;simp only at R G;have S:U=g.Km:=vo hU g.Xr fun s=>by rw[hm,d.mem,Ac.Mj];unfold JB Ac.isLeft;rw[FQ];simp
  subst S;have O3:Over ⟨h,c,lo⟩ H:=VV.over (ext:=true) (L0:=A) (L:=A) d.only D.hb (O1.trans D) (by show c<=id;omega);have O4:Over ⟨h,c,lo⟩ P:=VV.over (ext:=true) (L0:=A) (L:=A) R O3.hb O3 (by show c<=id;omega);simp[Al,results,Af];exact⟨O4,id,by omega,by rw[R.c,d.only.c];exact q.2,G⟩
theorem Got.Ce{h:Aa}{id c:Nat}{w:AV}{U:List Bz}(H:Got h id w U)(e:c<=id):∃w',Co w' 1 (Bf U)/\∀n,2<=n->Ce c h n w=some w':=by
 obtain⟨rest,ext,rfl,b⟩:=H;refine⟨.list false 1 (Bf U),⟨.inr ⟨_,rfl⟩⟩,fun n f=>?_⟩;obtain⟨m,rfl⟩:∃m,n=m+2:=⟨n-2,by omega⟩;have a:(Bf U).length=U.length:=Gb U;have d:DD (Am.Ce c h (m+1)) (((Bf U++rest).drop 0).take (U.length*1))=some (Bf U):=by rw[FB,Fe,←a,Je];exact Hu (LW c U)
 rw[Gh e b (by omega) (by simp) d,←a,Jw]
theorem HB.nil:HB ⟨[],0,0⟩:=fun p x h=>by cases h
theorem Zx{k:Nat}{v:AV}{g:Ac}{st:St}(b:GD v g)(n:g.Small)(f:0<g.AP.length) :
 ∃w,Ab E (k+6) 111 [v] st=.ret (w,st)/\Co w 1 (Bf g.Km):=by
 have a:=b.Ow 0;rw[GH (fn:=C.f111) rfl rfl rfl (by simp[AV.Dq,a]),Ap (by simp)];have h:=nK (k:=k) (st:=⟨[],0,0⟩) b n f HB.nil (Ao _);obtain⟨⟨w,m⟩,j,O,id,p,o,G⟩:=h;skip;have e:C.f111.results=[.tmp 2]:=rfl;rw[e,j];obtain⟨d,l,i⟩:=G.Ce (c:=0) (CZ _);exact⟨d,by simp only[M.JZ,BU,Ck,i 64 (by omega)],l⟩
structure AHY (st0 st:St):Prop where
 c:st0.c<=st.c
 hb:HB st
 fr:∀p,p<st0.c->AA st.h p=AA st0.h p
theorem WM{α:Type}{p q:α->Bool}{l:List α}(h:∀x∈l,p x=true->q x=true){a:α}(b:a∈l)(d:p a=false)(g:q a=true):l.countP p<l.countP q:=by
 induction l with
 |nil=>cases b
 |cons x l i=>
  have j:l.countP p<=l.countP q:=List.countP_mono_left fun y c=>h y (Cu _ c);rcases BK.1 b with e|b
  ·subst e;rw[List.countP_cons_of_neg (by simp[d]),List.countP_cons_of_pos g];omega
  ·have:=i (fun y c=>h y (Cu _ c)) b;rw[TD,TD];have f:=h x (by simp);cases h1:p x with
   |true=>rw[f h1];omega
   |false=>simp;omega
structure GR (st0:St)(gs:List AV)(K:List Bz)(st:St):Prop where
 ext:AHY st0 st
 lo:st.lo=st0.c
 c3:st0.c+3<=st.c
 g0:AA st.h st0.c=some (.cells 29 3 gs false)
 m1:IC st.h (st0.c+1) K
 k2:AA st.h (st0.c+2)=some (.cells 155 1 [.Cq (st0.c+1)] false)
end Go.Am
