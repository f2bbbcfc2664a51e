/- A part of the proof of grammarsComeBack (merged by a program). -/
import Derived.Test.YtmnlpahaihiegaaGreatDoorW1
namespace Go.Am
open Go
structure Reads (h:Heap)(w:AV)(l:List BB):Prop where
 len:Bu w=some l.length
 at_:∀(i:Nat) (hi:i<l.length) (st:St),st.h=h->∃p,Ad 1 w (.int .i64 (i:Int)) st=some (p,st)/\AP h p=some (.str l[i])
theorem Reads.Ub {h:Heap}{w:AV}{l:List BB}(H:Ci w 1 (strs l)):Reads h w l where
 len:=by rw[H.bD]; simp
 at_:=fun i hi st _=>⟨_,H.Jr hi,rfl⟩
theorem Reads.ofM {h:Heap}{w:AV}{l:List BB}(H:LH h 9 1 w (strs l)):Reads h w l where
 len:=by rw[H.len]; simp
 at_:=fun i hi st hs=>by
  generalize hxs:strs l=xs at H
  have hl:l.length=xs.length:=by rw[← hxs]; simp
  cases H with
  |nl=>simp only[List.length_nil] at hl; omega
  |mt=>simp only[List.length_nil] at hl; omega
  |ob id xs h0 h1 hf=>
   subst hxs; subst hs
   rw[OI] at hf
   have hi':i<(strs l).length:=by simpa using hi
   refine⟨.AO id i,?_,?_⟩
   ·simp[Ad,Bd,hf,blt_eq,hi,beq_eq]
   ·rw[AL hf,List.getElem?_eq_getElem hi']; simp[strs]
theorem KU {k:Nat}{w1 w2:AV}{l1 l2:List BB}{st:St}(H1:Reads st.h w1 l1)(H2:Reads st.h w2 l2)(hb:l1.length<1000000) :
 AX E (k+1) 17 [w1,w2] st=.ret (.bool (decide (l1=l2)),st):=by
 rw[Ai (fn:=C.f17) rfl rfl rfl,Af (by simp)]
 apply M.to_eq
 by_cases hl:l1.length=l2.length
 ·have hln:((l1.length:Int) !=(l2.length:Int))=false:=by simp[hl]
  have hneq:(!((l1.length:Int)==(l2.length:Int)))=false:=by simp[hl]
  simp[C.f17,Be,H1.len,H2.len,hl]
  refine M.BX (Kb (fun (i:Nat) ts st'=>st'=st/\i<=l1.length/\ts.get 0=w1/\ts.get 1=w2/\ts.get 12=.int .i64 (l1.length:Int)/\ts.get 13=.int .i64 (i:Int)/\l1.take i=l2.take i)
   (fun i=>l1.length-i) (fun e ts st'=>st'=st/\((e=.exit 0/\l1=l2)∨(e=.ret/\l1≠l2/\ts.get 4=.bool false))) ?step _ 0 _ _ ?_ ?_) ?_
  case step=>
   rintro i ts st' ⟨rfl,hi,h0,h1,h12,h13,htk⟩
   by_cases Bc:i<l1.length
   ·have hlt2:i<l2.length:=by omega
    obtain⟨p1,a1,b1⟩:=H1.at_ i Bc st' rfl
    obtain⟨p2,a2,b2⟩:=H2.at_ i hlt2 st' rfl
    by_cases he:l1[i]=l2[i]
    ·simp[C.f17L0,h0,h1,h12,h13,Bc,a1,a2,b1,b2,he,wi i]
     refine⟨i+1,by omega,by omega,by simp,?_⟩
     rw[List.take_succ_eq_append_getElem Bc,List.take_succ_eq_append_getElem hlt2,htk,he]
    ·have hne:l1≠l2:=fun e=>he (by simp[e])
     simp[C.f17L0,h0,h1,h12,h13,Bc,a1,a2,b1,b2,he,beq_false_of_ne he,hne]
   ·have:i=l1.length:=by omega
    subst this
    simp[C.f17L0,h0,h1,h12,h13]
    rw[List.take_length] at htk
    rw[htk,List.take_of_length_le (by omega)]
  ·show l1.length-0<1000000; omega
  ·simp[hl]
  ·rintro⟨e,ts,st'⟩ ⟨rfl,h⟩
   rcases h with⟨rfl,h⟩|⟨rfl,h,h4⟩
   ·simp[h,leave,results,AR]
   ·simp[h,h4,leave,results,AR]
 ·have hne:l1≠l2:=fun e=>hl (by rw[e])
  have hl':¬((l1.length:Int)=(l2.length:Int)):=by omega
  simp[C.f17,Be,H1.len,H2.len,hl,bne_iff_ne.2 hl',hne,leave,results,AR]
theorem PU {k n fc:Nat}{w:AV}{a b:List AV}{el:Nat->List AV}{p:Nat->Bool}{st:St}(hlen:Bu w=some n)(hn:n<1000000)(hat:∀i,i<n->∃q,Ad 3 w (.int .i64 (i:Int)) st=some (q,st)/\Ac st.h q 3=some (el i))(hcall:∀i,i<n->AX E k fc (a++([.agg (el i)]++b)) st=.ret (.bool (p i),st)) :
 (AX E (k+1) 47 [w,.fn (.func fc) a b] st=.ret (.int .i64 (-1),st)/\∀j,j<n->p j=false)∨∃i:Nat,i<n/\p i=true/\(∀j,j<i->p j=false)/\AX E (k+1) 47 [w,.fn (.func fc) a b] st=.ret (.int .i64 (i:Int),st):=by
 have main:(Ct E (AX E k) C.f47 [w,.fn (.func fc) a b] st).to fun x=>(x=(.int .i64 (-1),st)/\∀j,j<n->p j=false)∨∃i:Nat,i<n/\p i=true/\(∀j,j<i->p j=false)/\x=(.int .i64 (i:Int),st):=by
  rw[Af (by simp)]
  simp[C.f47,Be,hlen]
  refine M.BX (Kb (fun (i:Nat) ts st'=>st'=st/\i<=n/\ts.get 0=w/\ts.get 1=.fn (.func fc) a b/\ts.get 7=.int .i64 (n:Int)/\ts.get 8=.int .i64 (i:Int)/\∀j,j<i->p j=false)
   (fun i=>n-i) (fun e ts st'=>st'=st/\((e=.exit 0/\∀j,j<n->p j=false)∨(e=.ret/\∃i:Nat,i<n/\p i=true/\(∀j,j<i->p j=false)/\ts.get 4=.int .i64 (i:Int)))) ?step _ 0 _ _ ?_ ?_) ?_
  case step=>
   rintro i ts st' ⟨rfl,hi,h0,h1,h7,h8,hj⟩
   by_cases Bc:i<n
   ·obtain⟨q,a1,b1⟩:=hat i Bc
    have hc:=hcall i Bc
    simp only[List.singleton_append] at hc
    cases hp:p i with
    |true=>
     rw[hp] at hc
     simp[C.f47L0,h0,h1,h7,h8,Bc,a1,b1,hc]
     exact⟨i,Bc,hp,hj,rfl⟩
    |false=>
     rw[hp] at hc
     simp[C.f47L0,h0,h1,h7,h8,Bc,a1,b1,hc,wi i]
     refine⟨i+1,by omega,by omega,by simp,fun j hji=>?_⟩
     by_cases e:j=i
     ·subst e; exact hp
     ·exact hj j (by omega)
   ·have:i=n:=by omega
    subst this
    simp[C.f47L0,h0,h1,h7,h8]
    exact hj
  ·show n-0<1000000; omega
  ·simp
  ·rintro⟨e,ts,st'⟩ ⟨rfl,h⟩
   rcases h with⟨rfl,h⟩|⟨rfl,i,hi,hp,hj,h4⟩
   ·simp[leave,results,AR]
    exact h
   ·simp[h4,leave,results,AR]
    exact⟨i,hi,hp,hj,rfl⟩
 rw[Ai (fn:=C.f47) rfl rfl rfl]
 obtain⟨x,h1,⟨rfl,h2⟩|⟨i,hi,hp,hj,rfl⟩⟩:=main
 ·exact .inl ⟨h1,h2⟩
 ·exact .inr ⟨i,hi,hp,hj,h1⟩
theorem RZ {k n fc:Nat}{w:AV}{a b:List AV}{el:Nat->List AV}{p:Nat->Bool}{st:St}(hlen:Bu w=some n)(hn:n<1000000)(hat:∀i,i<n->∃q,Ad 3 w (.int .i64 (i:Int)) st=some (q,st)/\Ac st.h q 3=some (el i))(hcall:∀i,i<n->AX E k fc (a++([.agg (el i)]++b)) st=.ret (.bool (p i),st)) :
 ∃r:Int,AX E (k+1) 47 [w,.fn (.func fc) a b] st=.ret (.int .i64 r,st)/\-1<=r/\(0<=r↔∃i,i<n/\p i=true):=by
 rcases PU hlen hn hat hcall with⟨h1,h2⟩|⟨i,hi,hp,_,h1⟩
 ·exact⟨-1,h1,by omega,⟨fun h=>by omega,fun⟨i,hi,hp⟩=>by rw[h2 i hi] at hp; cases hp⟩⟩
 ·exact⟨i,h1,by omega,⟨fun _=>⟨i,hi,hp⟩,fun _=>by omega⟩⟩
theorem Fw {k n fc:Nat}{w:AV}{a b:List AV}{el:Nat->List AV}{p:Nat->Bool}{st:St}(hlen:Bu w=some n)(hn:n<1000000)(hat:∀i,i<n->∃q,Ad 3 w (.int .i64 (i:Int)) st=some (q,st)/\Ac st.h q 3=some (el i))(hcall:∀i,i<n->AX E k fc (a++([.agg (el i)]++b)) st=.ret (.bool (p i),st)) :
 AX E (k+2) 15 [w,.fn (.func fc) a b] st=.ret (.bool (decide (∃i,i<n/\p i=true)),st):=by
 obtain⟨r,h1,h2,h3⟩:=RZ hlen hn hat hcall
 rw[Ai (fn:=C.f15) rfl rfl rfl,Af (by simp)]
 have:decide (0<=r)=decide (∃i,i<n/\p i=true):=by simp only[h3]
 simp[C.f15,h1,leave,results,AR]
 simpa using this
theorem DT {c:Nat}{st st':St}{v:AV}(h:v.CF c=true):Bn c st (v,st')=.ret (v,st):=by
 have:Cf c st'.h 64 v=some v:=Dv (n:=63) h
 simp[Bn,CV,this]
@[simp] theorem bH {c:Nat}{st st':St}{b:Bool}:Bn c st (.bool b,st')=.ret (.bool b,st):=DT rfl
@[simp] theorem dS {c:Nat}{st st':St}{k:IntKind}{n:Int}:Bn c st (.int k n,st')=.ret (.int k n,st):=DT rfl
@[simp] theorem RU {c:Nat}{st st':St}{s:BB}:Bn c st (.str s,st')=.ret (.str s,st):=DT rfl
theorem Yo {k q:Nat}{st:St}{la lb:BB}{wa wb:AV}{ra rb:List BB}{na nb:Int}(hb:HB st)(hq:q<st.c)(hf:AA st.h q=some (.cells 47 3 [.str lb,wb,.int .i64 nb] false))(hra:ra.length<1000000)(r1:∀h:Heap,(∀p,p<st.c->AA h p=AA st.h p)->Reads h wa ra)(r2:∀h:Heap,(∀p,p<st.c->AA h p=AA st.h p)->Reads h wb rb) :
 AX E (k+2) 16 [.agg [.str la,wa,.int .i64 na],.AO q 0] st=.ret (.bool (decide (la=lb/\ra=rb)),st):=by
 rw[CY (fn:=C.f16) rfl rfl rfl,Af (by simp)]
 have hb':∀p x,(p,x)∈st.h->p<st.c:=hb
 have hfr:∀p,p<st.c->AA ((st.c,Al.cells 47 3 [.str la,wa,.int .i64 na] false)::st.h) p=AA st.h p:=fun p hp=>by rw[AJ,if_neg (by omega)]
 have f1:AA ((st.c,Al.cells 47 3 [.str la,wa,.int .i64 na] false)::st.h) st.c=some (.cells 47 3 [.str la,wa,.int .i64 na] false):=by rw[AJ,if_pos rfl]
 have f2:=(hfr q hq).trans hf
 have e1:AP ((st.c,Al.cells 47 3 [.str la,wa,.int .i64 na] false)::st.h) (.AO st.c 0)=some (.str la):=by rw[AL f1]; rfl
 have e2:AP ((st.c,Al.cells 47 3 [.str la,wa,.int .i64 na] false)::st.h) (.AO st.c 1)=some wa:=by rw[AL f1]; rfl
 have e3:AP ((st.c,Al.cells 47 3 [.str la,wa,.int .i64 na] false)::st.h) (.AO q 0)=some (.str lb):=by rw[AL f2]; rfl
 have e4:AP ((st.c,Al.cells 47 3 [.str la,wa,.int .i64 na] false)::st.h) (.AO q 1)=some wb:=by rw[AL f2]; rfl
 have heq:=fun (c' l':Nat)=>KU (k:=k) (st:=⟨(st.c,.cells 47 3 [.str la,wa,.int .i64 na] false)::st.h,c',l'⟩) (r1 _ hfr) (r2 _ hfr) hra
 by_cases h:la=lb
 ·subst h
  simp[C.f16,Gy,AV.isTuple,AV.cells,Ao hb',JX,e1,e2,e3,e4,heq,leave,results,AR]
 ·simp[C.f16,Gy,AV.isTuple,AV.cells,Ao hb',JX,e1,e2,e3,e4,h,beq_false_of_ne h,leave,results,AR]
section
variable {c o:Nat}{vs:AV}{zs:List Int}{st0 st1:St}
structure Zz (c o:Nat)(vs:AV)(a:Int)(st0 st1:St)(b sy:Nat)(syms:List BB)(lf:BB)(w:AV)(r:List BB)(st:St):Prop where
 k:Br c o vs a st0 st
 cc:b+1<=st.c
 obj:AA st.h b=some (.cells 47 3 [.str lf,w,.int .i64 0] false)
 right:LH st.h 9 1 w (strs r)
 BC:∀p,BR w=some p->b<p/\p<st.c
 lq:AA st.h sy=some (.cells 9 1 (strs syms) true)
 CF:∀p,p<b->p≠o->AA st.h p=AA st1.h p
 from_:∀s∈r,s∈syms
theorem Zd {k N b sy:Nat}{a:Int}{syms:List BB}{lf:BB}(hv:CB vs zs)(hcb:c<=b)(hsy:sy<b/\c<=sy)(hsy0:0<syms.length)(hsyn:syms.length<=10)(hN:N<=3)(ha:0<=a/\a<50000)(ts0:TS)(h0:ts0.get 0=.AO o 0)(h5:ts0.get 5=.AU sy 0 syms.length none)(h8:ts0.get 8=.AO b 0)(h46:ts0.get 46=.int .i64 (N:Int))(h47:ts0.get 47=.int .i64 ((0:Nat):Int))(st:St)(F0:Zz c o vs a st0 st1 b sy syms lf .AB [] st) :
 (Dh (BF E (AX E (k+3)) C.f4L1) E.k ts0 st).to fun x=>x.1=.exit 2/\(∀s,s<46->x.2.1.get s=ts0.get s)/\∃w r m,r.length<=3/\0<=m/\m<=3/\Zz c o vs (a+m) st0 st1 b sy syms lf w r x.2.2:=by
 refine DI (fun (j:Nat) ts st=>j<=N/\(∀s,s<47->ts.get s=ts0.get s)/\ts.get 47=.int .i64 (j:Int)/\∃w r,r.length=j/\Zz c o vs (a+j) st0 st1 b sy syms lf w r st)
  (fun j=>N-j) ?_ _ 0 _ _ ?_ ?_
 ·rintro j ts st ⟨hj,hts,h47,w,r,hrl,F⟩
  have t0:=(hts 0 (by omega)).trans h0
  have t5:=(hts 5 (by omega)).trans h5
  have t8:=(hts 8 (by omega)).trans h8
  have t46:=(hts 46 (by omega)).trans h46
  by_cases Bc:j<N
  ·have hoc:=F.k.oc
   have hcc:=F.cc
   have hnext:=fun (c':Nat)=>FX (k:=k+1) (st:=⟨st.h,c',st.lo⟩) (o:=o) (v:=vs) (a:=a+j) ⟨F.k.GI,by show st.lo<=o; rw[F.k.lo]; exact F.k.MP⟩ hv (by omega) (n:=(syms.length:Int)) (by unfold MK; omega)
   have hr:=Cg (zs:=zs) (a:=a+j+1) (n:=(syms.length:Int)) (by omega)
   obtain⟨i,hi⟩:∃i:Nat,BK zs (a+j+1) (syms.length:Int)=i:=⟨(BK zs (a+j+1) (syms.length:Int)).toNat,by omega⟩
   rw[hi] at hnext
   have hil:i<syms.length:=by omega
   have K2:=F.k.tick (a+j+1)
   have K2':Br c o vs (a+j+1) st0 (tick ⟨st.h,st.c+2,st.lo⟩ o vs (a+j+1)):=⟨fun p x hx=>Nat.lt_of_lt_of_le (K2.hb p x hx) (by show st.c<=st.c+2; omega),K2.lo,K2.MP,K2.oc,K2.GI,K2.CF,K2.mem⟩
   generalize hS2:tick ⟨st.h,st.c+2,st.lo⟩ o vs (a+j+1)=S2 at K2'
   have hS2c:S2.c=st.c+2:=by rw[← hS2]; rfl
   have hfr:∀p,p≠o->AA S2.h p=AA st.h p:=fun p h2=>by rw[← hS2]; exact Cj (st:=⟨st.h,st.c+2,st.lo⟩) F.k.GI h2
   have hb2:∀p x,(p,x)∈S2.h->p<st.c:=fun p x hm=>by rw[← hS2] at hm; exact K2.hb p x hm
   have hsy2:AA S2.h sy=some (.cells 9 1 (strs syms) true):=by rw[hfr sy (by omega)]; exact F.lq
   have hix:Ad 1 (.AU sy 0 syms.length none) (.int .i64 (i:Int)) S2=some (.AO sy i,S2):=by simp[Ad,Bd,hsy2,blt_eq,beq_eq,hil]
   have hrd:AP S2.h (.AO sy i)=some (.str syms[i]):=by
    rw[AL hsy2,List.getElem?_eq_getElem (by simpa using hil)]; simp[strs]
   have K3:=K2'.cons (p:=st.c) (x:=.cells 9 1 [.str syms[i]] false) (n:=S2.c) (by omega) (by omega) (Nat.le_refl _)
   have hmw:LH ((st.c,Al.cells 9 1 [.str syms[i]] false)::S2.h) 9 1 w (strs r):=F.right.heap fun p hp=>by
    have:=F.BC p hp
    rw[AJ,if_neg (by omega)]; exact hfr p (by omega)
   obtain⟨S4,happ,hS4c,K4,hf4,hfr4⟩:=JW (bytes:=16) (id:=st.c+1) (e:=st.c) (x:=.str syms[i]) K3 hmw (fun p hp=>by have:=F.BC p hp; omega) (by omega) (by omega) (by simp; omega) (by simp[AJ,AV.cells]) rfl
    (fun p y hm=>by
     rcases List.mem_cons.1 hm with h|h
     ·cases h; omega
     ·have:=hb2 p y h; omega) (by show st.c+1<S2.c; omega) (by omega)
   have hob2:AA S2.h b=some (.cells 47 3 [.str lf,w,.int .i64 0] false):=by rw[hfr b (by omega)]; exact F.obj
   have hob4:AA S4.h b=some (.cells 47 3 [.str lf,w,.int .i64 0] false):=by
    rw[hfr4 b (by omega) (fun e=>by have:=F.BC _ e; omega),AJ,if_neg (by omega)]; exact hob2
   have hsto:=Cr (st:=S4) (off:=1) (v:=.AU (st.c+1) 0 (r.length+1) none) hob4 (by rw[K4.lo]; have:=F.k.MP; omega) (by simp) rfl rfl
   simp only[List.set_cons_succ,List.set_cons_zero] at hsto
   have hl1:AP st.h (.AO b 1)=some w:=by rw[AL F.obj]; rfl
   have hl2:AP S2.h (.AO b 1)=some w:=by rw[AL hob2]; rfl
   have e3:newObj st.c (.cells 9 1 [.str syms[i]] false) S2=some ⟨(st.c,.cells 9 1 [.str syms[i]] false)::S2.h,S2.c,S2.lo⟩:=Ao (h:=S2.h) (c:=S2.c) (lo:=S2.lo) hb2
   have hnext':=hnext (st.c+2)
   rw[hS2] at hnext'
   simp at happ
   simp[C.f4L1,t0,t5,t8,t46,h47,Bc,Gz,IY,Dw,Da,Fj,beq_eq,hl1,hl2,AV.Fe,Be,Bu,hnext',hix,hrd,Ar,blt_eq,ble_eq,BA,BS,AV.isTuple,AV.cells,e3,happ,hsto,wi j]
   refine⟨j+1,by omega,by omega,fun s hs=>?_,by simp,.AU (st.c+1) 0 (r.length+1) none,r++[syms[i]],by simp[hrl],?_⟩
   ·have e:∀n,47<=n->¬n=s:=fun n hn=>by omega
    simp[e,hts s hs]
   ·have hk5:=K4.Aa (p:=b) (x:=.cells 47 3 [.str lf,.AU (st.c+1) 0 (r.length+1) none,.int .i64 0] false) hcb hob4
    refine⟨hk5.to (by simp; omega),by show b+1<=S4.c; rw[hS4c]; show b+1<=S2.c; omega,by show AA (Aa _ _ _) b=_; rw[AY hob4,if_pos rfl],?_,fun p hp=>by cases hp; show b<st.c+1/\st.c+1<S4.c; rw[hS4c]; show _/\st.c+1<S2.c; omega,?_,fun p hp hne=>?_,fun x hx=>?_⟩
    ·rw[OH] at hf4
     have hm:=LH.TC (l:=r++[syms[i]]) (by simp) hf4
     rw[show (r++[syms[i]]).length=r.length+1 by simp] at hm
     exact hm.heap fun p hp=>by cases hp; show AA (Aa _ _ _) _=_; rw[AY hob4,if_neg (by omega)]
    ·show AA (Aa _ _ _) sy=_
     rw[AY hob4,if_neg (by omega),hfr4 sy (by omega) (fun e=>by have:=F.BC _ e; omega),AJ,if_neg (by omega)]; exact hsy2
    ·show AA (Aa _ _ _) p=_
     rw[AY hob4,if_neg (by omega),hfr4 p (by omega) (fun e=>by have:=F.BC _ e; omega),AJ,if_neg (by omega),hfr p hne]; exact F.CF p hp hne
    ·rcases List.mem_append.1 hx with h|h
     ·exact F.from_ x h
     ·simp at h; subst h; exact List.getElem_mem hil
  ·have:j=N:=by omega
   subst this
   simp[C.f4L1,t46,h47]
   exact⟨fun s hs=>by
    have e:¬48=s:=by omega
    simp[e,hts s (by omega)],w,r,by omega,j,by omega,by omega,F⟩
 ·show N-0<1000000; omega
 ·exact⟨by omega,fun _ _=>rfl,h47,.AB,[],rfl,F0.k.to (by simp),F0.cc,F0.obj,F0.right,F0.BC,F0.lq,F0.CF,F0.from_⟩
end
structure Bf.YU (r:Bf):Prop where
 left:r.left.length<=50
 right:r.right.length<=3
 names:∀s∈r.right,s.length<=50
 level:0<=r.level/\r.level<=3
structure YS (c o:Nat)(vs:AV)(a:Int)(st0 st:St)(syms:List BB)(rv:AV)(ls:List AV)(rs:List Bf):Prop where
 k:Br c o vs a st0 st
 cc:c+6<=st.c
 q:AA st.h c=some (.cells 29 3 [.AB,.str [],.AB] false)
 lf:AA st.h (c+1)=some (.cells 9 1 [.str [115],.str [116],.str [117]] false)
 sy:AA st.h (c+3)=some (.cells 9 1 (strs syms) true)
 kd:AA st.h (c+4)=some (.cells 9 1 [.str [97],.str [98]] false)
 gb:AA st.h (c+5)=some (.cells 29 3 [.AU (c+4) 0 2 (some 2),.str [115],rv] false)
 rules:LH st.h 47 3 rv ls
 BC:∀p,BR rv=some p->c+6<=p/\p<st.c
 ln:ls.length=rs.length
 each:∀(j:Nat) (hl:j<ls.length) (hr:j<rs.length),OB st.h ls[j] rs[j]/\∀p,GQ ls[j]=some p->c+6<=p/\p<st.c/\BR rv≠some p
 ok:∀r∈rs,r.YU
theorem YS.frame {c o:Nat}{vs:AV}{a a':Int}{st0 st st':St}{syms:List BB}{rv:AV}{ls:List AV}{rs:List Bf}(H:YS c o vs a st0 st syms rv ls rs)(K:Br c o vs a' st0 st')(hc:st.c<=st'.c)(hf:∀p,p<st.c->p≠o->AA st'.h p=AA st.h p):YS c o vs a' st0 st' syms rv ls rs:=by
 have hoc:=H.k.oc
 have hcc:=H.cc
 exact⟨K,by omega,by rw[hf _ (by omega) (by omega)]; exact H.q,by rw[hf _ (by omega) (by omega)]; exact H.lf,by rw[hf _ (by omega) (by omega)]; exact H.sy,by rw[hf _ (by omega) (by omega)]; exact H.kd,by rw[hf _ (by omega) (by omega)]; exact H.gb,
  H.rules.heap fun p hp=>hf p (H.BC p hp).2 (by have:=(H.BC p hp).1; omega),fun p hp=>⟨(H.BC p hp).1,by have:=(H.BC p hp).2; omega⟩,H.ln,
  fun j hl hr=>⟨(H.each j hl hr).1.heap fun p hp=>hf p ((H.each j hl hr).2 p hp).2.1 (by have:=((H.each j hl hr).2 p hp).1; omega),fun p hp=>⟨((H.each j hl hr).2 p hp).1,by have:=((H.each j hl hr).2 p hp).2.1; omega,((H.each j hl hr).2 p hp).2.2⟩⟩,H.ok⟩
section
variable {c o:Nat}{vs:AV}{zs:List Int}{a:Int}{st0 st:St}{syms:List BB}{rv:AV}{ls:List AV}{rs:List Bf}{k:Nat}
theorem nR (H:YS c o vs a st0 st syms rv ls rs)(hrs:rs.length<=50){b:Nat}{lf:BB}{w:AV}{r:List BB}{lv:Int}(hb:b<st.c)(hob:AA st.h b=some (.cells 47 3 [.str lf,w,.int .i64 lv] false))(hw:LH st.h 9 1 w (strs r))(hwid:∀p,BR w=some p->p<st.c) :
 ∃x:Bool,AX E (k+4) 15 [rv,.fn (.func 16) [] [.AO b 0]] st=.ret (.bool x,st)/\(ls=[]->x=false):=by
 have hln:=H.ln
 have hcell:∀i (hi:i<ls.length),∃w',ls[i].cells=[.str (rs[i]'(by omega)).left,w',.int .i64 (rs[i]'(by omega)).level]/\LH st.h 9 1 w' (strs (rs[i]'(by omega)).right)/\∀p,BR w'=some p->p<st.c:=fun i hi=>by
  obtain⟨⟨w',h1,h2⟩,h3⟩:=H.each i hi (by omega)
  exact⟨w',by rw[h1]; rfl,h2,fun p hp=>(h3 p (by rw[h1]; exact hp)).2.1⟩
 have rd:∀{w':AV} {l:List BB},LH st.h 9 1 w' (strs l)->(∀p,BR w'=some p->p<st.c)->∀h:Heap,(∀p,p<st.c->AA h p=AA st.h p)->Reads h w' l:=fun hm hp h hf=>Reads.ofM (hm.heap fun p hpp=>hf p (hp p hpp))
 refine⟨_,Fw (k:=k+2) (n:=ls.length) (el:=fun i=>(ls.getD i .undef).cells) (p:=fun i=>decide ((rs.getD i default).left=lf/\(rs.getD i default).right=r)) H.rules.len (by omega) (fun i hi=>?_) (fun i hi=>?_),fun h=>by subst h; simp⟩
 ·have h3:∀x∈ls,x.cells.length=3:=fun x hx=>by
   obtain⟨i,hi,rfl⟩:=List.getElem_of_mem hx
   obtain⟨w',h1,_⟩:=hcell i hi
   rw[h1]; rfl
  obtain⟨w',h1,_⟩:=hcell i hi
  have hR:=H.rules
  generalize hls:ls=l at hR
  cases hR with
  |nl=>subst hls; simp at hi
  |mt=>subst hls; simp at hi
  |ob id _ h0 _ hf=>
   subst hls
   refine⟨.AO id (3*i),PW hf hi,?_⟩
   have hlen3:(ls.flatMap AV.cells).length=ls.length*3:=Av h3
   have hle:Nat.ble (3*i+3) (ls.flatMap AV.cells).length=true:=Nat.ble_eq_true_of_le (by omega)
   have hg:ls.getD i .undef=ls[i]:=by simp[List.getD,hi]
   obtain⟨w2,e2,_⟩:=(H.each i hi (by omega)).1
   have hget:=Fv h3 (show ls[i]? =some (.agg [.str (rs[i]'(by omega)).left,w2,.int .i64 (rs[i]'(by omega)).level]) by rw[List.getElem?_eq_getElem hi,e2])
   simp only[Ac,hf,hle,cond_true,Option.some.injEq,hg]
   rw[e2]
   apply List.ext_getElem?
   intro j
   match j with
   |0=>simpa [AV.cells] using hget.1
   |1=>simpa [AV.cells] using hget.2.1
   |2=>simpa [AV.cells] using hget.2.2
   |j+3=>simp[AV.cells]; omega
 ·obtain⟨w',h1,h2,h3⟩:=hcell i hi
  have hg:ls.getD i .undef=ls[i]:=by simp[List.getD,hi]
  have hg2:rs.getD i default=rs[i]'(by omega):=by simp[List.getD,show i<rs.length by omega]
  simp only[List.nil_append,hg,hg2,h1]
  have hrl:=(H.ok _ (List.getElem_mem (show i<rs.length by omega))).right
  exact Yo (k:=k) H.k.hb hb hob (by omega) (rd h2 h3) (rd hw hwid)
end
theorem M.SQ {α β:Type}{b:Bool}{x y:M α}{f:α->M β}:(bif b then x else y).bind f=bif b then x.bind f else y.bind f:=by cases b <;> rfl
section
variable {c o:Nat}{vs:AV}{zs:List Int}{st0:St}{syms:List BB}{k:Nat}
structure Made (c o:Nat)(vs:AV)(a:Int)(st0 st1:St)(b:Nat)(lf:BB)(w:AV)(r:List BB)(lv:Int)(st:St):Prop where
 k:Br c o vs a st0 st
 cc:b+1<=st.c
 obj:AA st.h b=some (.cells 47 3 [.str lf,w,.int .i64 lv] false)
 right:LH st.h 9 1 w (strs r)
 BC:∀p,BR w=some p->b<p/\p<st.c
 CF:∀p,p<b->p≠o->AA st.h p=AA st1.h p
theorem Zz.made {a:Int}{st1 st:St}{b sy:Nat}{lf:BB}{w:AV}{r:List BB}(F:Zz c o vs a st0 st1 b sy syms lf w r st):Made c o vs a st0 st1 b lf w r 0 st:=⟨F.k,F.cc,F.obj,F.right,F.BC,F.CF⟩
theorem Made.tick {a:Int}{st1 st:St}{b:Nat}{lf:BB}{w:AV}{r:List BB}{lv:Int}(F:Made c o vs a st0 st1 b lf w r lv st)(hcb:c<=b)(a':Int):Made c o vs a' st0 st1 b lf w r lv (tick st o vs a'):=by
 have hoc:=F.k.oc
 have hf:∀p,p≠o->AA (Am.tick st o vs a').h p=AA st.h p:=fun p hp=>Cj F.k.GI hp
 exact⟨F.k.tick a',F.cc,by rw[hf b (by omega)]; exact F.obj,F.right.heap fun p hp=>hf p (by have:=F.BC p hp; omega),F.BC,fun p hp hne=>(hf p hne).trans (F.CF p hp hne)⟩
theorem Made.level {a:Int}{st1 st:St}{b:Nat}{lf:BB}{w:AV}{r:List BB}{lv:Int}(F:Made c o vs a st0 st1 b lf w r lv st)(hcb:c<=b)(n:Int) :
 BJ 1 (.AO b 2) (.int .i64 n) st=some (.undef,{ st with h:=Aa st.h b (.cells 47 3 [.str lf,w,.int .i64 n] false) })/\Made c o vs a st0 st1 b lf w r n { st with h:=Aa st.h b (.cells 47 3 [.str lf,w,.int .i64 n] false) }:=by
 have hoc:=F.k.oc
 refine⟨by rw[Cr (off:=2) F.obj (by rw[F.k.lo]; have:=F.k.MP; omega) (by simp) rfl rfl]; rfl,F.k.Aa hcb F.obj,F.cc,by show AA (Aa _ _ _) b=_; rw[AY F.obj,if_pos rfl],F.right.heap fun p hp=>?_,F.BC,fun p hp hne=>?_⟩
 ·have:=F.BC p hp
  show AA (Aa _ _ _) p=_
  rw[AY F.obj,if_neg (by omega)]
 ·show AA (Aa _ _ _) p=_
  rw[AY F.obj,if_neg (by omega)]; exact F.CF p hp hne
theorem join {a a0:Int}{st1 st:St}{rv:AV}{ls:List AV}{rs:List Bf}{lf:BB}{w:AV}{r:List BB}{lv:Int}(H:YS c o vs a0 st0 st1 syms rv ls rs)(M:Made c o vs a st0 st1 st1.c lf w r lv st)(hn:rs.length<=50)(hd:(Bf.mk lf r lv).YU) :
 YS c o vs a st0 st syms rv ls rs/\∃S2 S3,newObj st.c (.cells 47 3 [.str lf,w,.int .i64 lv] false) ⟨st.h,st.c+2,st.lo⟩=some S2/\∃id,Bq (st.c+1) 47 3 48 rv (.AU st.c 0 1 (some 1)) S2=some (.AU id 0 (ls.length+1) none,S3) /\
  ∃S4,BJ 1 (.AO (c+5) 2) (.AU id 0 (ls.length+1) none) S3=some (.undef,S4)/\YS c o vs a st0 S4 syms (.AU id 0 (ls.length+1) none) (ls++[.agg [.str lf,w,.int .i64 lv]]) (rs++[⟨lf,r,lv⟩]):=by
 have hMc:=M.cc
 have H2:=H.frame M.k (by omega) fun p hp hne=>M.CF p hp hne
 refine⟨H2,?_⟩
 have hoc:=H.k.oc
 have hcc:=H.cc
 have hln:=H.ln
 have hb':∀p x,(p,x)∈st.h->p<st.c:=M.k.hb
 have K1:=M.k.cons (p:=st.c) (x:=.cells 47 3 [.str lf,w,.int .i64 lv] false) (n:=st.c+2) (by omega) (by omega) (by omega)
 have hm1:LH ((st.c,Al.cells 47 3 [.str lf,w,.int .i64 lv] false)::st.h) 47 3 rv ls:=H2.rules.heap fun p hp=>by
  have:=H2.BC p hp; rw[AJ,if_neg (by omega)]
 obtain⟨S4,happ,hS4c,K4,hf4,hfr4⟩:=JW (bytes:=48) (id:=st.c+1) (e:=st.c) (x:=.agg [.str lf,w,.int .i64 lv]) K1 hm1 (fun p hp=>by have:=H2.BC p hp; omega) (by omega) (by omega) (by omega) (by simp[AJ,AV.cells]) rfl
  (fun p y hm=>by
   rcases List.mem_cons.1 hm with h|h
   ·cases h; omega
   ·have:=hb' p y h; omega) (by show st.c+1<st.c+2; omega) (by omega)
 have hfr:∀p,p<st.c->BR rv≠some p->AA S4.h p=AA st.h p:=fun p hp hne=>by
  rw[hfr4 p (by omega) hne,AJ,if_neg (by omega)]
 have hg4:AA S4.h (c+5)=some (.cells 29 3 [.AU (c+4) 0 2 (some 2),.str [115],rv] false):=by
  rw[hfr _ (by omega) (fun e=>by have:=H2.BC _ e; omega)]; exact H2.gb
 have hsto:=Cr (st:=S4) (off:=2) (v:=.AU (st.c+1) 0 (ls.length+1) none) hg4 (by rw[K4.lo]; have:=M.k.MP; omega) (by simp) rfl rfl
 simp only[List.set_cons_succ,List.set_cons_zero] at hsto
 refine⟨_,S4,Ao hb',st.c+1,happ,_,hsto,?_⟩
 have hS4c':S4.c=st.c+2:=hS4c
 have hfin:∀p,p<st.c->p≠c+5->BR rv≠some p->∀y,AA (Aa S4.h (c+5) y) p=AA st.h p:=fun p h1 h2 h3 y=>by
  rw[AY hg4,if_neg (Ne.symm h2)]; exact hfr p h1 h3
 have hnr:∀p,p<c+6->BR rv≠some p:=fun p hp e=>by have:=H2.BC p e; omega
 refine⟨K4.Aa (by omega) hg4,by show c+6<=S4.c; omega,?_,?_,?_,?_,?_,?_,fun p hp=>by cases hp; show c+6<=st.c+1/\st.c+1<S4.c; omega,by simp[hln],fun j hl hr=>?_,fun x hx=>?_⟩
 ·show AA (Aa _ _ _) c=_; rw[hfin c (by omega) (by omega) (hnr _ (by omega))]; exact H2.q
 ·show AA (Aa _ _ _) (c+1)=_; rw[hfin _ (by omega) (by omega) (hnr _ (by omega))]; exact H2.lf
 ·show AA (Aa _ _ _) (c+3)=_; rw[hfin _ (by omega) (by omega) (hnr _ (by omega))]; exact H2.sy
 ·show AA (Aa _ _ _) (c+4)=_; rw[hfin _ (by omega) (by omega) (hnr _ (by omega))]; exact H2.kd
 ·show AA (Aa _ _ _) (c+5)=_; rw[AY hg4,if_pos rfl]
 ·have h3:∀x∈ls++[AV.agg [.str lf,w,.int .i64 lv]],x.cells.length=3:=fun x hx=>by
   rcases List.mem_append.1 hx with h|h
   ·obtain⟨j,hj,rfl⟩:=List.getElem_of_mem h
    exact (H2.each j hj (by omega)).1.three
   ·simp at h; subst h; rfl
  have:=LH.ob (h:=Aa S4.h (c+5) (.cells 29 3 [.AU (c+4) 0 2 (some 2),.str [115],.AU (st.c+1) 0 (ls.length+1) none] false)) (ty:=47) (sz:=3) (st.c+1) (ls++[.agg [.str lf,w,.int .i64 lv]]) (by simp) h3 (by rw[AY hg4,if_neg (by omega)]; exact hf4)
  simpa using this
 ·by_cases hj:j<ls.length
  ·have e1:(ls++[AV.agg [.str lf,w,.int .i64 lv]])[j]=ls[j]:=List.getElem_append_left hj
   have e2:(rs++[Bf.mk lf r lv])[j]=rs[j]'(by omega):=List.getElem_append_left (by omega)
   rw[e1,e2]
   obtain⟨d1,d2⟩:=H2.each j hj (by omega)
   refine⟨d1.heap fun p hp=>?_,fun p hp=>?_⟩
   ·have:=d2 p hp
    show AA (Aa _ _ _) p=_
    exact hfin p (by omega) (by omega) this.2.2 _
   ·have:=d2 p hp
    exact⟨this.1,by show p<S4.c; omega,fun e=>by cases e; omega⟩
  ·have hj2:j=ls.length:=by simp at hl; omega
   subst hj2
   have e1:(ls++[AV.agg [.str lf,w,.int .i64 lv]])[ls.length]=.agg [.str lf,w,.int .i64 lv]:=by simp
   have e2:(rs++[Bf.mk lf r lv])[ls.length]=⟨lf,r,lv⟩:=by simp[hln]
   rw[e1,e2]
   refine⟨⟨w,rfl,M.right.heap fun p hp=>?_⟩,fun p hp=>?_⟩
   ·have:=M.BC p hp
    have h4:BR rv≠some p:=fun e=>by have:=H.BC p e; omega
    show AA (Aa _ _ _) p=_
    exact hfin p (by omega) (by omega) h4 _
   ·have:=M.BC p hp
    exact⟨by omega,by show p<S4.c; omega,fun e=>by cases e; omega⟩
 ·rcases List.mem_append.1 hx with h|h
  ·exact H.ok x h
  ·simp at h; subst h; exact hd
end
theorem Lp {k:Nat}{st:St}{o:Nat}{v:AV}{zs:List Int}{a:Int}(hs:Ib st o v a)(hv:CB v zs)(ha:0<=a/\a<1000000000){l u:Int}(hl:0<=l)(hu:l<=u)(hb:u<1000000000) :
 ∃N:Nat,l<=N/\N<=u/\AX E (k+3) 14 [.AO o 0,.int .i64 l,.int .i64 u] st=.ret (.int .i64 (N:Int),tick st o v (a+1)):=by
 have hr:=Cg (zs:=zs) (a:=a+1) (n:=u-l+1) (by omega)
 obtain⟨N,hN⟩:∃N:Nat,l+BK zs (a+1) (u-l+1)=N:=⟨(l+BK zs (a+1) (u-l+1)).toNat,by omega⟩
 refine⟨N,by omega,by omega,?_⟩
 rw[Yz hs hv ha hl hu hb,hN]
section
variable {c o:Nat}{vs:AV}{zs:List Int}{st0:St}{syms:List BB}{k:Nat}
def Grown (c o:Nat)(vs:AV)(a:Int)(st0:St)(syms:List BB)(i:Nat)(st:St):Prop:=
 ∃(rv:AV) (ls:List AV) (rs:List Bf) (m:Int),rs.length<=i/\(0<i->0<rs.length)/\0<=m/\m<=12*(i:Int)/\YS c o vs (a+m) st0 st syms rv ls rs
theorem Yp {T n:Nat}{a:Int}{rv0:AV}(hv:CB vs zs)(hsy0:0<syms.length)(hsyn:syms.length<=10)(hsyl:∀s∈syms,s.length<=50)(hn:1<=n/\n<=3)(hT:T<=6)(ha:0<=a/\a<20000)(ts0:TS)(h0:ts0.get 0=.AO o 0)(h2:ts0.get 2=.AO c 0)(h4:ts0.get 4=.AU (c+1) 0 n (some 3))(h5:ts0.get 5=.AU (c+3) 0 syms.length none)(h6:ts0.get 6=.AO (c+5) 0)(h33:ts0.get 33=.int .i64 (T:Int))(h34:ts0.get 34=.int .i64 ((0:Nat):Int))(st:St)(H0:YS c o vs a st0 st syms .AB [] []) :
 (Dh (BF E (AX E (k+4)) C.f4L0) E.k ts0 st).to fun x=>x.1=.exit 0/\x.2.1.get 2=.AO c 0/\x.2.1.get 6=.AO (c+5) 0/\Grown c o vs a st0 syms T x.2.2:=by
 refine DI (fun (i:Nat) ts st=>i<=T/\ts.get 0=.AO o 0/\ts.get 2=.AO c 0/\ts.get 4=.AU (c+1) 0 n (some 3)/\ts.get 5=.AU (c+3) 0 syms.length none/\ts.get 6=.AO (c+5) 0/\ts.get 33=.int .i64 (T:Int)/\ts.get 34=.int .i64 (i:Int) /\
  Grown c o vs a st0 syms i st)
  (fun i=>T-i) ?_ _ 0 _ _ ?_ ?_
 ·rintro i ts st ⟨hi,h0,h2,h4,h5,h6,h33,h34,rv,ls,rs,m,hrl,hr0,hm0,hm1,H⟩
  by_cases Bc:i<T
  ·have hoc:=H.k.oc
   have hcc:=H.cc
   have hb':∀p x,(p,x)∈st.h->p<st.c:=H.k.hb
   have ht0:0<=(i:Int).tmod n:=Int.tmod_nonneg _ (by omega)
   have ht1:(i:Int).tmod n<n:=Int.tmod_lt_of_pos _ (by omega)
   obtain⟨j,hj⟩:∃j:Nat,(i:Int).tmod n=j:=⟨((i:Int).tmod n).toNat,by omega⟩
   have hjn:j<n:=by omega
   have hn0:(n:Int)≠0:=by omega
   have hn0':n≠0:=by omega
   obtain⟨lf,hlf,hlf50⟩:∃lf:BB,[AV.str [115],.str [116],.str [117]][j]? =some (.str lf)/\lf.length<=50:=by
    have:j=0∨j=1∨j=2:=by omega
    rcases this with rfl|rfl|rfl <;> exact⟨_,rfl,by simp⟩
   have hix:∀c',Ad 1 (.AU (c+1) 0 n (some 3)) (.int .i64 (j:Int)) ⟨st.h,c',st.lo⟩=some (.AO (c+1) j,⟨st.h,c',st.lo⟩):=fun c'=>by simp[Ad,Bd,H.lf,blt_eq,beq_eq,hjn]
   have hrd:AP st.h (.AO (c+1) j)=some (.str lf):=by rw[AL H.lf]; exact hlf
   have hbuild:BA [.str [],.AB,.int .i64 0] [(0,1)] [.str lf]=some [.str lf,.AB,.int .i64 0]:=by simp[BA,AV.isTuple,AV.cells,beq_eq,ble_eq,BS]
   have hst3:∀c',BJ 3 (.AO st.c 0) (.agg [.str lf,.AB,.int .i64 0]) ⟨(st.c,.cells 47 3 [.str [],.AB,.int .i64 0] false)::st.h,c',st.lo⟩=some (.undef,⟨(st.c,.cells 47 3 [.str lf,.AB,.int .i64 0] false)::st.h,c',st.lo⟩):=fun c'=>by
    rw[FW (n:=3) (ty:=47) (sz:=3) (cs:=[.str [],.AB,.int .i64 0]) (ext:=false) (by simp[AJ]) (by show st.lo<=st.c; rw[H.k.lo]; have:=H.k.MP; omega) rfl rfl]
    simp[Aa,beq_eq]
   have K1:=H.k.cons (p:=st.c) (x:=.cells 47 3 [.str lf,.AB,.int .i64 0] false) (n:=st.c+1) (by omega) (by omega) (by omega)
   obtain⟨N,hN0,hN3,hrange⟩:=Lp (k:=k+1) K1.st hv (by omega) (l:=0) (u:=3) (by omega) (by omega) (by omega)
   have K2:=K1.tick (a+m+1)
   have F0:Zz c o vs (a+m+1) st0 st st.c (c+3) syms lf .AB [] (tick ⟨(st.c,.cells 47 3 [.str lf,.AB,.int .i64 0] false)::st.h,st.c+1,st.lo⟩ o vs (a+m+1)):=by
    have hf:∀p,p≠o->AA (tick ⟨(st.c,Al.cells 47 3 [.str lf,.AB,.int .i64 0] false)::st.h,st.c+1,st.lo⟩ o vs (a+m+1)).h p=if st.c=p then some (.cells 47 3 [.str lf,.AB,.int .i64 0] false) else AA st.h p:=fun p hp=>by
     rw[Cj K1.GI hp,AJ]
    exact⟨K2,by show st.c+1<=st.c+1; omega,by rw[hf _ (by omega),if_pos rfl],.nl,fun p hp=>(by cases hp),by rw[hf _ (by omega),if_neg (by omega)]; exact H.sy,fun p hp hne=>by rw[hf p hne,if_neg (by omega)],fun s hs=>by simp at hs⟩
   have loop:=fun ts1 b0 b5 b8 b46 b47=>Zd (k:=k+1) (N:=N) hv (show c<=st.c by omega) (show c+3<st.c/\c<=c+3 by omega) hsy0 hsyn (by omega) (a:=a+m+1) (by omega) ts1 b0 b5 b8 b46 b47 _ F0
   simp[C.f4L0,h0,h4,h6,h33,h34,Bc,Be,Bu,hn0,hn0',hj,hix,hrd,hbuild,Ao hb',hst3,hrange]
   refine M.BX (loop _ (by simp[h0]) (by simp[h5]) (by simp) (by simp) (by simp)) fun x hx=>?_
   obtain⟨e,ts1,st3⟩:=x
   obtain⟨rfl,hts,w,r,m2,hr3,hm20,hm21,F⟩:=hx
   simp only at hts F
   have g0:ts1.get 0=.AO o 0:=by rw[hts 0 (by omega)]; simp[h0]
   have g2:ts1.get 2=.AO c 0:=by rw[hts 2 (by omega)]; simp[h2]
   have g4:ts1.get 4=.AU (c+1) 0 n (some 3):=by rw[hts 4 (by omega)]; simp[h4]
   have g5:ts1.get 5=.AU (c+3) 0 syms.length none:=by rw[hts 5 (by omega)]; simp[h5]
   have g6:ts1.get 6=.AO (c+5) 0:=by rw[hts 6 (by omega)]; simp[h6]
   have g8:ts1.get 8=.AO st.c 0:=by rw[hts 8 (by omega)]; simp
   have g33:ts1.get 33=.int .i64 (T:Int):=by rw[hts 33 (by omega)]; simp[h33]
   have g34:ts1.get 34=.int .i64 (i:Int):=by rw[hts 34 (by omega)]; simp[h34]
   have hflip:=Ql (k:=k+1) F.k.st hv (by omega) (n:=5) (by unfold MK; omega)
   have M1:=F.made.tick (show c<=st.c by omega) (a+m+1+m2+1)
   have hnames:∀s∈r,s.length<=50:=fun s hs=>hsyl s (F.from_ s hs)
   have hMk:=M1.k.st
   obtain⟨L,hL1,hL3,hrange2⟩:=Lp (k:=k+1) M1.k.st hv (by omega) (l:=1) (u:=3) (by omega) (by omega) (by omega)
   have M2:=M1.tick (show c<=st.c by omega) (a+m+1+m2+1+1)
   obtain⟨hlev,M3⟩:=M2.level (show c<=st.c by omega) (L:Int)
   have fin:∀(S:St) (lv:Int) (mm:Int),Made c o vs (a+mm) st0 st st.c lf w r lv S->0<=lv/\lv<=3->∃(x:Bool),AX E (k+4) 15 [rv,.fn (.func 16) [] [.AO st.c 0]] S=.ret (.bool x,S)/\(ls=[]->x=false) /\
    AP S.h (.AO (c+5) 2)=some rv/\Ac S.h (.AO st.c 0) 3=some [.str lf,w,.int .i64 lv]/\YS c o vs (a+mm) st0 S syms rv ls rs /\
    Ar S.c 47 3 1 [.str [],.AB,.int .i64 0] [0] [.agg [.str lf,w,.int .i64 lv]]=some (.AU S.c 0 1 (some 1),.cells 47 3 [.str lf,w,.int .i64 lv] false) /\
    ∃S2 S3 id S4,newObj S.c (.cells 47 3 [.str lf,w,.int .i64 lv] false) ⟨S.h,S.c+2,S.lo⟩=some S2/\Bq (S.c+1) 47 3 48 rv (.AU S.c 0 1 (some 1)) S2=some (.AU id 0 (ls.length+1) none,S3) /\
    BJ 1 (.AO (c+5) 2) (.AU id 0 (ls.length+1) none) S3=some (.undef,S4)/\YS c o vs (a+mm) st0 S4 syms (.AU id 0 (ls.length+1) none) (ls++[.agg [.str lf,w,.int .i64 lv]]) (rs++[⟨lf,r,lv⟩]):=by
    intro S lv mm Mm hlv
    obtain⟨H2,S2,S3,j1,id,j2,S4,j3,j4⟩:=join H Mm (by omega) ⟨hlf50,hr3,hnames,hlv⟩
    have hMc:=Mm.cc
    obtain⟨x,hx,hx0⟩:=nR (k:=k) H2 (by omega) (b:=st.c) (by omega) Mm.obj Mm.right fun p hp=>(Mm.BC p hp).2
    refine⟨x,hx,hx0,by rw[AL H2.gb]; rfl,Bj Mm.obj rfl,H2,?_,S2,S3,id,S4,j1,j2,j3,j4⟩
    simp[Ar,blt_eq,beq_eq,ble_eq,BA,BS,AV.isTuple,AV.cells]
   by_cases hfl:BK zs (a+m+1+m2+1) 5=0
   ·have hfb:(BK zs (a+m+1+m2+1) 5==0)=true:=by simp[hfl]
    generalize Aa (tick (tick st3 o vs (a+m+1+m2+1)) o vs (a+m+1+m2+1+1)).h st.c (.cells 47 3 [.str lf,w,.int .i64 (L:Int)] false)=hh at hlev M3
    generalize ({ tick (tick st3 o vs (a+m+1+m2+1)) o vs (a+m+1+m2+1+1) with h:=hh }:St)=S at hlev M3
    obtain⟨x,f2,hx0,f1,f3,H2,f4,S2,S3,id,S4,f5,f6,f7,H4⟩:=fin S L (m+1+m2+1+1) (by rw[show a+(m+1+m2+1+1)=a+m+1+m2+1+1 by omega]; exact M3) (by omega)
    cases x with
    |true=>
     simp[g0,g8,g6,g34,hflip,hfb,hrange2,hlev,f1,f2,wi i]
     refine⟨i+1,by omega,by omega,g2,g4,g5,g33,by simp,rv,ls,rs,(m+1+m2+1+1),by omega,fun _=>?_,by omega,by omega,H2⟩
     rcases Nat.eq_zero_or_pos rs.length with h|h
     ·exact absurd (hx0 (List.eq_nil_of_length_eq_zero (by rw[H.ln]; exact h))) (by simp)
     ·exact h
    |false=>
     simp[g0,g8,g6,g34,hflip,hfb,hrange2,hlev,f1,f2,f3,f4,f5,f6,f7,wi i]
     exact⟨i+1,by omega,by omega,g2,g4,g5,g33,by simp,_,_,_,(m+1+m2+1+1),by simp; omega,fun _=>by simp,by omega,by omega,H4⟩
   ·have hfb:(BK zs (a+m+1+m2+1) 5==0)=false:=beq_false_of_ne hfl
    generalize tick st3 o vs (a+m+1+m2+1)=S at hflip M1
    obtain⟨x,f2,hx0,f1,f3,H2,f4,S2,S3,id,S4,f5,f6,f7,H4⟩:=fin S 0 (m+1+m2+1) (by rw[show a+(m+1+m2+1)=a+m+1+m2+1 by omega]; exact M1) (by omega)
    cases x with
    |true=>
     simp[g0,g8,g6,g34,hflip,hfb,f1,f2,wi i]
     refine⟨i+1,by omega,by omega,g2,g4,g5,g33,by simp,rv,ls,rs,(m+1+m2+1),by omega,fun _=>?_,by omega,by omega,H2⟩
     rcases Nat.eq_zero_or_pos rs.length with h|h
     ·exact absurd (hx0 (List.eq_nil_of_length_eq_zero (by rw[H.ln]; exact h))) (by simp)
     ·exact h
    |false=>
     simp[g0,g8,g6,g34,hflip,hfb,f1,f2,f3,f4,f5,f6,f7,wi i]
     exact⟨i+1,by omega,by omega,g2,g4,g5,g33,by simp,_,_,_,(m+1+m2+1),by simp; omega,fun _=>by simp,by omega,by omega,H4⟩
  ·have:i=T:=by omega
   subst this
   simp[C.f4L0,h2,h6,h33,h34]
   exact⟨rv,ls,rs,m,hrl,hr0,hm0,hm1,H⟩
 ·show T-0<1000000; omega
 ·exact⟨by omega,h0,h2,h4,h5,h6,h33,h34,.AB,[],[],0,by simp,by omega,by omega,by omega,by rw[Int.add_zero]; exact H0⟩
end
theorem Bo.LD {l:List AV}{rs:List Bf}(H:Bo l rs)(c:Nat):AV.Cx c l=true:=by
 induction H with
 |nil=>rfl
 |cons h t ih=>
  obtain⟨rv,rfl,hs⟩:=h
  have:rv.CF c=true:=by
   rcases hs.out with⟨rfl,_⟩|⟨t,rfl⟩
   ·rfl
   ·exact KF c _
  simp[AV.Cx,AV.CF,this,ih]
theorem Bl.LD {v:AV}{g:Ak}(H:Bl v g)(c:Nat):v.CF c=true:=by
 obtain⟨kv,rv,l,rfl,hk,hr,hl⟩:=H
 have h1:kv.CF c=true:=by
  rcases hk.out with⟨rfl,_⟩|⟨t,rfl⟩
  ·rfl
  ·exact KF c _
 have h2:rv.CF c=true:=by
  rcases hr.out with⟨rfl,_⟩|⟨t,rfl⟩
  ·rfl
  ·exact hl.LD c
 simp[AV.CF,AV.Cx,h1,h2]
theorem NJ {r:Bf}(h:Md r=true):r.Small/\r.right.length<=29:=by
 simp only[Md,Bool.and_eq_true,decide_eq_true_eq,List.all_eq_true] at h
 exact⟨⟨h.1.1.1.1,by omega,fun s hs=>h.1.1.2 s hs,h.1.2,h.2⟩,h.1.1.1.2⟩
theorem aW {g:Ak}(h:JJ g=true):YR g:=by
 simp only[JJ,Bool.and_eq_true,decide_eq_true_eq,List.all_eq_true] at h
 obtain⟨⟨⟨⟨⟨h1,h2⟩,h3⟩,h4⟩,h5⟩,h6⟩:=h
 exact⟨⟨by omega,h2,h3,by omega,fun r hr=>(NJ (h6 r hr)).1⟩,h1,h4,h5,fun r hr=>(NJ (h6 r hr)).2⟩
theorem Nk:∀{l:List AV} {gs:List Ak},KV l=some gs->l.length=gs.length/\∀(i:Nat) (hi:i<l.length) (hg:i<gs.length),Pm l[i]=some gs[i]
 |[],gs,h=>by cases h; exact⟨rfl,fun i hi=>by simp at hi⟩
 |v::l,gs,h=>by
  simp only[KV] at h
  split at h
  ·rename_i g hg
   split at h
   ·rename_i gs' hgs
    cases h
    obtain⟨h1,h2⟩:=Nk hgs
    refine⟨by simp[h1],fun i hi hg2=>?_⟩
    cases i with
    |zero=>exact hg
    |succ i=>exact h2 i (by simpa using hi) (by simpa using hg2)
   ·cases h
  ·cases h
def Vw (k:Nat):Prop:=∃t l gs,(∀st,AX E k 12 [] st=.ret (.list t 3 l,st))/\KV l=some gs/\gs.length=12/\∀g∈gs,JJ g=true
theorem Bf.YU.small {r:Bf}(h:r.YU):r.Small/\r.right.length<=29:=by
 have h1:=h.right
 have h2:=h.level
 exact⟨⟨h.left,by omega,h.names,by omega,by omega⟩,by omega⟩
theorem YS.pG {c o:Nat}{vs:AV}{a:Int}{st0 st:St}{syms:List BB}{rv:AV}{ls:List AV}{rs:List Bf}(H:YS c o vs a st0 st syms rv ls rs) :
 RG c st.h (.AU (c+4) 0 2 (some 2)) [[97],[98]]/\CP c st.h ls rs/\((rv=.AB/\rs=[])∨∃p cap ty ext rest,rv=.AU p 0 ls.length cap/\c<p/\AA st.h p=some (.cells ty 3 (ls.flatMap AV.cells++rest) ext)):=by
 refine⟨Or.inr ⟨c+4,some 2,9,false,rfl,by omega,H.kd⟩,CP.Mh H.ln fun j hl hr=>Jw.of (H.each j hl hr).1 fun p hp=>by have:=((H.each j hl hr).2 p hp).1; omega,?_⟩
 have hR:=H.rules
 have hid:=H.BC
 have hln:=H.ln
 generalize hls:ls=l at hR
 cases hR with
 |nl=>exact .inl ⟨rfl,List.eq_nil_of_length_eq_zero (by rw[← hln,hls]; rfl)⟩
 |mt id ext hf=>exact .inr ⟨id,some 0,47,ext,[],by simp,by have:=hid id rfl; omega,by simpa using hf⟩
 |ob id _ h0 h1 hf=>exact .inr ⟨id,none,47,true,[],rfl,by have:=hid id rfl; omega,by rw[List.append_nil]; exact hf⟩
section
variable {k:Nat}{o:Nat}{vs:AV}{zs:List Int}{a:Int}{st:St}
theorem Br.df {c o:Nat}{vs:AV}{a:Int}{st0 st:St}(K:Br c o vs a st0 st)(b:Int):∀p,p≠o->AA (Am.tick st o vs b).h p=AA st.h p:=fun p hp=>Cj K.GI hp
theorem UL (hs:Ib st o vs a)(hv:CB vs zs)(ha:0<=a/\a<10000)(ho:o<st.c)(hb:HB st) :
 ∀S:St,S.c=st.c+1->Br st.c o vs (a+1) st S->AA S.h st.c=some (.cells 29 3 [.AB,.str [],.AB] false) ->
 ∃N:Nat,1<=N/\N<=3/\∃T:Nat,T<=3/\∃S4 S5 S6 S7 S8 S9,
  AX E (k+4) 14 [.AO o 0,.int .i64 1,.int .i64 3] ⟨(S.c,.cells 9 1 [.str [115],.str [116],.str [117]] false)::S.h,S.c+1,S.lo⟩=.ret (.int .i64 (N:Int),S4) /\
  Bz 1 false true false [.AU S.c 0 3 (some 3),.int .i64 (N:Int)] S4=some (.AU S.c 0 N (some 3),S4)/\S4.c=st.c+2 /\
  newObj S4.c (.cells 9 1 [.str [97],.str [98]] false) ⟨S4.h,S4.c+2,S4.lo⟩=some S5 /\
  Bq (S4.c+1) 9 1 16 (.AU S4.c 0 2 (some 2)) (.AU S.c 0 N (some 3)) S5=some (.AU (st.c+3) 0 (2+N) none,S6)/\S6.c=st.c+4 /\
  newObj S6.c (.cells 9 1 [.str [97],.str [98]] false) ⟨S6.h,S6.c+2,S6.lo⟩=some S7 /\
  newObj (S6.c+1) (.cells 29 3 [.AB,.str [],.AB] false) S7=some S8 /\
  BJ 3 (.AO (S6.c+1) 0) (.agg [.AU S6.c 0 2 (some 2),.str [115],.AB]) S8=some (.undef,S9) /\
  AX E (k+4) 14 [.AO o 0,.int .i64 0,.int .i64 3] S9=.ret (.int .i64 (T:Int),Am.tick S9 o vs (a+3)) /\
  YS st.c o vs (a+3) st (Am.tick S9 o vs (a+3)) ([[97],[98]]++[[115],[116],[117]].take N) .AB [] []:=by
 intro S hSc K hq
 have hoc:=ho
 have K3:=K.cons (p:=S.c) (x:=.cells 9 1 [.str [115],.str [116],.str [117]] false) (n:=S.c+1) (by omega) (by omega) (by omega)
 obtain⟨N,hN1,hN3,hr1⟩:=Lp (k:=k+1) K3.st hv (by omega) (l:=1) (u:=3) (by omega) (by omega) (by omega)
 have K4:=K3.tick (a+1+1)
 have f4:∀p,p≠o->AA (Am.tick ⟨(S.c,.cells 9 1 [.str [115],.str [116],.str [117]] false)::S.h,S.c+1,S.lo⟩ o vs (a+1+1)).h p=if S.c=p then some (.cells 9 1 [.str [115],.str [116],.str [117]] false) else AA S.h p:=fun p hp=>by
  rw[Cj K3.GI hp,AJ]
 have c4:(Am.tick ⟨(S.c,.cells 9 1 [.str [115],.str [116],.str [117]] false)::S.h,S.c+1,S.lo⟩ o vs (a+1+1)).c=st.c+2:=by show S.c+1=_; omega
 generalize Am.tick ⟨(S.c,.cells 9 1 [.str [115],.str [116],.str [117]] false)::S.h,S.c+1,S.lo⟩ o vs (a+1+1)=S4 at hr1 K4 f4 c4
 have l4:AA S4.h S.c=some (.cells 9 1 [.str [115],.str [116],.str [117]] false):=by rw[f4 _ (by omega),if_pos rfl]
 have hb4:∀p x,(p,x)∈S4.h->p<S4.c:=K4.hb
 have K5:=K4.cons (p:=S4.c) (x:=.cells 9 1 [.str [97],.str [98]] false) (n:=S4.c+2) (by omega) (by omega) (by omega)
 have K6:=K5.cons (p:=S4.c+1) (x:=.cells 9 1 (strs ([[97],[98]]++[[115],[116],[117]].take N)) true) (n:=S4.c+2) (by omega) (by show _<_; omega) (Nat.le_refl _)
 have hb6:=K6.hb
 have K7:=K6.cons (p:=S4.c+2) (x:=.cells 9 1 [.str [97],.str [98]] false) (n:=S4.c+4) (by omega) (by omega) (by show S4.c+2<=_; omega)
 have K9:=K7.cons (p:=S4.c+3) (x:=.cells 29 3 [.AU (S4.c+2) 0 2 (some 2),.str [115],.AB] false) (n:=S4.c+4) (by omega) (by omega) (Nat.le_refl _)
 obtain⟨T,hT0,hT3,hr2⟩:=Lp (k:=k+1) K9.st hv (by omega) (l:=0) (u:=3) (by omega) (by omega) (by omega)
 rw[show a+1+1+1=a+3 by omega] at hr2
 have K10:=K9.tick (a+3)
 have f10:=K9.df (a+3)
 have hcc:(2:Nat)+N=N+2:=by omega
 have hab:∀h:Heap,True:=fun _=>trivial
 have hN:N=1∨N=2∨N=3:=by omega
 refine⟨N,by omega,by omega,T,by omega,S4,⟨(S4.c,.cells 9 1 [.str [97],.str [98]] false)::S4.h,S4.c+2,S4.lo⟩,
  ⟨(S4.c+1,.cells 9 1 (strs ([[97],[98]]++[[115],[116],[117]].take N)) true)::(S4.c,.cells 9 1 [.str [97],.str [98]] false)::S4.h,S4.c+2,S4.lo⟩,
  ⟨(S4.c+2,.cells 9 1 [.str [97],.str [98]] false)::(S4.c+1,.cells 9 1 (strs ([[97],[98]]++[[115],[116],[117]].take N)) true)::(S4.c,.cells 9 1 [.str [97],.str [98]] false)::S4.h,S4.c+4,S4.lo⟩,
  ⟨(S4.c+3,.cells 29 3 [.AB,.str [],.AB] false)::(S4.c+2,.cells 9 1 [.str [97],.str [98]] false)::(S4.c+1,.cells 9 1 (strs ([[97],[98]]++[[115],[116],[117]].take N)) true)::(S4.c,.cells 9 1 [.str [97],.str [98]] false)::S4.h,S4.c+4,S4.lo⟩,
  ⟨(S4.c+3,.cells 29 3 [.AU (S4.c+2) 0 2 (some 2),.str [115],.AB] false)::(S4.c+2,.cells 9 1 [.str [97],.str [98]] false)::(S4.c+1,.cells 9 1 (strs ([[97],[98]]++[[115],[116],[117]].take N)) true)::(S4.c,.cells 9 1 [.str [97],.str [98]] false)::S4.h,S4.c+4,S4.lo⟩,
  hr1,?_,c4,Ao (fun p x hx=>hb4 p x hx),?_,by show S4.c+2=_; omega,Ao ?_,Ao ?_,?_,hr2,?_⟩
 ·have e1:Nat.ble N 3=true:=Nat.ble_eq_true_of_le (by omega)
  simp[Bz,DC,Bd,CE,l4,Gp,Df,e1,ble_eq,beq_eq,blt_eq]
 ·have l5:AA ((S4.c,Al.cells 9 1 [.str [97],.str [98]] false)::S4.h) S.c=some (.cells 9 1 [.str [115],.str [116],.str [117]] false):=by rw[AJ,if_neg (by omega)]; exact l4
  have n5:newObj (S4.c+1) (.cells 9 1 (strs ([[97],[98]]++[[115],[116],[117]].take N)) true) ⟨(S4.c,.cells 9 1 [.str [97],.str [98]] false)::S4.h,S4.c+2,S4.lo⟩=some ⟨(S4.c+1,.cells 9 1 (strs ([[97],[98]]++[[115],[116],[117]].take N)) true)::(S4.c,.cells 9 1 [.str [97],.str [98]] false)::S4.h,S4.c+2,S4.lo⟩:=Ao fun p x hx=>by
   rcases List.mem_cons.1 hx with h|h
   ·cases h; omega
   ·have:=hb4 p x h; omega
  have e3:st.c+3=S4.c+1:=by omega
  rw[e3]
  rcases hN with rfl|rfl|rfl <;> simp only[List.take,strs,List.map,List.cons_append,List.nil_append] at n5 <;> simp[Bq,lenOf,Au,l5,BV,Dr,AJ,grow,room,n5,strs,ble_eq,beq_eq]
 ·intro p x hx
  have:=hb6 p x hx
  exact this
 ·intro p x hx
  rcases List.mem_cons.1 hx with h|h
  ·cases h; show S4.c+2<S4.c+2+1; omega
  ·have:p<S4.c+2:=hb6 p x h
   show p<S4.c+2+1; omega
 ·have e:=FW (st:=⟨(S4.c+3,.cells 29 3 [.AB,.str [],.AB] false)::(S4.c+2,.cells 9 1 [.str [97],.str [98]] false)::(S4.c+1,.cells 9 1 (strs ([[97],[98]]++[[115],[116],[117]].take N)) true)::(S4.c,.cells 9 1 [.str [97],.str [98]] false)::S4.h,S4.c+4,S4.lo⟩) (o:=S4.c+3) (n:=3) (ty:=29) (sz:=3) (cs:=[.AB,.str [],.AB]) (ext:=false) (vs:=[.AU (S4.c+2) 0 2 (some 2),.str [115],.AB]) (by show AA ((S4.c+3,_)::_) (S4.c+3)=_; rw[AJ,if_pos rfl]) (by show S4.lo<=S4.c+3; rw[K4.lo]; have:=hs.lo; omega) rfl rfl
  refine Eq.trans e ?_
  simp[Aa,beq_eq]
 ·have q4:AA S4.h st.c=some (.cells 29 3 [.AB,.str [],.AB] false):=by rw[f4 _ (by omega),if_neg (by omega)]; exact hq
  have hf:∀p,p≠o->AA (Am.tick ⟨(S4.c+3,.cells 29 3 [.AU (S4.c+2) 0 2 (some 2),.str [115],.AB] false)::(S4.c+2,.cells 9 1 [.str [97],.str [98]] false)::(S4.c+1,.cells 9 1 (strs ([[97],[98]]++[[115],[116],[117]].take N)) true)::(S4.c,.cells 9 1 [.str [97],.str [98]] false)::S4.h,S4.c+4,S4.lo⟩ o vs (a+3)).h p =
   if S4.c+3=p then some (.cells 29 3 [.AU (S4.c+2) 0 2 (some 2),.str [115],.AB] false) else if S4.c+2=p then some (.cells 9 1 [.str [97],.str [98]] false) else if S4.c+1=p then some (.cells 9 1 (strs ([[97],[98]]++[[115],[116],[117]].take N)) true) else if S4.c=p then some (.cells 9 1 [.str [97],.str [98]] false) else AA S4.h p:=fun p hp=>by
   rw[f10 p hp]; simp only[AJ]
  refine⟨K10,by show st.c+6<=S4.c+4; omega,?_,?_,?_,?_,?_,.nl,fun p hp=>(by cases hp),rfl,fun j hl=>(by simp at hl),fun r hr=>(by simp at hr)⟩
  ·rw[hf _ (by omega),if_neg (by omega),if_neg (by omega),if_neg (by omega),if_neg (by omega)]; exact q4
  ·rw[hf _ (by omega),if_neg (by omega),if_neg (by omega),if_neg (by omega),if_neg (by omega)]; rw[← hSc]; exact l4
  ·rw[hf _ (by omega),if_neg (by omega),if_neg (by omega),if_pos (by omega)]
  ·rw[hf _ (by omega),if_neg (by omega),if_pos (by omega)]
  ·rw[hf _ (by omega),if_pos (by omega)]
   rw[show st.c+4=S4.c+2 by omega]
theorem Yt (hK:Vw (k+4)):Nz (k+5):=by
 intro st o vs zs a hs hv ha0 ha1 ho hlo hb hh
 rw[Sk (fn:=C.f4) rfl rfl rfl,Af (by simp)]
 have hb':∀p x,(p,x)∈st.h->p<st.c:=hb
 have K1:=(Br.begin hs ho hb).cons (p:=st.c) (x:=.cells 29 3 [.AB,.str [],.AB] false) (n:=st.c+1) (Nat.le_refl _) (by omega) (by omega)
 have hflip:=Ql (k:=k+1) K1.st hv (by omega) (n:=4) (by unfold MK; omega)
 have K2:=K1.tick (a+1)
 have q2:AA (Am.tick ⟨(st.c,.cells 29 3 [.AB,.str [],.AB] false)::st.h,st.c+1,st.lo⟩ o vs (a+1)).h st.c=some (.cells 29 3 [.AB,.str [],.AB] false):=by
  rw[Cj K1.GI (by omega),AJ,if_pos rfl]
 have c2:(Am.tick ⟨(st.c,.cells 29 3 [.AB,.str [],.AB] false)::st.h,st.c+1,st.lo⟩ o vs (a+1)).c=st.c+1:=rfl
 generalize Am.tick ⟨(st.c,.cells 29 3 [.AB,.str [],.AB] false)::st.h,st.c+1,st.lo⟩ o vs (a+1)=S at hflip K2 q2 c2
 have goal:((BF E (AX E (k+4)) C.f4.body (TS.Cm [.AO o 0] 0 .nil) st).bind (leave C.f4.results)).to fun r=>
  ∃v g m st',GK st.c r=.ret (v,st')/\st'.c=st.c/\Br st.c o vs (a+m) st st'/\Bl v g/\YR g/\0<=m/\m<=100:=by
  simp[C.f4,Ao hb',hflip]
  by_cases hfl:BK zs (a+1) 4=0
  ·have hfb:(BK zs (a+1) 4==0)=true:=by simp[hfl]
   obtain⟨N,hN1,hN3,T,hT3,S4,S5,S6,S7,S8,S9,e1,e2,c4,e3,e4,c6,e5,e6,e7,e8,H⟩:=UL (k:=k) hs hv ⟨ha0,ha1⟩ ho hb S c2 K2 q2
   have hbS:∀p x,(p,x)∈S.h->p<S.c:=K2.hb
   have b3:∀n,Ar n 9 1 3 [.str [],.str [],.str []] [0,1,2] [.str [115],.str [116],.str [117]]=some (.AU n 0 3 (some 3),.cells 9 1 [.str [115],.str [116],.str [117]] false):=fun n=>by
    simp[Ar,blt_eq,beq_eq,ble_eq,BA,BS,AV.isTuple,AV.cells]
   have b2:∀n,Ar n 9 1 2 [.str [],.str []] [0,1] [.str [97],.str [98]]=some (.AU n 0 2 (some 2),.cells 9 1 [.str [97],.str [98]] false):=fun n=>by
    simp[Ar,blt_eq,beq_eq,ble_eq,BA,BS,AV.isTuple,AV.cells]
   have bp:∀n,BA [.AB,.str [],.AB] [(0,1),(1,1)] [.AU n 0 2 (some 2),.str [115]]=some [.AU n 0 2 (some 2),.str [115],.AB]:=fun n=>by
    simp[BA,BS,AV.isTuple,AV.cells,beq_eq,ble_eq]
   have n1:newObj S.c (.cells 9 1 [.str [115],.str [116],.str [117]] false) ⟨S.h,S.c+1,S.lo⟩=some ⟨(S.c,.cells 9 1 [.str [115],.str [116],.str [117]] false)::S.h,S.c+1,S.lo⟩:=Ao hbS
   have hsl:([[97],[98]]++[[115],[116],[117]].take N:List BB).length=2+N:=by simp; omega
   have hs50:∀s∈([[97],[98]]++[[115],[116],[117]].take N:List BB),s.length<=50:=fun s hs=>by
    rcases List.mem_append.1 hs with h|h
    ·simp at h; rcases h with rfl|rfl <;> simp
    ·have:=List.mem_of_mem_take h; simp at this; rcases this with rfl|rfl|rfl <;> simp
   have c6':S6.c+1=st.c+5:=by omega
   rw[c6'] at e6 e7
   have hNT:((N+T:Nat):Int)=(N:Int)+T:=by omega
   have loop:=fun ts0 z0 z2 z4 z5 z6 z33 z34=>Yp (k:=k) (T:=N+T) (n:=N) (a:=a+3) (st0:=st) (rv0:=.AB) hv (by rw[hsl]; omega) (by rw[hsl]; omega) hs50 (by omega) (by omega) (by omega) ts0 z0 z2 z4 z5 z6 z33 z34 _ H
   simp[hfb,b3,b2,n1,e1,e2,e3,e4,e5,e6,bp,e7,e8,Be,Bu,c6',wrap64 (n:=(N:Int)+T) (by omega) (by omega)]
   refine M.BX (loop _ (by simp) (by simp) (by simp[c2]) (by simp[hsl]; omega) (by simp) (by simp[hNT]) (by simp)) fun x hx=>?_
   obtain⟨e,ts1,st1⟩:=x
   obtain⟨rfl,g2,g6,rv,ls,rs,m,hrl,hr0,hm0,hm1,R⟩:=hx
   simp only at g2 g6 R
   have hr1:Ac st1.h (.AO (st.c+5) 0) 3=some [.AU (st.c+4) 0 2 (some 2),.str [115],rv]:=Bj R.gb rfl
   have hcc:=R.cc
   have hsto:=FW (st:=st1) (n:=3) (vs:=[.AU (st.c+4) 0 2 (some 2),.str [115],rv]) R.q (by rw[R.k.lo]; omega) rfl rfl
   have hrd:Ac (Aa st1.h st.c (.cells 29 3 [.AU (st.c+4) 0 2 (some 2),.str [115],rv] false)) (.AO st.c 0) 3=some [.AU (st.c+4) 0 2 (some 2),.str [115],rv]:=Bj (by rw[AY R.q,if_pos rfl]) rfl
   have K9:=R.k.Aa (p:=st.c) (x:=.cells 29 3 [.AU (st.c+4) 0 2 (some 2),.str [115],rv] false) (Nat.le_refl _) R.q
   have hf:∀p,st.c<p->AA (Aa st1.h st.c (.cells 29 3 [.AU (st.c+4) 0 2 (some 2),.str [115],rv] false)) p=AA st1.h p:=fun p hp=>by rw[AY R.q,if_neg (by omega)]
   obtain⟨t1,t2,t3⟩:=R.pG
   obtain⟨v,w1,w2⟩:=UX (g:=⟨[[97],[98]],[115],rs⟩) (kv:=.AU (st.c+4) 0 2 (some 2)) (rv:=rv) (ls:=ls) K9 rfl hv hh (t1.frame hf) (t2.frame hf) (by
    rcases t3 with⟨h,h'⟩|⟨p,cap,ty,ext,rest,h1,h2,h3⟩
    ·exact .inl ⟨h,h'⟩
    ·exact .inr ⟨p,cap,ty,ext,rest,h1,h2,(hf p h2).trans h3⟩)
   simp[g2,g6,hr1,hsto,leave,results,AR,hrd]
   refine⟨v,_,3+m,_,w1,rfl,by rw[show a+(3+m)=a+3+m by omega]; exact K9.drop,w2,?_,by omega,by omega⟩
   have hsm:∀r∈rs,r.Small/\r.right.length<=29:=fun r hr=>(R.ok r hr).small
   exact⟨⟨by simp,by simp,by simp,by show rs.length<=_; omega,fun r hr=>(hsm r hr).1⟩,by simp,by show rs.length<=11; omega,by show 0<rs.length; exact hr0 (by omega),fun r hr=>(hsm r hr).2⟩
  ·have hfb:(BK zs (a+1) 4==0)=false:=beq_false_of_ne hfl
   obtain⟨t,l,gs,hk,hd,h12,hsm⟩:=hK
   obtain⟨hl1,hl2⟩:=Nk hd
   have hnext:=FX (k:=k+2) K2.st hv (by omega) (n:=(l.length:Int)) (by unfold MK; omega)
   have K3:=K2.tick (a+1+1)
   have q3:AA (Am.tick S o vs (a+1+1)).h st.c=some (.cells 29 3 [.AB,.str [],.AB] false):=by rw[Cj K2.GI (by omega)]; exact q2
   have hi:=Cg (zs:=zs) (a:=a+1+1) (n:=(l.length:Int)) (by omega)
   obtain⟨i,hie⟩:∃i:Nat,BK zs (a+1+1) (l.length:Int)=i:=⟨(BK zs (a+1+1) (l.length:Int)).toNat,by omega⟩
   rw[hie] at hnext
   have hil:i<l.length:=by omega
   have hgr:=XU (hl2 i hil (by omega))
   have hRt:=aW (hsm _ (List.getElem_mem (show i<gs.length by omega)))
   generalize gs[i]'(by omega)=g at hgr hRt
   have hold:=hgr.LD st.c
   obtain⟨kv,rv,rl,hv',_⟩:=id hgr
   have hix:Ad 3 (.list t 3 l) (.int .i64 (i:Int)) (Am.tick S o vs (a+1+1))=some (.BN [kv,.str g.start,rv],Am.tick S o vs (a+1+1)):=by
    simp[Ad,Bd,beq_eq,hil,hv',AV.cells]
   have hsto:=FW (st:=Am.tick S o vs (a+1+1)) (n:=3) (vs:=[kv,.str g.start,rv]) q3 (by show (Am.tick S o vs (a+1+1)).lo<=st.c; rw[K3.lo]; omega) rfl rfl
   have K4:=K3.Aa (p:=st.c) (x:=.cells 29 3 [kv,.str g.start,rv] false) (Nat.le_refl _) q3
   have hrd:Ac ({ Am.tick S o vs (a+1+1) with h:=Aa (Am.tick S o vs (a+1+1)).h st.c (.cells 29 3 [kv,.str g.start,rv] false) }:St).h (.AO st.c 0) 3=some [kv,.str g.start,rv]:=Bj (by show AA (Aa _ _ _) _=_; rw[AY q3,if_pos rfl]) rfl
   generalize ({ Am.tick S o vs (a+1+1) with h:=Aa (Am.tick S o vs (a+1+1)).h st.c (.cells 29 3 [kv,.str g.start,rv] false) }:St)=S4 at *
   have hrp:∀h,Ac h (.BN [kv,.str g.start,rv]) 3=some [kv,.str g.start,rv]:=fun h=>by simp[Ac,ble_eq]
   simp[hfb,hk,Be,Bu,hnext,hix,hrp,hsto,leave,results,AR,hrd]
   have hho:holds st.c (Gh st.c S4.h)=true:=holds_of fun p x hm=>⟨(Gg hm).2,K4.jG rfl hv hh p x (Gg hm).1 (Gg hm).2⟩
   have hth:Cf st.c S4.h CV (.agg [kv,.str g.start,rv])=some (.agg [kv,.str g.start,rv]):=by
    rw[hv'] at hold
    exact Dv (n:=CV-1) hold
   refine⟨.agg [kv,.str g.start,rv],g,1+1,{ S4 with h:=Gh st.c S4.h,c:=st.c },by unfold GK; simp only[hth,hho,cond_true],rfl,by rw[show a+(1+1)=a+1+1 by omega]; exact K4.drop,hv' ▸ hgr,hRt,by omega,by omega⟩
 obtain⟨r,h1,v,g',m',st',h2,h3,h4⟩:=goal
 exact⟨v,g',m',st',by rw[h1]; exact h2,h3,h4⟩
end
end Go.Am
