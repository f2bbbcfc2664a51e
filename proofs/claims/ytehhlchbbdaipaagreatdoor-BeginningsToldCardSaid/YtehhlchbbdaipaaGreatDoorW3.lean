/- A part of the proof of beginningsTold (merged by a program). -/
import Derived.Test.YtehhlchbbdaipaaGreatDoorW6
import Derived.Test.YtehhlchbbdaipaaGreatDoorV
namespace Go.Am
open Go
structure Df (st0 st:St):Prop where
 c:st0.c<=st.c
 hb:HB st
 fr:∀p,p<st0.c->AA st.h p=AA st0.h p
theorem Df.refl {st:St}(hb:HB st):Df st st:=⟨Nat.le_refl _,hb,fun _ _=>rfl⟩
theorem Df.trans {a b c:St}(h:Df a b)(k:Df b c):Df a c:=⟨Nat.le_trans h.c k.c,k.hb,fun p hp=>(k.fr p (Nat.lt_of_lt_of_le hp h.c)).trans (h.fr p hp)⟩
theorem Df.lo {a b:St}(h:Df a b){l:Nat}:Df a { b with lo:=l }:=⟨h.c,h.hb,h.fr⟩
theorem Df.cons {a:St}{h:Af}{c c' lo lo':Nat}{x:Ai}(H:Df a ⟨h,c,lo⟩)(hc:c<c'):Df a ⟨(c,x)::h,c',lo'⟩:=
 ⟨by have:a.c<=c:=H.c; show a.c<=c'; omega,HB.cons (h:=h) (c:=c) (lo:=lo) H.hb (by omega) (by omega),fun p hp=>by rw[Ao (by have:a.c<=c:=H.c; omega)]; exact H.fr p hp⟩
def FB (k f:Nat)(a b:List AV)(st0:St)(p:Aj->Bool):Prop:=∀st x,Df st0 st->AU E k f (a++([.str x]++b)) st=.ret (.bool (p x),st)
theorem FB.mono {k f:Nat}{a b:List AV}{st0 st1:St}{p:Aj->Bool}(H:FB k f a b st0 p)(h:Df st0 st1):FB k f a b st1 p:=fun st x hst=>H st x (h.trans hst)
theorem Ow {f:Nat}{fn:Bh}(hh:E.QN f=none)(hc:E.code f=some fn)(hp:fn.kY=.pure)(hr:fn.results=[.tmp 3])(hb:fn.body=C.f138.body){k f' q ty:Nat}{a b:List AV}{st0:St}{p:Aj->Bool}{ext:Bool}(H:FB k f' a b st0 p)(hq:q<st0.c)(hf:AA st0.h q=some (.cells ty 1 [.fn (.func f') a b] ext)) :
 FB (k+1) f [] [.AO q 0] st0 fun x=>!p x:=by
 intro st x hst
 rw[BS hh hc hp,Ad (by simp),hb,hr]
 have r:AP st.h (.AO q 0)=some (.fn (.func f') a b):=by rw[AB ((hst.fr q hq).trans hf)]; rfl
 have hc:=H ⟨st.h,st.c,st.c⟩ x hst.lo
 simp only[List.singleton_append] at hc
 simp[C.f138,r,hc,leave,results,AY]
theorem QR {k f:Nat}{w:AV}{r:List Aj}{a b:List AV}{st:St}{p:Aj->Bool}(hw:BI w 1 (strs r))(hrl:r.length<=1000)(hb:HB st)(H:FB k f a b st p) :
 AU E (k+4) 74 [w,.fn (.func f) a b] st=.ret (.bool (r.all p),st):=by
 rw[BS (fn:=C.f74) rfl rfl rfl,Ad (by simp)]
 have hb':∀p x,(p,x)∈st.h->p<st.c:=hb
 have hbx:Dr st.c 51 1 (.fn (.func f) a b)=some (.AO st.c 0,.cells 51 1 [.fn (.func f) a b] false):=rfl
 obtain⟨S,hS⟩:∃S:St,S=⟨(st.c,.cells 51 1 [.fn (.func f) a b] false)::st.h,st.c+1,st.c⟩:=⟨_,rfl⟩
 have n1:newObj st.c (.cells 51 1 [.fn (.func f) a b] false) ⟨st.h,st.c+1,st.c⟩=some S:=by rw[hS]; exact Ac hb'
 have E1:Df st S:=by rw[hS]; exact Df.cons (Df.refl hb) (by omega)
 have hN:FB (k+1) 138 [] [.AO st.c 0] S fun x=>!p x:=Ow (fn:=C.f138) rfl rfl rfl rfl rfl (H.mono E1) (by rw[hS]; show st.c<st.c+1; omega) (by rw[hS]; show AA ((st.c,_)::_) _=_; rw[AL,if_pos rfl])
 have hc:=Hf (k:=k+1) (n:=r.length) (fc:=138) (w:=w) (a:=[]) (b:=[.AO st.c 0]) (el:=fun j=>r.getD j []) (p:=fun j=>!p (r.getD j [])) (st:=S)
  (by rw[hw.QL]; simp) (by omega) (fun i hi=>⟨_,hw.JY hi,by simp[List.getD,hi]⟩) (fun i hi=>hN S _ (Df.refl E1.hb))
 have e:decide (∃i,i<r.length/\(!p (r.getD i []))=true)=!r.all p:=by
  rw[Bool.eq_iff_iff]
  simp only[decide_eq_true_eq,Bool.not_eq_true',List.all_eq_false]
  constructor
  ·rintro⟨i,hi,h⟩
   exact⟨r[i],List.getElem_mem hi,by simpa [List.getD,hi] using h⟩
  ·rintro⟨s,hs,h⟩
   obtain⟨i,hi,rfl⟩:=List.getElem_of_mem hs
   exact⟨i,hi,by simpa [List.getD,hi] using h⟩
 rw[e] at hc
 simp[C.f74,hbx,n1,hc,leave,results,AY]
def Da (K:List Aj):AV:=.GM (strs K) (List.replicate K.length (.bool true))
theorem jG {K:List Aj}{x:Aj}{st:St}:DR (.one .str) (.bool false) false (Da K) (.str x) st=some (.bool (decide (x∈K)),st):=by
 rcases Hy x K with⟨h1,i,h2,h3⟩|⟨h1,h2⟩
 ·simp[Da,DR,Ga,HV,h3,Gm,h1,List.getElem?_replicate,h2]
 ·simp[Da,DR,Ga,HV,h2,Gm,h1]
theorem bM {k q m:Nat}{K:List Aj}{st0:St}(hq:q<st0.c)(hm:m<st0.c)(hf:AA st0.h q=some (.cells 88 1 [.Bv m] false))(hK:DJ st0.h m K) :
 FB (k+1) 188 [] [.AO q 0] st0 fun x=>decide (x∈K):=by
 intro st x hst
 rw[BS (fn:=C.f188) rfl rfl rfl,Ad (by simp)]
 have r:AP st.h (.AO q 0)=some (.Bv m):=by rw[AB ((hst.fr q hq).trans hf)]; rfl
 have hl:=DJ.look (st:=⟨st.h,st.c,st.c⟩) (hK.frame (hst.fr m hm)) x
 simp[C.f188,r,hl,leave,results,AY]
theorem Vf {k:Nat}{K:List Aj}{st0:St}:FB (k+1) 188 [] [.BC [Da K]] st0 fun x=>decide (x∈K):=by
 intro st x hst
 rw[BS (fn:=C.f188) rfl rfl rfl,Ad (by simp)]
 simp[C.f188,jG,leave,results,AY]
theorem Jk {α:Type}{p q:α->Bool}{l:List α}(h:∀x∈l,p x=true->q x=true){a:α}(ha:a∈l)(hp:p a=false)(hq:q a=true):l.countP p<l.countP q:=by
 induction l with
 |nil=>cases ha
 |cons x l ih=>
  have hle:l.countP p<=l.countP q:=List.countP_mono_left fun y hy=>h y (List.mem_cons_of_mem _ hy)
  rcases List.mem_cons.1 ha with e|ha
  ·subst e
   rw[List.countP_cons_of_neg (by simp[hp]),List.countP_cons_of_pos hq]
   omega
  ·have:=ih (fun y hy=>h y (List.mem_cons_of_mem _ hy)) ha
   rw[List.countP_cons,List.countP_cons]
   have hx:=h x (by simp)
   cases h1:p x with
   |true=>rw[hx h1]; omega
   |false=>simp; omega
def gX (g:AX)(K:List Aj):Nat:=g.rules.countP fun r=>decide (r.left∉K)
theorem rG {g:AX}{K K':List Aj}(h:∀s,s∈K->s∈K'){r:Ba}(hr:r∈g.rules)(h1:r.left∉K)(h2:r.left∈K'):gX g K'<gX g K:=
 Jk (fun x _ hx=>by
  simp only[decide_eq_true_eq] at hx ⊢
  exact fun hk=>hx (h _ hk)) hr (by simp[h2]) (by simp[h1])
def UG (b:Aj->Bool)(g:AX)(s:Aj):Prop:=∃r∈g.rules,r.left=s/\∀x∈r.right,VB (fun x=>b x=true) g x
def Yq (b:Aj->Bool)(K:List Aj)(r:Ba):Bool:=r.right.all fun s=>b s||decide (s∈K)
theorem ja {b:Aj->Bool}{g:AX}{K:List Aj}(hK:∀s∈K,UG b g s){r:Ba}(hr:r∈g.rules)(h:Yq b K r=true):UG b g r.left:=by
 refine⟨r,hr,rfl,fun x hx=>?_⟩
 unfold Yq at h
 have:=List.all_eq_true.1 h x hx
 simp only[Bool.or_eq_true,decide_eq_true_eq] at this
 rcases this with h|h
 ·exact .base h
 ·obtain⟨r',h1,h2,h3⟩:=hK x h
  rw[← h2]; exact .KP h1 h3
theorem Zt {b:Aj->Bool}{g:AX}{K:List Aj}(hc:∀r∈g.rules,Yq b K r=true->r.left∈K){s:Aj}(h:UG b g s):s∈K:=by
 have key:∀x,VB (fun x=>b x=true) g x->b x=true∨x∈K:=by
  intro x hx
  induction hx with
  |base h=>exact .inl h
  |KP hr _ ih=>
   refine .inr (hc _ hr ?_)
   unfold Yq
   rw[List.all_eq_true]
   intro y hy
   simpa using ih y hy
 obtain⟨r,h1,rfl,h3⟩:=h
 refine hc r h1 ?_
 unfold Yq
 rw[List.all_eq_true]
 intro y hy
 simpa using key y (h3 y hy)
def Ta (k f:Nat)(a b:List AV)(st0:St)(g:AX)(bb:Aj->Bool)(q m:Nat):Prop:=
 ∀st K i (hi:i<g.rules.length) w,BI w 1 (strs g.rules[i].right)->Df st0 st->q<st.c->m<st.c->AA st.h q=some (.cells 88 1 [.Bv m] false)->DJ st.h m K ->
  AU E k f (a++([.agg [.str g.rules[i].left,w,.int .i64 g.rules[i].level],.fn (.func 188) [] [.AO q 0]]++b)) st=.ret (.bool (Yq bb K g.rules[i]),st)
structure GR (st0:St)(gs:List AV)(K:List Aj)(st:St):Prop where
 ext:Df st0 st
 lo:st.lo=st0.c
 c3:st0.c+3<=st.c
 g0:AA st.h st0.c=some (.cells 29 3 gs false)
 m1:DJ st.h (st0.c+1) K
 k2:AA st.h (st0.c+2)=some (.cells 88 1 [.Bv (st0.c+1)] false)
section
variable {k f:Nat}{a b:List AV}{st0:St}{g:AX}{bb:Aj->Bool}{kv rv:AV}{l:List AV}
set_option maxHeartbeats 1000000 in
theorem Xi (hr:BI rv 3 l)(hrs:Bt l g.rules)(hs:g.Small)(HR:Ta k f a b st0 g bb (st0.c+2) (st0.c+1))(K0:List Aj)(st:St)(H:GR st0 [kv,.str g.start,rv] K0 st)(hK0:∀s∈K0,UG bb g s)(ts0:TS)(h1:ts0.get 1=.fn (.func f) a b)(h2:ts0.get 2=.AO st0.c 0)(h5:ts0.get 5=.AO (st0.c+2) 0)(h6:ts0.get 6=.fn (.func 188) [] [.AO (st0.c+2) 0])(h7:ts0.get 7=.bool false)(h14:ts0.get 14=rv)(h15:ts0.get 15=.int .i64 (g.rules.length:Int))(h16:ts0.get 16=.int .i64 ((0:Nat):Int)) :
 (CJ (Ar E (AU E k) C.f129L1) E.k ts0 st).to fun x=>x.1=.exit 2/\x.2.1.get 1=.fn (.func f) a b/\x.2.1.get 2=.AO st0.c 0/\x.2.1.get 5=.AO (st0.c+2) 0/\x.2.1.get 6=.fn (.func 188) [] [.AO (st0.c+2) 0]/\∃K more,x.2.1.get 7=.bool more/\GR st0 [kv,.str g.start,rv] K x.2.2/\(∀s∈K,UG bb g s) /\
  ((more=true/\gX g K<gX g K0)∨(more=false/\∀r∈g.rules,Yq bb K r=true->r.left∈K)):=by
 have hln:=hrs.length
 have hmany:=hs.many
 refine Be (fun (i:Nat) ts st=>i<=g.rules.length/\ts.get 1=.fn (.func f) a b/\ts.get 2=.AO st0.c 0/\ts.get 5=.AO (st0.c+2) 0/\ts.get 6=.fn (.func 188) [] [.AO (st0.c+2) 0]/\ts.get 14=rv/\ts.get 15=.int .i64 (g.rules.length:Int)/\ts.get 16=.int .i64 (i:Int)/\∃K more,ts.get 7=.bool more/\GR st0 [kv,.str g.start,rv] K st/\(∀s∈K,UG bb g s) /\
  ((more=true/\gX g K<gX g K0)∨(more=false/\K=K0/\∀j (hj:j<g.rules.length),j<i->Yq bb K g.rules[j]=true->g.rules[j].left∈K)))
  (fun i=>g.rules.length-i) ?_ _ 0 _ _ ?_ ?_
 ·rintro i ts st ⟨hi,h1,h2,h5,h6,h14,h15,h16,K,more,h7,H,hK,hM⟩
  by_cases Au:i<g.rules.length
  ·have hil:i<l.length:=by omega
   obtain⟨w,e1,e2⟩:=(hrs.get i Au).2
   obtain⟨h,c,lo⟩:=st
   have hlo:lo=st0.c:=H.lo
   subst hlo
   have hb':∀p x,(p,x)∈h->p<c:=H.ext.hb
   have hc3:st0.c+3<=c:=H.c3
   obtain⟨rc,hrc⟩:∃rc:List AV,rc=[.str g.rules[i].left,w,.int .i64 g.rules[i].level]:=⟨_,rfl⟩
   obtain⟨h',hh'⟩:∃h':Af,h'=(c,Ai.cells 68 3 rc false)::h:=⟨_,rfl⟩
   have X1:Df st0 ⟨h',c+1,st0.c⟩:=by rw[hh']; exact H.ext.cons (by omega)
   have fr:∀p,p<c->AA h' p=AA h p:=fun p hp=>by rw[hh',AL,if_neg (by omega)]
   have hix:Aa 3 rv (.int .i64 (i:Int)) ⟨h,c+1,st0.c⟩=some (.BC l[i].cells,⟨h,c+1,st0.c⟩):=hr.idx hil
   have hcells:l[i].cells=rc:=by rw[e1,hrc]; rfl
   rw[hcells] at hix
   have hn:newObj c (.cells 68 3 [.str [],.AJ,.int .i64 0] false) ⟨h,c+1,st0.c⟩=some ⟨(c,.cells 68 3 [.str [],.AJ,.int .i64 0] false)::h,c+1,st0.c⟩:=Ac hb'
   have hst:=CO (h:=h) (c:=c) (c':=c+1) (lo:=st0.c) (ty:=68) (n:=3) (zs:=[.str [],.AJ,.int .i64 0]) (vs:=rc) (by omega) (by rw[hrc]; rfl) rfl
   rw[← hh'] at hst
   have hrd3:AZ h (.BC rc) 3=some rc:=by rw[hrc]; rfl
   have fc:AA h' c=some (.cells 68 3 rc false):=by rw[hh',AL,if_pos rfl]
   have rca:AZ h' (.AO c 0) 3=some rc:=Ae fc (by rw[hrc]; rfl)
   have rc0:AP h' (.AO c 0)=some (.str g.rules[i].left):=by rw[AB fc,hrc]; rfl
   have k2':=(fr (st0.c+2) (by omega)).trans H.k2
   have r5:AP h' (.AO (st0.c+2) 0)=some (.Bv (st0.c+1)):=by rw[AB k2']; rfl
   have M1:DJ (St.mk h' (c+1) st0.c).h (st0.c+1) K:=H.m1.frame (fr _ (by omega))
   have hlook:=M1.look (st:=⟨h',c+1,st0.c⟩) g.rules[i].left
   have G1:GR st0 [kv,.str g.start,rv] K ⟨h',c+1,st0.c⟩:=⟨X1,rfl,by show st0.c+3<=c+1; omega,(fr _ (by omega)).trans H.g0,M1,k2'⟩
   have hcall:=HR ⟨h',c+1,st0.c⟩ K i Au w e2 X1 (by show st0.c+2<c+1; omega) (by show st0.c+1<c+1; omega) k2' M1
   rw[← hrc] at hcall
   have hnext:∀j (hj:j<g.rules.length),j<i+1->(∀j (hj:j<g.rules.length),j<i->Yq bb K g.rules[j]=true->g.rules[j].left∈K)->(Yq bb K g.rules[i]=true->g.rules[i].left∈K)->Yq bb K g.rules[j]=true->g.rules[j].left∈K:=fun j hj hji hall hthis=>by
    rcases Nat.lt_or_ge j i with h|h
    ·exact hall j hj h
    ·have:j=i:=by omega
     subst this; exact hthis
   by_cases hin:g.rules[i].left∈K
   ·rw[decide_eq_true hin] at hlook
    simp[-Bool.exists_bool,C.f129L1,Az,Av,h1,h2,h5,h6,h7,h14,h15,h16,Au,hix,-Aw,hrd3,hn,hst,r5,rc0,hlook,wi i]
    refine⟨i+1,by omega,by omega,by simp,K,G1,hK,?_⟩
    rcases hM with⟨m1,m2⟩|⟨m1,m2,m3⟩
    ·exact .inl ⟨m1,m2⟩
    ·exact .inr ⟨m1,m2,fun j hj hji=>hnext j hj hji m3 fun _=>hin⟩
   ·rw[decide_eq_false hin] at hlook
    cases hok:Yq bb K g.rules[i] with
    |false=>
     rw[hok] at hcall
     simp only[List.cons_append,List.nil_append] at hcall
     simp[-Bool.exists_bool,C.f129L1,Az,Av,h1,h2,h5,h6,h7,h14,h15,h16,Au,hix,-Aw,hrd3,hn,hst,r5,rc0,rca,hlook,hcall,wi i]
     refine⟨i+1,by omega,by omega,by simp,K,G1,hK,?_⟩
     rcases hM with⟨m1,m2⟩|⟨m1,m2,m3⟩
     ·exact .inl ⟨m1,m2⟩
     ·exact .inr ⟨m1,m2,fun j hj hji=>hnext j hj hji m3 fun h=>by rw[hok] at h; cases h⟩
    |true=>
     rw[hok] at hcall
     simp only[List.cons_append,List.nil_append] at hcall
     obtain⟨ob,K',p1,p2,p3,p4⟩:=M1.put (st:=⟨h',c+1,st0.c⟩) (by show st0.c<=st0.c+1; omega) g.rules[i].left
     simp only at p1 p2 p4
     simp[-Bool.exists_bool,C.f129L1,Az,Av,h1,h2,h5,h6,h7,h14,h15,h16,Au,hix,-Aw,hrd3,hn,hst,r5,rc0,rca,hlook,hcall,p1,wi i]
     have hmem:g.rules[i]∈g.rules:=List.getElem_mem Au
     have hlt':gX g K'<gX g K:=rG (fun s hs=>(p3 s).2 (.inr hs)) hmem hin ((p3 _).2 (.inl rfl))
     refine⟨i+1,by omega,by omega,by simp,K',⟨⟨X1.c,HB.Ab (st:=⟨h',c+1,st0.c⟩) X1.hb,fun p hp=>(p4 p (by omega)).trans (X1.fr p hp)⟩,rfl,G1.c3,(p4 _ (by omega)).trans G1.g0,p2,(p4 _ (by omega)).trans G1.k2⟩,fun s hs=>?_,?_⟩
     ·rcases (p3 s).1 hs with e|h
      ·rw[e]; exact ja hK hmem hok
      ·exact hK s h
     ·rcases hM with⟨m1,m2⟩|⟨m1,m2,m3⟩
      ·omega
      ·rw[← m2]; exact hlt'
  ·have:i=g.rules.length:=by omega
   subst this
   simp[-Bool.exists_bool,C.f129L1,h1,h2,h5,h6,h7,h14,h15,h16]
   refine⟨K,H,hK,?_⟩
   rcases hM with⟨m1,m2⟩|⟨m1,m2,m3⟩
   ·exact .inl ⟨m1,m2⟩
   ·refine .inr ⟨m1,fun r hr=>?_⟩
    obtain⟨j,hj,rfl⟩:=List.getElem_of_mem hr
    exact m3 j hj hj
 ·show g.rules.length-0<1000000; omega
 ·exact⟨by omega,h1,h2,h5,h6,h14,h15,h16,K0,false,h7,H,hK0,.inr ⟨rfl,rfl,fun j _ h=>by omega⟩⟩
theorem Xh (hr:BI rv 3 l)(hrs:Bt l g.rules)(hs:g.Small)(HR:Ta k f a b st0 g bb (st0.c+2) (st0.c+1))(st:St)(H:GR st0 [kv,.str g.start,rv] [] st)(ts0:TS)(h1:ts0.get 1=.fn (.func f) a b)(h2:ts0.get 2=.AO st0.c 0)(h5:ts0.get 5=.AO (st0.c+2) 0)(h6:ts0.get 6=.fn (.func 188) [] [.AO (st0.c+2) 0])(h7:ts0.get 7=.bool true) :
 (CJ (Ar E (AU E k) C.f129L0) E.k ts0 st).to fun x=>x.1=.exit 0/\x.2.1.get 6=.fn (.func 188) [] [.AO (st0.c+2) 0]/\∃K,GR st0 [kv,.str g.start,rv] K x.2.2/\∀s,s∈K↔UG bb g s:=by
 have hln:=hrs.length
 have hmany:=hs.many
 have hcnt:gX g []<=g.rules.length:=List.countP_le_length
 refine Be (fun (n:Nat) ts st=>ts.get 1=.fn (.func f) a b/\ts.get 2=.AO st0.c 0/\ts.get 5=.AO (st0.c+2) 0/\ts.get 6=.fn (.func 188) [] [.AO (st0.c+2) 0]/\∃K more,ts.get 7=.bool more/\GR st0 [kv,.str g.start,rv] K st/\(∀s∈K,UG bb g s) /\
  ((more=true/\gX g K<n)∨(more=false/\∀r∈g.rules,Yq bb K r=true->r.left∈K)))
  (fun n=>n) ?_ _ (g.rules.length+1) _ _ ?_ ?_
 ·rintro n ts st ⟨h1,h2,h5,h6,K,more,h7,H,hK,hM⟩
  rcases hM with⟨rfl,m2⟩|⟨rfl,m2⟩
  ·have r2:AP st.h (.AO st0.c 2)=some rv:=by rw[AB H.g0]; rfl
   have hlr:∀S':St,BO .slice rv S'=some (.int .i64 (g.rules.length:Int),S'):=fun S'=>by have:=hr.len (st:=S'); rw[this,hln]
   simp[-Bool.exists_bool,C.f129L0,h1,h2,h5,h6,h7,r2,hlr]
   refine M.Al (Xi hr hrs hs HR K st H hK _ (by simp[h1]) (by simp[h2]) (by simp[h5]) (by simp[h6]) (by simp) (by simp) (by simp) (by simp)) fun x hx=>?_
   obtain⟨e,ts1,st1⟩:=x
   obtain⟨e1,g1,g2,g5,g6,K',more',g7,H',hK',hM'⟩:=hx
   simp only at e1 g1 g2 g5 g6 g7 H'
   subst e1
   simp[-Bool.exists_bool,g1,g2,g5,g6,g7]
   rcases hM' with⟨rfl,m3⟩|⟨rfl,m3⟩
   ·exact⟨gX g K,m2,K',H',hK',.inl ⟨rfl,m3⟩⟩
   ·exact⟨gX g K,m2,K',H',hK',.inr ⟨rfl,m3⟩⟩
  ·simp[-Bool.exists_bool,C.f129L0,h1,h2,h5,h6,h7]
   exact⟨K,H,fun s=>⟨hK s,Zt m2⟩⟩
 ·show g.rules.length+1<1000000; omega
 ·exact⟨h1,h2,h5,h6,[],true,h7,H,(fun s h=>by cases h),.inl ⟨rfl,by omega⟩⟩
end
theorem AX.fill {k f:Nat}{a b:List AV}{v:AV}{g:AX}{bb:Aj->Bool}{st:St}(hg:BP v g)(hs:g.Small)(hb:HB st)(HR:Ta k f a b st g bb (st.c+2) (st.c+1)) :
 ∃K,AU E (k+1) 129 [v,.fn (.func f) a b] st=.ret (.fn (.func 188) [] [.BC [Da K]],st)/\∀s,s∈K↔UG bb g s:=by
 obtain⟨kv,rv,l,rfl,hk,hr,hrs⟩:=hg
 rw[BS (fn:=C.f129) rfl rfl rfl,Ad (by simp)]
 have goal:((Ar E (AU E k) C.f129.body (TS.CY [.agg [kv,.str g.start,rv],.fn (.func f) a b] 0 .nil) { st with lo:=st.c }).bind (leave C.f129.results)).to fun x=>∃K,x.1=.fn (.func 188) [] [.AO (st.c+2) 0]/\GR st [kv,.str g.start,rv] K x.2/\∀s,s∈K↔UG bb g s:=by
  have hb':∀p x,(p,x)∈st.h->p<st.c:=hb
  have hbx:Dr st.c 29 3 (.agg [kv,.str g.start,rv])=some (.AO st.c 0,.cells 29 3 [kv,.str g.start,rv] false):=rfl
  obtain⟨h1,hh1⟩:∃h:Af,h=(st.c,Ai.cells 29 3 [kv,.str g.start,rv] false)::st.h:=⟨_,rfl⟩
  have n1:newObj st.c (.cells 29 3 [kv,.str g.start,rv] false) ⟨st.h,st.c+1,st.c⟩=some ⟨h1,st.c+1,st.c⟩:=by rw[hh1]; exact Ac hb'
  have X1:Df st ⟨h1,st.c+1,st.c⟩:=by rw[hh1]; exact (Df.refl hb).cons (by omega)
  obtain⟨h2,hh2⟩:∃h:Af,h=(st.c+1,Ai.map [] [] [] 0)::h1:=⟨_,rfl⟩
  have n2:newObj (st.c+1) (.map [] [] [] 0) ⟨h1,st.c+3,st.c⟩=some ⟨h2,st.c+3,st.c⟩:=by rw[hh2]; exact Ac X1.hb
  have X2:Df st ⟨h2,st.c+2,st.c⟩:=by rw[hh2]; exact X1.cons (by omega)
  obtain⟨h3,hh3⟩:∃h:Af,h=(st.c+2,Ai.cells 88 1 [.Bv (st.c+1)] false)::h2:=⟨_,rfl⟩
  have n3:newObj (st.c+2) (.cells 88 1 [.Dl] false) ⟨h2,st.c+3,st.c⟩=some ⟨(st.c+2,.cells 88 1 [.Dl] false)::h2,st.c+3,st.c⟩:=Ac X2.hb
  have s3:Bc 1 (.AO (st.c+2) 0) (.Bv (st.c+1)) ⟨(st.c+2,.cells 88 1 [.Dl] false)::h2,st.c+3,st.c⟩=some (.undef,⟨h3,st.c+3,st.c⟩):=by
   rw[BX (cs:=[.Dl]) (ty:=88) (sz:=1) (ext:=false) (by rw[AL,if_pos rfl]) (by show st.c<=st.c+2; omega) (by simp) rfl rfl,hh3]
   simp[Ab]
  have X3:Df st ⟨h3,st.c+3,st.c⟩:=by rw[hh3]; exact X2.cons (by omega)
  have G0:GR st [kv,.str g.start,rv] [] ⟨h3,st.c+3,st.c⟩:=by
   refine⟨X3,rfl,Nat.le_refl _,?_,⟨[],0,?_⟩,?_⟩
   ·show AA h3 st.c=_; rw[hh3,Ao (by omega),hh2,Ao (by omega),hh1,AL,if_pos rfl]
   ·show AA h3 (st.c+1)=_; rw[hh3,Ao (by omega),hh2,AL,if_pos rfl]; rfl
   ·show AA h3 (st.c+2)=_; rw[hh3,AL,if_pos rfl]
  simp[C.f129,hbx,n1,n2,n3,s3]
  refine M.Al (Xh hr hrs hs HR _ G0 _ (by simp) (by simp) (by simp) (by simp) (by simp)) fun x hx=>?_
  obtain⟨e,ts1,st1⟩:=x
  obtain⟨e1,g6,K,H,hK⟩:=hx
  simp only at e1 g6 H
  subst e1
  simp[leave,results,AY,g6]
  exact⟨K,H,hK⟩
 obtain⟨⟨v,st'⟩,h1,K,h2,H,hK⟩:=goal
 simp only at h2 H
 subst h2
 refine⟨K,?_,hK⟩
 rw[h1]
 obtain⟨bs,clock,hm⟩:=H.m1
 have hold2:AV.Bw st.c (.fn (.func 188) [] [.AO (st.c+2) 0])=false:=by simp[AV.Bw,AV.CL,blt_eq]
 have hth:Bp st.c st'.h 64 (.fn (.func 188) [] [.AO (st.c+2) 0])=some (.fn (.func 188) [] [.BC [Da K]]):=by
  have t1:Bp st.c st'.h 62 (.Bv (st.c+1))=some (Da K):=by
   have ho:AV.Bw st.c (.Bv (st.c+1))=false:=by simp[AV.Bw,blt_eq]
   unfold Bp
   rw[ho]
   simp only[cond_false,hm]
   have hk:CP (Bp st.c st'.h 61) (strs K)=some (strs K):=DY (n:=60) (Dq _ _)
   have hv:CP (Bp st.c st'.h 61) (List.replicate K.length (.bool true))=some (List.replicate K.length (.bool true)):=DY (n:=60) (by
    generalize K.length=n
    induction n with
    |zero=>rfl
    |succ n ih=>simp[List.replicate_succ,AV.CL,AV.Bw,ih])
   simp only[hk,hv,Da]
  have t2:Bp st.c st'.h 63 (.AO (st.c+2) 0)=some (.BC [Da K]):=by
   have ho:AV.Bw st.c (.AO (st.c+2) 0)=false:=by simp[AV.Bw,blt_eq]
   unfold Bp
   rw[ho]
   simp only[cond_false,H.k2,ble_eq,List.drop_zero,CP,t1]
   simp
  unfold Bp
  rw[hold2]
  simp only[cond_false,CP,t2]
 simp only[M.CE,BA,Bu,hth]
theorem FB.more {k f:Nat}{a b:List AV}{st0:St}{p:Aj->Bool}(H:FB k f a b st0 p)(j:Nat):FB (k+j) f a b st0 p:=fun st x hst=>OY (H st x hst) j
theorem SE {k n fc:Nat}{w:AV}{a b:List AV}{el:Nat->Aj}{p:Nat->Bool}{st:St}(hlen:Bq w=some n)(hn:n<1000000)(hat:∀i,i<n->∃q,Aa 1 w (.int .i64 (i:Int)) st=some (q,st)/\AP st.h q=some (.str (el i)))(hcall:∀i,i<n->AU E k fc (a++([.str (el i)]++b)) st=.ret (.bool (p i),st)) :
 (AU E (k+1) 91 [w,.fn (.func fc) a b] st=.ret (.int .i64 (-1),st)/\∀j,j<n->p j=false)∨∃i:Nat,i<n/\p i=true/\(∀j,j<i->p j=false)/\AU E (k+1) 91 [w,.fn (.func fc) a b] st=.ret (.int .i64 (i:Int),st):=by
 have main:(Dj E (AU E k) C.f91 [w,.fn (.func fc) a b] st).to fun x=>(x=(.int .i64 (-1),st)/\∀j,j<n->p j=false)∨∃i:Nat,i<n/\p i=true/\(∀j,j<i->p j=false)/\x=(.int .i64 (i:Int),st):=by
  rw[Ad (by simp)]
  simp[C.f91,BO,hlen]
  refine M.Al (DU (fun (i:Nat) ts st'=>st'=st/\i<=n/\ts.get 0=w/\ts.get 1=.fn (.func fc) a b/\ts.get 7=.int .i64 (n:Int)/\ts.get 8=.int .i64 (i:Int)/\∀j,j<i->p j=false)
   (fun i=>n-i) (fun e ts st'=>st'=st/\((e=.exit 0/\∀j,j<n->p j=false)∨(e=.ret/\∃i:Nat,i<n/\p i=true/\(∀j,j<i->p j=false)/\ts.get 4=.int .i64 (i:Int)))) ?step _ 0 _ _ ?_ ?_) ?_
  case step=>
   rintro i ts st' ⟨rfl,hi,h0,h1,h7,h8,hj⟩
   by_cases Au:i<n
   ·obtain⟨q,a1,b1⟩:=hat i Au
    have hc:=hcall i Au
    simp only[List.singleton_append] at hc
    cases hp:p i with
    |true=>
     rw[hp] at hc
     simp[C.f91L0,h0,h1,h7,h8,Au,a1,b1,hc]
     exact⟨i,Au,hp,hj,rfl⟩
    |false=>
     rw[hp] at hc
     simp[C.f91L0,h0,h1,h7,h8,Au,a1,b1,hc,wi i]
     refine⟨i+1,by omega,by omega,by simp,fun j hji=>?_⟩
     by_cases e:j=i
     ·subst e; exact hp
     ·exact hj j (by omega)
   ·have:i=n:=by omega
    subst this
    simp[C.f91L0,h0,h1,h7,h8]
    exact hj
  ·show n-0<1000000; omega
  ·simp
  ·rintro⟨e,ts,st'⟩ ⟨rfl,h⟩
   rcases h with⟨rfl,h⟩|⟨rfl,i,hi,hp,hj,h4⟩
   ·simp[leave,results,AY]
    exact h
   ·simp[h4,leave,results,AY]
    exact⟨i,hi,hp,hj,rfl⟩
 rw[Ap (fn:=C.f91) rfl rfl rfl]
 obtain⟨x,h1,⟨rfl,h2⟩|⟨i,hi,hp,hj,rfl⟩⟩:=main
 ·exact .inl ⟨h1,h2⟩
 ·exact .inr ⟨i,hi,hp,hj,h1⟩
theorem fU {st:St}{id k m:Nat}{cs:List AV}{ext:Bool}(hf:AA st.h id=some (.cells 9 1 cs ext))(hlo:st.lo<=id)(hk:k+m<=cs.length) :
 ∃rest,(Dk [.str []] (.AQ id k m none) st=some (.tuple [],{ st with h:=Ab st.h id (.cells 9 1 (cs.take k++rest) ext) }))∨(Dk [.str []] (.AQ id k m none) st=some (.tuple [],st)/\cs=cs.take k++rest):=by
 by_cases h0:m=0
 ·exact⟨cs.drop k,.inr ⟨by simp[Dk,h0,beq_eq],by simp⟩⟩
 ·have hl:=Ll [.str []] m
  simp only[List.length_cons,List.length_nil] at hl
  have hb:Nat.blt id st.lo=false:=by rw[blt_eq]; simp; omega
  refine⟨CQ [.str []] m++cs.drop (k+(CQ [.str []] m).length),.inl ?_⟩
  simp[Dk,beq_eq,h0,hf,Bl,hb,ble_eq,hl,BM,hk]
section
variable {id:Nat}{ext:Bool}{U:List Aj}{rest:List AV}{st0:St}{p:Aj->Bool}
structure wu (id:Nat)(ext:Bool)(U:List Aj)(rest:List AV)(p:Aj->Bool)(st0:St)(i j:Nat)(D:List Aj)(st:St):Prop where
 at_:AA st.h id=some (.cells 9 1 (strs D++rest) ext)
 len:D.length=U.length
 only:Ra id st0 st
 ij:i<j
 jn:j<=U.length
 front:D.take i=(U.take j).filter fun s=>!p s
 same:∀q,j<=q->D.getD q []=U.getD q []
theorem mo {k f:Nat}{a b:List AV}{s0:St}(hX:Df s0 st0)(hid:s0.c<=id)(HP:FB k f a b s0 p)(hf:AA st0.h id=some (.cells 9 1 (strs U++rest) ext))(hlo:st0.lo<=id)(hn:U.length<=1000) :
 (AU E (k+2) 127 [.AQ id 0 U.length none,.fn (.func f) a b] st0).to fun x=>Ra id st0 x.2/\kE x.2.h id x.1 (U.filter fun s=>!p s):=by
 rw[Ap (fn:=C.f127) rfl rfl rfl,Ad (by simp)]
 have rd:∀{st:St} {D:List Aj} {q:Nat},AA st.h id=some (.cells 9 1 (strs D++rest) ext)->q<D.length->AP st.h (.AO id q)=some (.str (D.getD q [])):=fun hf hq=>by
  rw[AB hf,List.getElem?_append_left (by simpa using hq),strs_get? _ _ hq]
 have hidx:=SE (k:=k) (n:=U.length) (fc:=f) (w:=.AQ id 0 U.length none) (a:=a) (b:=b) (el:=fun i=>U.getD i []) (p:=fun i=>p (U.getD i [])) (st:=st0) rfl (by omega) (fun i hi=>⟨_,Gc hf hi,rd hf hi⟩) (fun i hi=>HP st0 _ hX)
 rcases hidx with⟨h1,hall⟩|⟨i0,hi0,hp0,hj0,h1⟩
 ·simp[C.f127,h1,leave,results,AY]
  have:U.filter (fun s=>!p s)=U:=List.filter_eq_self.2 fun s hs=>by
   obtain⟨i,hi,rfl⟩:=List.getElem_of_mem hs
   have:=hall i hi
   simpa [List.getD,hi] using this
  rw[this]
  exact⟨.refl,rest,ext,rfl,hf⟩
 ·have hne:((i0:Int)==-1)=false:=by simp only[beq_eq_false_iff_ne,ne_eq]; omega
  have D0:wu id ext U rest p st0 i0 (i0+1) U st0:=by
   refine⟨hf,rfl,.refl,by omega,by omega,?_,fun _ _=>rfl⟩
   rw[List.take_succ_eq_append_getElem hi0,List.filter_append]
   have e0:U.getD i0 []=U[i0]:=by simp[List.getD,hi0]
   rw[e0] at hp0
   have:(U.take i0).filter (fun s=>!p s)=U.take i0:=List.filter_eq_self.2 fun s hs=>by
    obtain⟨i,hi,rfl⟩:=List.getElem_of_mem hs
    rw[List.length_take] at hi
    have:=hj0 i (by omega)
    have e:U.getD i []=U[i]'(by omega):=by simp[List.getD,show i<U.length by omega]
    rw[e] at this
    simpa using this
   rw[this]; simp[hp0]
  simp[C.f127,h1,hne,wi i0]
  refine M.Al (DU (fun (j:Nat) ts st=>ts.get 0=.AQ id 0 U.length none/\ts.get 1=.fn (.func f) a b/\ts.get 6=.int .i64 (j:Int)/\∃(i:Nat) (D:List Aj),ts.get 5=.int .i64 (i:Int)/\wu id ext U rest p st0 i j D st)
   (fun j=>U.length-j) (fun e ts st=>e=.exit 0/\ts.get 0=.AQ id 0 U.length none/\∃(i:Nat) (D:List Aj),ts.get 5=.int .i64 (i:Int)/\wu id ext U rest p st0 i U.length D st) ?step _ (i0+1) _ _ ?_ ?_) ?_
  case step=>
   rintro j ts st ⟨h0,h1,h6,i,D,h5,H⟩
   have hlen:=H.len
   have hij:=H.ij
   have hjn:=H.jn
   have hlenS:∀S:St,BO .slice (.AQ id 0 U.length none) S=some (.int .i64 (U.length:Int),S):=fun S=>rfl
   by_cases Au:j<U.length
   ·obtain⟨x,hx⟩:∃x,U.getD j []=x:=⟨_,rfl⟩
    have rdx:=rd H.at_ (show j<D.length by omega)
    rw[H.same j (by omega),hx] at rdx
    have hX':Df s0 st:=⟨by rw[H.only.c]; exact hX.c,H.only.hb hX.hb,fun q hq=>(H.only.fr q (by omega)).trans (hX.fr q hq)⟩
    have hc:=HP.more 1 st x hX'
    simp only[List.singleton_append] at hc
    have htk:(U.take (j+1)).filter (fun s=>!p s)=(U.take j).filter (fun s=>!p s)++(if p x then [] else [x]):=by
     have e:U.getD j []=U[j]:=by simp[List.getD,Au]
     rw[List.take_succ_eq_append_getElem Au,List.filter_append,← e,hx]
     cases hp:p x <;> simp[hp]
    cases hp:p x with
    |true=>
     rw[hp] at hc htk
     simp[C.f127L0,h0,h1,h5,h6,hlenS,Au,Gc H.at_ Au,rdx,hc,wi j]
     exact⟨j+1,by omega,by simp,i,rfl,D,H.at_,H.len,H.only,by omega,by omega,by rw[htk,H.front]; simp,fun q hq=>H.same q (by omega)⟩
    |false=>
     rw[hp] at hc htk
     have s1:=BX (st:=st) (off:=i) (v:=.str x) H.at_ (by rw[H.only.lo]; exact hlo) (by simp; omega) rfl rfl
     rw[List.set_append_left _ _ (by simp; omega),Oi] at s1
     simp[C.f127L0,h0,h1,h5,h6,hlenS,Au,Gc H.at_ Au,rdx,hc,Gc H.at_ (show i<U.length by omega),s1,wi j,wi i]
     refine⟨j+1,by omega,by simp,i+1,by simp,D.set i x,?_,by simpa using H.len,H.only.Ab H.at_,by omega,by omega,?_,fun q hq=>?_⟩
     ·show AA (Ab _ _ _) _=_
      rw[AR H.at_,if_pos rfl]
     ·rw[htk,List.take_succ_eq_append_getElem (by simp; omega),List.take_set_of_le (Nat.le_refl i),H.front]; simp
     ·rw[HZ (by omega),if_neg (by omega)]; exact H.same q (by omega)
   ·have:j=U.length:=by omega
    subst this
    simp[C.f127L0,h0,h1,h5,h6,hlenS]
    exact⟨i,rfl,D,H⟩
  ·show U.length-(i0+1)<1000000; omega
  ·exact⟨by simp,by simp,by simp,i0,U,by simp,D0⟩
  ·rintro⟨e,ts,st1⟩ ⟨e1,g0,i,D,g5,H⟩
   simp only at e1 g0 g5 H
   subst e1
   have hlen:=H.len
   have hij:=H.ij
   have sf:=OD (st:=st1) (k:=i) (n:=U.length) (off:=0) H.at_ (by omega) (by simp; omega)
   rw[Nat.zero_add] at sf
   have hfr:D.take i=U.filter fun s=>!p s:=by have:=H.front; rwa [List.take_length] at this
   have hli:(U.filter fun s=>!p s).length=i:=by rw[← hfr,List.length_take]; omega
   obtain⟨rest',hcl|⟨hcl,hcs⟩⟩:=fU (st:=st1) (k:=i) (m:=U.length-i) H.at_ (by rw[H.only.lo]; exact hlo) (by simp; omega)
   ·have htk:(strs D++rest).take i=strs (U.filter fun s=>!p s):=by
     rw[List.take_append_of_le_length (by simp; omega),← hfr]; simp[strs,List.map_take]
    rw[htk] at hcl
    have f1:AA (Ab st1.h id (.cells 9 1 (strs (U.filter fun s=>!p s)++rest') ext)) id=some (.cells 9 1 (strs (U.filter fun s=>!p s)++rest') ext):=by rw[AR H.at_,if_pos rfl]
    have st2:=Ol (st:={ st1 with h:=Ab st1.h id (.cells 9 1 (strs (U.filter fun s=>!p s)++rest') ext) }) (k:=i) (n:=U.length) (off:=0) f1 (by simp; omega)
    simp[g0,g5,sf,hcl,st2,leave,results,AY]
    exact⟨H.only.Ab H.at_,rest',ext,by rw[hli],f1⟩
   ·have htk:(strs D++rest).take i=strs (U.filter fun s=>!p s):=by
     rw[List.take_append_of_le_length (by simp; omega),← hfr]; simp[strs,List.map_take]
    rw[htk] at hcs
    have st2:=Ol (st:=st1) (k:=i) (n:=U.length) (off:=0) H.at_ (by simp; omega)
    simp[g0,g5,sf,hcl,st2,leave,results,AY]
    exact⟨H.only,rest',ext,by rw[hli],by rw[← hcs]; exact H.at_⟩
end
theorem dK {k f:Nat}{a b:List AV}{v:AV}{g:AX}{st:St}{p:Aj->Bool}(hg:BP v g)(hs:g.Small)(h0:0<g.rules.length)(hb:HB st)(HP:FB (k+3) f a b st p) :
 ∃w,AU E (k+7) 61 [v,.fn (.func f) a b] st=.ret (w,st)/\BI w 1 (strs (g.CB.filter p)):=by
 have hg':=hg
 obtain⟨kv,rv,l,rfl,hk,hr,hrs⟩:=hg'
 rw[BS (fn:=C.f61) rfl rfl rfl,Ad (by simp)]
 have goal:((Ar E (AU E (k+6)) C.f61.body (TS.CY [.agg [kv,.str g.start,rv],.fn (.func f) a b] 0 .nil) { st with lo:=st.c }).bind (leave C.f61.results)).to fun x=>∃id,st.c<=id/\kE x.2.h id x.1 (g.CB.filter p):=by
  have hb':∀p x,(p,x)∈st.h->p<st.c:=hb
  have hbx:Dr st.c 29 3 (.agg [kv,.str g.start,rv])=some (.AO st.c 0,.cells 29 3 [kv,.str g.start,rv] false):=rfl
  have hbx2:Dr (st.c+1) 51 1 (.fn (.func f) a b)=some (.AO (st.c+1) 0,.cells 51 1 [.fn (.func f) a b] false):=rfl
  obtain⟨h1,hh1⟩:∃h:Af,h=(st.c,Ai.cells 29 3 [kv,.str g.start,rv] false)::st.h:=⟨_,rfl⟩
  have n1:newObj st.c (.cells 29 3 [kv,.str g.start,rv] false) ⟨st.h,st.c+2,st.c⟩=some ⟨h1,st.c+2,st.c⟩:=by rw[hh1]; exact Ac hb'
  have X1:Df st ⟨h1,st.c+1,st.c⟩:=by rw[hh1]; exact (Df.refl hb).cons (by omega)
  obtain⟨h2,hh2⟩:∃h:Af,h=(st.c+1,Ai.cells 51 1 [.fn (.func f) a b] false)::h1:=⟨_,rfl⟩
  have n2:newObj (st.c+1) (.cells 51 1 [.fn (.func f) a b] false) ⟨h1,st.c+2,st.c⟩=some ⟨h2,st.c+2,st.c⟩:=by rw[hh2]; exact Ac X1.hb
  have X2:Df st ⟨h2,st.c+2,st.c⟩:=by rw[hh2]; exact X1.cons (by omega)
  have f0:AA h2 st.c=some (.cells 29 3 [kv,.str g.start,rv] false):=by rw[hh2,Ao (by omega),hh1,AL,if_pos rfl]
  have f1:AA h2 (st.c+1)=some (.cells 51 1 [.fn (.func f) a b] false):=by rw[hh2,AL,if_pos rfl]
  have rg:AZ h2 (.AO st.c 0) 3=some [kv,.str g.start,rv]:=Ae f0 rfl
  have hN:FB (k+3+1) 128 [] [.AO (st.c+1) 0] ⟨h2,st.c+2,st.c⟩ fun x=>!p x:=Ow (fn:=C.f128) rfl rfl rfl rfl rfl (HP.mono X2) (by show st.c+1<st.c+2; omega) f1
  have hL:=Qs (k:=k) (st:=⟨h2,st.c+2,st.c⟩) hg hs h0 X2.hb (by show st.c<=st.c+2; omega)
  simp[C.f61,hbx,hbx2,n1,n2,rg]
  refine M.Al hL fun x hx=>?_
  obtain⟨w1,st1⟩:=x
  obtain⟨O,id,hid,hid2,rest,ext,rfl,hf⟩:=hx
  simp only at O hid2 hf
  have hid':st.c+2<=id:=hid
  have hX1:Df ⟨h2,st.c+2,st.c⟩ st1:=⟨O.c,O.hb,O.fr⟩
  have hln:g.CB.length<=1000:=by
   have hm:=hs.many
   have h1:g.CB.length<=g.rules.length:=by
    unfold AX.CB
    rw[← List.length_map (f:=fun r:Ba=>r.left)]
    generalize g.rules.map (fun r=>r.left)=L
    induction L with
    |nil=>simp[Di]
    |cons x L ih=>
     show (Mf x (Di L)).length<=L.length+1
     have:∀M:List Aj,(Mf x M).length<=M.length+1:=by
      intro M
      induction M with
      |nil=>simp[Mf]
      |cons y M ih=>unfold Mf; split <;> simp_all <;> split <;> simp_all
     have:=this (Di L); omega
   omega
  have hD:=mo (k:=k+4) (p:=fun x=>!p x) hX1 hid' hN hf (by rw[O.lo]; show st.c<=id; omega) hln
  simp
  refine M.Al hD fun x hx=>?_
  obtain⟨w2,st2⟩:=x
  obtain⟨On,G⟩:=hx
  simp only at On G
  simp[leave,results,AY]
  have e:(fun s=>!!p s)=p:=by funext s; simp
  rw[e] at G
  exact⟨id,by omega,G⟩
 obtain⟨⟨w,st'⟩,h1,id,hid,G⟩:=goal
 obtain⟨w',g1,g2⟩:=G.Bp (c:=st.c) hid
 exact⟨w',by rw[h1]; simp only[M.CE,BA,Bu,g2 64 (by omega)],g1⟩
theorem MG {h:Af}{c c' lo ty n:Nat}{cs:List AV}(hb:HB ⟨h,c,lo⟩):newObj c (.cells ty n cs false) ⟨h,c',lo⟩=some ⟨(c,.cells ty n cs false)::h,c',lo⟩:=Ac hb
theorem YD {k:Nat}{st0:St}{g:AX}(hs:g.Small)(q m:Nat):Ta (k+6) 130 [] [] st0 g (fun _=>false) q m:=by
 intro st K i hi w hw hX hq hm hf hK
 have hsr:=(hs.rules _ (List.getElem_mem hi)).right
 rw[BS (fn:=C.f130) rfl rfl rfl,Ad (by simp)]
 obtain⟨h,c,lo⟩:=st
 have hb:HB ⟨h,c,lo⟩:=hX.hb
 have hbx:Dr c 68 3 (.agg [.str g.rules[i].left,w,.int .i64 g.rules[i].level])=some (.AO c 0,.cells 68 3 [.str g.rules[i].left,w,.int .i64 g.rules[i].level] false):=rfl
 have n1:=MG (c':=c+1) (lo:=c) (ty:=68) (n:=3) (cs:=[.str g.rules[i].left,w,.int .i64 g.rules[i].level]) hb
 obtain⟨h1,hh1⟩:∃h1:Af,h1=(c,Ai.cells 68 3 [.str g.rules[i].left,w,.int .i64 g.rules[i].level] false)::h:=⟨_,rfl⟩
 rw[← hh1] at n1
 have X1:Df ⟨h,c,lo⟩ ⟨h1,c+1,c⟩:=by rw[hh1]; exact (Df.refl hb).cons (lo:=lo) (by omega)
 have r1:AP h1 (.AO c 1)=some w:=by rw[hh1,AB (by rw[AL,if_pos rfl])]; rfl
 have hP:=bM (k:=k) (st0:=⟨h1,c+1,c⟩) (q:=q) (m:=m) (by have:q<c:=hq; show q<c+1; omega) (by have:m<c:=hm; show m<c+1; omega) ((X1.fr q hq).trans hf) (hK.frame (X1.fr m hm))
 have he:=QR (k:=k+1) (st:=⟨h1,c+1,c⟩) hw (by omega) X1.hb hP
 have e:(g.rules[i].right.all fun x=>decide (x∈K))=Yq (fun _=>false) K g.rules[i]:=by unfold Yq; simp
 rw[e] at he
 simp[C.f130,hbx,n1,r1,he,leave,results,AY]
theorem UY {f:Nat}{fn:Bh}(hh:E.QN f=none)(hc:E.code f=some fn)(hp:fn.kY=.pure)(hr:fn.results=[.tmp 4])(hbd:fn.body=C.f133.body){k f':Nat}{gp hp':AV}{cs a b:List AV}{g:AX}{st0:St}{p:Aj->Bool}(hg:BP (.agg cs) g)(hs:g.Small)(hG:∀st,Df st0 st->AZ st.h gp 3=some cs)(hH:∀st,Df st0 st->AP st.h hp'=some (.fn (.func f') a b))(H:FB (k+3) f' a b st0 p) :
 FB (k+4) f [] [gp,hp'] st0 fun s=>decide (s∈g.kinds)||p s:=by
 intro st x hst
 rw[BS hh hc hp,Ad (by simp),hbd,hr]
 have r1:=hG st hst
 have r2:=hH st hst
 have hk:=PD (k:=k) (x:=x) (st:=⟨st.h,st.c,st.c⟩) hg hs hst.hb
 have hc:=H ⟨st.h,st.c,st.c⟩ x hst.lo
 simp only[List.singleton_append] at hc
 cases hx:decide (x∈g.kinds) with
 |true=>
  have hx':x∈g.kinds:=by simpa using hx
  rw[hx] at hk; simp[C.f133,Az,Av,r1,r2,hk,leave,results,AY,hx']
 |false=>
  have hx':x∉g.kinds:=by simpa using hx
  rw[hx] at hk; simp[C.f133,Az,Av,r1,r2,hk,hc,leave,results,AY,hx']
theorem Vi {k gp:Nat}{cs:List AV}{st0:St}{g:AX}(hg:BP (.agg cs) g)(hs:g.Small)(hgp:gp<st0.c)(hgf:AA st0.h gp=some (.cells 29 3 cs false))(hl3:cs.length=3)(q m:Nat):Ta (k+9) 131 [] [.AO gp 0] st0 g (fun s=>decide (s∈g.kinds)) q m:=by
 intro st K i hi w hw hX hq hm hf hK
 have hsr:=(hs.rules _ (List.getElem_mem hi)).right
 rw[BS (fn:=C.f131) rfl rfl rfl,Ad (by simp)]
 obtain⟨h,c,lo⟩:=st
 have hb:HB ⟨h,c,lo⟩:=hX.hb
 have hXc:st0.c<=c:=hX.c
 have hbx:Dr c 68 3 (.agg [.str g.rules[i].left,w,.int .i64 g.rules[i].level])=some (.AO c 0,.cells 68 3 [.str g.rules[i].left,w,.int .i64 g.rules[i].level] false):=rfl
 have hbx2:Dr (c+1) 51 1 (.fn (.func 188) [] [.AO q 0])=some (.AO (c+1) 0,.cells 51 1 [.fn (.func 188) [] [.AO q 0]] false):=rfl
 have n1:=MG (c':=c+2) (lo:=c) (ty:=68) (n:=3) (cs:=[.str g.rules[i].left,w,.int .i64 g.rules[i].level]) hb
 obtain⟨h1,hh1⟩:∃h1:Af,h1=(c,Ai.cells 68 3 [.str g.rules[i].left,w,.int .i64 g.rules[i].level] false)::h:=⟨_,rfl⟩
 rw[← hh1] at n1
 have X1:Df ⟨h,c,lo⟩ ⟨h1,c+1,c⟩:=by rw[hh1]; exact (Df.refl hb).cons (lo:=lo) (by omega)
 have n2:=MG (c':=c+2) (lo:=c) (ty:=51) (n:=1) (cs:=[.fn (.func 188) [] [.AO q 0]]) X1.hb
 obtain⟨h2,hh2⟩:∃h2:Af,h2=(c+1,Ai.cells 51 1 [.fn (.func 188) [] [.AO q 0]] false)::h1:=⟨_,rfl⟩
 rw[← hh2] at n2
 have X2:Df ⟨h,c,lo⟩ ⟨h2,c+2,c⟩:=by rw[hh2]; exact X1.cons (by omega)
 have r1:AP h2 (.AO c 1)=some w:=by rw[hh2,AB (by rw[Ao (by omega),hh1,AL,if_pos rfl])]; rfl
 have fh:AA h2 (c+1)=some (.cells 51 1 [.fn (.func 188) [] [.AO q 0]] false):=by rw[hh2,AL,if_pos rfl]
 have hgf2:AA h2 gp=some (.cells 29 3 cs false):=(X2.fr gp (by show gp<c; omega)).trans ((hX.fr gp hgp).trans hgf)
 have hP:=bM (k:=k+2) (st0:=⟨h2,c+2,c⟩) (q:=q) (m:=m) (by have:q<c:=hq; show q<c+2; omega) (by have:m<c:=hm; show m<c+2; omega) ((X2.fr q hq).trans hf) (hK.frame (X2.fr m hm))
 have hQ:=UY (fn:=C.f132) (f:=132) rfl rfl rfl rfl rfl (k:=k) (gp:=.AO gp 0) (hp':=.AO (c+1) 0) (st0:=⟨h2,c+2,c⟩) hg hs (fun st hst=>Ae ((hst.fr gp (by show gp<c+2; omega)).trans hgf2) hl3)
  (fun st hst=>by rw[AB ((hst.fr (c+1) (by show c+1<c+2; omega)).trans fh)]; rfl) hP
 have he:=QR (k:=k+4) (st:=⟨h2,c+2,c⟩) hw (by omega) X2.hb hQ
 have e:(g.rules[i].right.all fun x=>decide (x∈g.kinds)||decide (x∈K))=Yq (fun s=>decide (s∈g.kinds)) K g.rules[i]:=rfl
 rw[e] at he
 simp[C.f131,hbx,hbx2,n1,n2,r1,he,leave,results,AY]
theorem Qz {k:Nat}{v:AV}{g:AX}{st:St}(hg:BP v g)(hs:g.Small) :
 ∃K,AU E (k+8) 62 [v] st=.ret (.fn (.func 188) [] [.BC [Da K]],st)/\∀s,s∈K↔Im g s:=by
 have hold:=hg.Gi 0
 have hg':=hg
 obtain⟨kv,rv,l,rfl,hk,hr,hrs⟩:=hg'
 rw[BZ (fn:=C.f62) rfl rfl rfl (by simp[AV.CL,hold]),Ad (by simp)]
 have hbx:Dr 0 29 3 (.agg [kv,.str g.start,rv])=some (.AO 0 0,.cells 29 3 [kv,.str g.start,rv] false):=rfl
 have n1:=MG (c':=1) (lo:=0) (ty:=29) (n:=3) (cs:=[kv,.str g.start,rv]) HB.nil
 obtain⟨h1,hh1⟩:∃h1:Af,h1=[(0,Ai.cells 29 3 [kv,.str g.start,rv] false)]:=⟨_,rfl⟩
 rw[← hh1] at n1
 have X1:Df ⟨[],0,0⟩ ⟨h1,1,0⟩:=by rw[hh1]; exact (Df.refl HB.nil).cons (lo:=0) (by omega)
 have rg:AZ h1 (.AO 0 0) 3=some [kv,.str g.start,rv]:=by rw[hh1]; exact Ae (by rw[AL,if_pos rfl]) rfl
 obtain⟨K,e1,e2⟩:=AX.fill (k:=k+6) (st:=⟨h1,1,0⟩) (bb:=fun _=>false) hg hs X1.hb (YD hs _ _)
 have hth:Bp 0 h1 64 (.fn (.func 188) [] [.BC [Da K]])=some (.fn (.func 188) [] [.BC [Da K]]):=Fe (n:=63) (by
  have h1:=Dq 0 K
  have h2:AV.CL 0 (List.replicate K.length (.bool true))=true:=by
   generalize K.length=n
   induction n with
   |zero=>rfl
   |succ n ih=>simp[List.replicate_succ,AV.CL,AV.Bw,ih]
  simp[AV.Bw,AV.CL,Da,h1,h2])
 refine⟨K,?_,fun s=>?_⟩
 ·simp[C.f62,hbx,n1,rg,e1,leave,results,AY,BA,Bu,hth]
 ·rw[e2]
  unfold Im
  have hF:(fun x:Aj=>(fun _=>false) x=true)=fun _=>False:=by funext x; simp
  constructor
  ·rintro⟨r,h1,rfl,h3⟩
   exact .KP h1 (by rw[hF] at h3; exact h3)
  ·intro h
   cases h with
   |base h=>exact h.elim
   |KP h1 h2=>exact⟨_,h1,rfl,by rw[hF]; exact h2⟩
theorem PL {k:Nat}{v:AV}{g:AX}{st:St}(hg:BP v g)(hs:g.Small) :
 ∃b,AU E (k+12) 65 [v] st=.ret (.fn (.func 133) [] b,st)/\∃p:Aj->Bool,(∀s,p s=true↔Md g s)/\∀st0,FB (k+4) 133 [] b st0 p:=by
 have hold:=hg.Gi 0
 have hg':=hg
 obtain⟨kv,rv,l,rfl,hk,hr,hrs⟩:=hg'
 rw[BZ (fn:=C.f65) rfl rfl rfl (by simp[AV.CL,hold]),Ad (by simp)]
 have hbx:Dr 0 29 3 (.agg [kv,.str g.start,rv])=some (.AO 0 0,.cells 29 3 [kv,.str g.start,rv] false):=rfl
 have n1:=MG (c':=1) (lo:=0) (ty:=29) (n:=3) (cs:=[kv,.str g.start,rv]) HB.nil
 obtain⟨h1,hh1⟩:∃h1:Af,h1=[(0,Ai.cells 29 3 [kv,.str g.start,rv] false)]:=⟨_,rfl⟩
 rw[← hh1] at n1
 have X1:Df ⟨[],0,0⟩ ⟨h1,1,0⟩:=by rw[hh1]; exact (Df.refl HB.nil).cons (lo:=0) (by omega)
 have hb2:HB ⟨h1,2,0⟩:=X1.hb.up (by omega)
 have fg:AA h1 0=some (.cells 29 3 [kv,.str g.start,rv] false):=by rw[hh1,AL,if_pos rfl]
 have rg:AZ h1 (.AO 0 0) 3=some [kv,.str g.start,rv]:=Ae fg rfl
 obtain⟨K,e1,e2⟩:=AX.fill (k:=k+9+1) (st:=⟨h1,2,0⟩) (bb:=fun s=>decide (s∈g.kinds)) hg hs hb2 (Vi (k:=k+1) (gp:=0) hg hs (by show 0<2; omega) fg rfl _ _)
 have n2:newObj 1 (.cells 51 1 [.GD] false) ⟨h1,2,0⟩=some ⟨(1,.cells 51 1 [.GD] false)::h1,2,0⟩:=Ac X1.hb
 obtain⟨h2,hh2⟩:∃h2:Af,h2=(1,Ai.cells 51 1 [.fn (.func 188) [] [.BC [Da K]]] false)::h1:=⟨_,rfl⟩
 have s2:Bc 1 (.AO 1 0) (.fn (.func 188) [] [.BC [Da K]]) ⟨(1,.cells 51 1 [.GD] false)::h1,2,0⟩=some (.undef,⟨h2,2,0⟩):=by
  rw[BX (cs:=[.GD]) (ty:=51) (sz:=1) (ext:=false) (by rw[AL,if_pos rfl]) (by show 0<=1; omega) (by simp) rfl rfl,hh2]
  simp[Ab]
 have f2:AA h2 0=some (.cells 29 3 [kv,.str g.start,rv] false):=by rw[hh2,Ao (by omega)]; exact fg
 have f3:AA h2 1=some (.cells 51 1 [.fn (.func 188) [] [.BC [Da K]]] false):=by rw[hh2,AL,if_pos rfl]
 have holdK:AV.Bw 0 (.fn (.func 188) [] [.BC [Da K]])=true:=by
  have h1:=Dq 0 K
  have h2:AV.CL 0 (List.replicate K.length (.bool true))=true:=by
   generalize K.length=n
   induction n with
   |zero=>rfl
   |succ n ih=>simp[List.replicate_succ,AV.CL,AV.Bw,ih]
  simp[AV.Bw,AV.CL,Da,h1,h2]
 have holds:AV.CL 0 [kv,.str g.start,rv]=true:=by simpa [AV.Bw] using hold
 have t0:Bp 0 h2 63 (.AO 0 0)=some (.BC [kv,.str g.start,rv]):=by
  have ho:AV.Bw 0 (.AO 0 0)=false:=by simp[AV.Bw,blt_eq]
  unfold Bp
  rw[ho]
  simp only[cond_false,f2,ble_eq,List.drop_zero,DY (n:=61) holds]
  simp
 have t1:Bp 0 h2 63 (.AO 1 0)=some (.BC [.fn (.func 188) [] [.BC [Da K]]]):=by
  have ho:AV.Bw 0 (.AO 1 0)=false:=by simp[AV.Bw,blt_eq]
  unfold Bp
  rw[ho]
  simp only[cond_false,f3,ble_eq,List.drop_zero,DY (n:=61) (show AV.CL 0 [.fn (.func 188) [] [.BC [Da K]]]=true by simp[AV.CL,holdK])]
  simp
 have hth:Bp 0 h2 64 (.fn (.func 133) [] [.AO 0 0,.AO 1 0])=some (.fn (.func 133) [] [.BC [kv,.str g.start,rv],.BC [.fn (.func 188) [] [.BC [Da K]]]]):=by
  have ho:AV.Bw 0 (.fn (.func 133) [] [.AO 0 0,.AO 1 0])=false:=by simp[AV.Bw,AV.CL,blt_eq]
  unfold Bp
  rw[ho]
  simp only[cond_false,CP,t0,t1]
 refine⟨[.BC [kv,.str g.start,rv],.BC [.fn (.func 188) [] [.BC [Da K]]]],?_,fun s=>decide (s∈g.kinds)||decide (s∈K),fun s=>?_,fun st0=>?_⟩
 ·simp[C.f65,hbx,n1,rg,e1,n2,s2,leave,results,AY,BA,Bu,hth]
 ·simp only[Bool.or_eq_true,decide_eq_true_eq,e2]
  unfold Md
  have hF:(fun x:Aj=>(fun s=>decide (s∈g.kinds)) x=true)=(·∈g.kinds):=by funext x; simp
  constructor
  ·rintro (h|⟨r,h1,rfl,h3⟩)
   ·exact .base h
   ·exact .KP h1 (by rw[hF] at h3; exact h3)
  ·intro h
   cases h with
   |base h=>exact .inl h
   |KP h1 h2=>exact .inr ⟨_,h1,rfl,by rw[hF]; exact h2⟩
 ·exact UY (fn:=C.f133) rfl rfl rfl rfl rfl (k:=k) hg hs (fun st _=>by simp) (fun st _=>rfl) (Vf (k:=k+2))
theorem WC {k:Nat}{v:AV}{g:AX}{st:St}(hg:BP v g)(hs:g.Small)(h0:0<g.rules.length) :
 ∃w,∃p:Aj->Bool,AU E (k+13) 13 [v] st=.ret (w,st)/\BI w 1 (strs (g.CB.filter fun s=>!p s))/\∀s,p s=true↔Md g s:=by
 have hold:=hg.Gi 0
 have hg':=hg
 obtain⟨kv,rv,l,rfl,hk,hr,hrs⟩:=hg'
 rw[BZ (fn:=C.f13) rfl rfl rfl (by simp[AV.CL,hold]),Ad (by simp)]
 have hbx:Dr 0 29 3 (.agg [kv,.str g.start,rv])=some (.AO 0 0,.cells 29 3 [kv,.str g.start,rv] false):=rfl
 have n1:=MG (c':=1) (lo:=0) (ty:=29) (n:=3) (cs:=[kv,.str g.start,rv]) HB.nil
 obtain⟨h1,hh1⟩:∃h1:Af,h1=[(0,Ai.cells 29 3 [kv,.str g.start,rv] false)]:=⟨_,rfl⟩
 rw[← hh1] at n1
 have X1:Df ⟨[],0,0⟩ ⟨h1,1,0⟩:=by rw[hh1]; exact (Df.refl HB.nil).cons (lo:=0) (by omega)
 have fg:AA h1 0=some (.cells 29 3 [kv,.str g.start,rv] false):=by rw[hh1,AL,if_pos rfl]
 have rg:AZ h1 (.AO 0 0) 3=some [kv,.str g.start,rv]:=Ae fg rfl
 obtain⟨b,e1,p,e2,e3⟩:=PL (k:=k) (st:=⟨h1,2,0⟩) hg hs
 have n2:newObj 1 (.cells 51 1 [.GD] false) ⟨h1,2,0⟩=some ⟨(1,.cells 51 1 [.GD] false)::h1,2,0⟩:=Ac X1.hb
 obtain⟨h2,hh2⟩:∃h2:Af,h2=(1,Ai.cells 51 1 [.fn (.func 133) [] b] false)::h1:=⟨_,rfl⟩
 have s2:Bc 1 (.AO 1 0) (.fn (.func 133) [] b) ⟨(1,.cells 51 1 [.GD] false)::h1,2,0⟩=some (.undef,⟨h2,2,0⟩):=by
  rw[BX (cs:=[.GD]) (ty:=51) (sz:=1) (ext:=false) (by rw[AL,if_pos rfl]) (by show 0<=1; omega) (by simp) rfl rfl,hh2]
  simp[Ab]
 have hb2:HB ⟨h2,2,0⟩:=by rw[hh2]; exact HB.cons (h:=h1) (c:=1) (lo:=0) X1.hb (by omega) (by omega)
 have rg2:AZ h2 (.AO 0 0) 3=some [kv,.str g.start,rv]:=Ae (by rw[hh2,Ao (by omega)]; exact fg) rfl
 have f3:AA h2 1=some (.cells 51 1 [.fn (.func 133) [] b] false):=by rw[hh2,AL,if_pos rfl]
 have hN:FB (k+4+1) 66 [] [.AO 1 0] ⟨h2,2,0⟩ fun x=>!p x:=Ow (fn:=C.f66) rfl rfl rfl rfl rfl (e3 _) (by show 1<2; omega) f3
 obtain⟨w,e5,e6⟩:=dK (k:=k+5) (st:=⟨h2,2,0⟩) hg hs h0 hb2 (hN.more 3)
 have hth:Bp 0 h2 64 w=some w:=Fe (n:=63) (e6.Gi 0)
 refine⟨w,p,?_,e6,e2⟩
 simp[C.f13,hbx,n1,rg,e1,n2,s2,rg2,e5,leave,results,AY,BA,Bu,hth]
inductive La (h:Af):AV->List Aj->Prop
 |nl:La h .AJ []
 |ob (id:Nat) (L:List Aj) (h0:L≠[]) (hf:AA h id=some (.cells 9 1 (strs L) true)):La h (.AQ id 0 L.length none) L
 |lit (id:Nat) (L:List Aj) (h0:L≠[]) (hf:AA h id=some (.cells 9 1 (strs L) false)):La h (.AQ id 0 L.length (some L.length)) L
theorem La.heap {h h':Af}{w:AV}{L:List Aj}(H:La h w L)(e:∀o,Ah w=some o->AA h' o=AA h o):La h' w L:=by
 cases H with
 |nl=>exact .nl
 |ob id _ h0 hf=>exact .ob id _ h0 ((e id rfl).trans hf)
 |lit id _ h0 hf=>exact .lit id _ h0 ((e id rfl).trans hf)
theorem La.len {h:Af}{w:AV}{L:List Aj}(H:La h w L):Bq w=some L.length:=by cases H <;> rfl
theorem La.reads {h:Af}{w:AV}{L:List Aj}(H:La h w L):Reads h w L where
 len:=H.len
 at_:=fun i hi st hs=>by
  subst hs
  cases H with
  |nl=>simp at hi
  |ob id _ h0 hf=>exact⟨_,Gc hf hi,by rw[AB hf,strs_get? _ _ hi]; simp[List.getD,hi]⟩
  |lit id _ h0 hf=>exact⟨_,Gc hf hi,by rw[AB hf,strs_get? _ _ hi]; simp[List.getD,hi]⟩
theorem bC {h:Af}{c lo:Nat}{w:AV}{L:List Aj}(x:Aj)(hb:HB ⟨h,c,lo⟩)(H:La h w L)(hw:∀p,Ah w=some p->lo<=p/\p<c)(hl:L.length<=1000) :
 ∃h2,BU (c+1) 9 1 16 w (.AQ c 0 1 (some 1)) ⟨(c,.cells 9 1 [.str x] false)::h,c+2,lo⟩=some (.AQ (c+1) 0 (L.length+1) none,⟨h2,c+2,lo⟩)/\HB ⟨h2,c+2,lo⟩ /\
  AA h2 (c+1)=some (.cells 9 1 (strs (L++[x])) true)/\∀p,p<c->Ah w≠some p->AA h2 p=AA h p:=by
 have hsx:strs L++[.str x]=strs (L++[x]):=by simp[strs]
 have hcell:∀x∈strs L,x.cells.length=1:=fun y hy=>by
  simp only[strs,List.mem_map] at hy
  obtain⟨s,_,rfl⟩:=hy; rfl
 have viaM:∀{M:Fa h 9 1 w (strs L)},_:=fun {M}=>Wv (bytes:=16) (x:=.str x) hb M hw (by omega) (by omega) (by simpa using hl) rfl
 cases H with
 |nl=>
  obtain⟨h2,p1,p2,p3,p4⟩:=viaM (M:=.nl)
  exact⟨h2,p1,p2,by rw[p3,hsx,GI],p4⟩
 |ob id _ h0 hf=>
  have M:Fa h 9 1 (.AQ id 0 L.length none) (strs L):=by
   have:=Fa.ob (h:=h) (ty:=9) (sz:=1) id (strs L) (by simpa [strs] using h0) hcell (by rw[GI]; exact hf)
   rwa [DZ] at this
  obtain⟨h2,p1,p2,p3,p4⟩:=viaM (M:=M)
  rw[DZ] at p1
  exact⟨h2,p1,p2,by rw[p3,hsx,GI],p4⟩
 |lit id _ h0 hf=>
  have hb1:HB ⟨(c,Ai.cells 9 1 [.str x] false)::h,c+1,lo⟩:=HB.cons (h:=h) (c:=c) (lo:=lo) hb (by omega) (by omega)
  have hid:=hw id rfl
  have hf':AA ((c,Ai.cells 9 1 [.str x] false)::h) id=some (.cells 9 1 (strs L) false):=by rw[Ao hid.2]; exact hf
  have he:AA ((c,Ai.cells 9 1 [.str x] false)::h) c=some (.cells 9 1 [.str x] false):=by rw[AL,if_pos rfl]
  refine⟨(c+1,.cells 9 1 (strs (L++[x])) true)::(c,.cells 9 1 [.str x] false)::h,?_,HB.cons (h:=(c,Ai.cells 9 1 [.str x] false)::h) (c:=c+1) (lo:=lo) hb1 (by omega) (by omega),by rw[AL,if_pos rfl],fun p hp _=>by rw[Ao (by omega),Ao hp]⟩
  have hcs:BH ((c,Ai.cells 9 1 [.str x] false)::h) 1 1 (.AQ c 0 1 (some 1))=some [.str x]:=by simp[BH,he,beq_eq,ble_eq]
  have hroom:(L.length+1)*16<=room/\L.length+1<=room:=by unfold room; constructor <;> omega
  have htk:(strs L).take (L.length*1)=strs L:=List.take_of_length_le (by simp)
  have hb1':∀p y,(p,y)∈(c,Ai.cells 9 1 [.str x] false)::h->p<c+1:=hb1
  have hd:decide (L.length+1<=L.length)=false:=decide_eq_false (by omega)
  simp only[BU,lenOf,hcs,BK]
  simp[hd,beq_eq,Cn,hf',ble_eq,grow,hroom.1,hroom.2,Ac hb1',htk,hsx]
  try rw[← hsx,List.take_of_length_le (by simp)]
theorem XX {n:Nat}{v:AV}{l:List Aj}{x:Aj}{st:St}(h:Reads st.h v l)(hl:l.length<1000000) :
 AU E (n+1) 92 [v,.str x] st=.ret (.int .i64 (idxOf l x),st):=by
 rw[Ap (fn:=C.f92) rfl rfl rfl,Ad (by simp)]
 apply M.to_eq
 simp[C.f92,BO,h.len]
 refine M.Al (DU (fun (i:Nat) ts st'=>st'=st/\i<=l.length/\ts.get 0=v/\ts.get 1=.str x/\ts.get 7=.int .i64 l.length/\ts.get 8=.int .i64 i/\∀j (h:j<l.length),j<i->¬l[j]=x)
  (fun i=>l.length-i) (fun e ts st'=>st'=st/\((e=.exit 0/\idxOf l x=-1)∨(e=.ret/\ts.get 4=.int .i64 (idxOf l x)))) ?step _ 0 _ _ ?_ ?_) ?_
 case step=>
  rintro i ts st' ⟨rfl,hi,h0,h1,h7,h8,hj⟩
  by_cases Au:i<l.length
  ·obtain⟨q,a1,b1⟩:=h.at_ i Au st' rfl
   by_cases he:x=l[i]
   ·have:idxOf l x=i:=by
     have:l.findIdx? (·==x)=some i:=by
      rw[List.findIdx?_eq_some_iff_getElem]
      exact⟨Au,by simp[he],fun j hji=>by simpa using hj j (by omega) hji⟩
     simp[idxOf,this]
    simp[C.f92L0,h0,h1,h7,h8,Au,a1,b1,he]
    rw[← he,this]
   ·simp[C.f92L0,h0,h1,h7,h8,Au,a1,b1,beq_false_of_ne he,wi i]
    refine⟨i+1,by omega,by omega,by simp,fun j hjl hji=>?_⟩
    by_cases e:j=i
    ·subst e; exact fun h=>he h.symm
    ·exact hj j hjl (by omega)
  ·simp[C.f92L0,h0,h1,h7,h8,Au]
   have:l.findIdx? (·==x)=none:=by
    rw[List.findIdx?_eq_none_iff]
    intro y hy
    obtain⟨j,hjl,rfl⟩:=List.getElem_of_mem hy
    simpa using hj j hjl (by omega)
   simp[idxOf,this]
 ·show _<1000000; omega
 ·simp
 ·rintro⟨e,ts,st'⟩ ⟨rfl,hh⟩
  rcases hh with⟨rfl,hh⟩|⟨rfl,hh⟩
  ·simp[leave,results,AY,hh]
  ·simp[leave,results,AY,hh]
theorem Ii {k:Nat}{v:AV}{l:List Aj}{x:Aj}{st:St}(h:Reads st.h v l)(hl:l.length<1000000) :
 AU E (k+2) 30 [v,.str x] st=.ret (.bool (decide (x∈l)),st):=by
 rw[Ap (fn:=C.f30) rfl rfl rfl,Ad (by simp)]
 have e:=Ub (l:=l) (x:=x)
 simp[C.f30,XX h hl,leave,results,AY]
 simpa using e
structure Add (st0:St)(w0:AV)(st:St)(w:AV)(L:List Aj):Prop where
 c:st0.c<=st.c
 lo:st.lo=st0.lo
 hb:HB st
 sl:La st.h w L
 own:∀p,Ah w=some p->p<st.c/\st.lo<=p/\(Ah w0=some p∨st0.c<=p)
 fr:∀p,p<st0.c->Ah w0≠some p->AA st.h p=AA st0.h p
theorem Add.start {st:St}{w:AV}{L:List Aj}(hb:HB st)(H:La st.h w L)(hw:∀p,Ah w=some p->p<st.c/\st.lo<=p):Add st w st w L:=
 ⟨Nat.le_refl _,rfl,hb,H,fun p hp=>⟨(hw p hp).1,(hw p hp).2,.inl hp⟩,fun _ _ _=>rfl⟩
theorem Add.trans {a b c:St}{wa wb wc:AV}{L L':List Aj}(A:Add a wa b wb L)(B:Add b wb c wc L'):Add a wa c wc L' where
 c:=Nat.le_trans A.c B.c
 lo:=B.lo.trans A.lo
 hb:=B.hb
 sl:=B.sl
 own:=fun p hp=>by
  obtain⟨h1,h2,h3⟩:=B.own p hp
  refine⟨h1,h2,?_⟩
  rcases h3 with h3|h3
  ·exact (A.own p h3).2.2
  ·exact .inr (Nat.le_trans A.c h3)
 fr:=fun p hp hne=>(B.fr p (Nat.lt_of_lt_of_le hp A.c) fun e=>(A.own p e).2.2.elim hne fun h=>by omega).trans (A.fr p hp hne)
theorem Add.push {st0:St}{w0:AV}{h:Af}{c lo:Nat}{w:AV}{L:List Aj}(A:Add st0 w0 ⟨h,c,lo⟩ w L)(hlo:st0.lo<=st0.c)(hl:L.length<=1000)(x:Aj) :
 newObj c (.cells 9 1 [.str x] false) ⟨h,c+2,lo⟩=some ⟨(c,.cells 9 1 [.str x] false)::h,c+2,lo⟩ /\
 ∃h2,BU (c+1) 9 1 16 w (.AQ c 0 1 (some 1)) ⟨(c,.cells 9 1 [.str x] false)::h,c+2,lo⟩=some (.AQ (c+1) 0 (L.length+1) none,⟨h2,c+2,lo⟩)/\Add st0 w0 ⟨h2,c+2,lo⟩ (.AQ (c+1) 0 (L.length+1) none) (L++[x]):=by
 refine⟨Ac A.hb,?_⟩
 have hcc:st0.c<=c:=A.c
 have hll:lo=st0.lo:=A.lo
 have hown:∀p,Ah w=some p->p<c/\lo<=p/\(Ah w0=some p∨st0.c<=p):=A.own
 obtain⟨h2,p1,p2,p3,p4⟩:=bC x A.hb A.sl (fun p hp=>⟨(hown p hp).2.1,(hown p hp).1⟩) hl
 have hS:La h2 (.AQ (c+1) 0 (L.length+1) none) (L++[x]):=by
  have:=La.ob (h:=h2) (c+1) (L++[x]) (by simp) p3
  rwa [List.length_append] at this
 refine⟨h2,p1,by show st0.c<=c+2; omega,hll,p2,hS,fun p hp=>?_,fun p hp hne=>?_⟩
 ·simp only[Ah,Option.some.injEq] at hp
  subst hp
  exact⟨by show c+1<c+2; omega,by show lo<=c+1; omega,.inr (by omega)⟩
 ·have hfr:AA h p=AA st0.h p:=A.fr p hp hne
  rw[← hfr]
  exact p4 p (by omega) fun e=>(hown p e).2.2.elim hne fun h=>by omega
theorem YY (c:Nat)(x:Aj):Ay c 9 1 1 [.str []] [0] [.str x]=some (.AQ c 0 1 (some 1),.cells 9 1 [.str x] false):=by simp[Ay,blt_eq,beq_eq,ble_eq,BB,BM,AV.isTuple,AV.cells]
theorem DV:∀{a b:List Aj},a.Nodup->(∀s∈a,s∈b)->a.length<=b.length
 |[],_,_,_=>by simp
 |x::a,b,h,hs=>by
  obtain⟨h1,h2⟩:=List.nodup_cons.1 h
  have hx:=hs x (by simp)
  have:=DV (a:=a) (b:=b.erase x) h2 fun s hsa=>by
   rw[List.mem_erase_of_ne (fun e=>h1 (by subst e; exact hsa))]
   exact hs s (List.mem_cons_of_mem _ hsa)
  rw[List.length_erase_of_mem hx] at this
  have:=List.length_pos_of_mem hx
  simp only[List.length_cons]; omega
theorem Ws {k:Nat}{base w:AV}{M L U:List Aj}{st:St}(hbase:∀h:Af,(∀o,Ah base=some o->AA h o=AA st.h o)->Reads h base M)(hbo:∀o,Ah base=some o->o<st.c/\Ah w≠some o)(hM:M.length<=1000)(hU:∀s∈M,s∈U)(hUl:U.length<=900)(H:Add st w st w L)(hlo:st.lo<=st.c)(hN:L.Nodup)(hLU:∀s∈L,s∈U)(a2 a6 a20 a21 a22:AV)(ts0:TS)(z2:ts0.get 2=a2)(z6:ts0.get 6=a6)(z20:ts0.get 20=a20)(z21:ts0.get 21=a21)(z22:ts0.get 22=a22)(h5:ts0.get 5=w)(h34:ts0.get 34=base)(h35:ts0.get 35=.int .i64 (M.length:Int))(h36:ts0.get 36=.int .i64 ((0:Nat):Int)) :
 (CJ (Ar E (AU E (k+2)) C.f69L2) E.k ts0 st).to fun x=>x.1=.exit 4/\x.2.1.get 2=a2/\x.2.1.get 6=a6/\x.2.1.get 20=a20/\x.2.1.get 21=a21/\x.2.1.get 22=a22/\∃(w':AV) (L':List Aj),x.2.1.get 5=w'/\Add st w x.2.2 w' L'/\L'.Nodup/\(∃T,L'=L++T)/\∀s,s∈L'↔s∈L∨s∈M:=by
 refine Be (fun (i:Nat) ts st'=>i<=M.length/\ts.get 2=a2/\ts.get 6=a6/\ts.get 20=a20/\ts.get 21=a21/\ts.get 22=a22/\ts.get 34=base/\ts.get 35=.int .i64 (M.length:Int)/\ts.get 36=.int .i64 (i:Int)/\∃(w':AV) (L':List Aj),ts.get 5=w'/\Add st w st' w' L'/\L'.Nodup/\(∃T,L'=L++T)/\∀s,s∈L'↔s∈L∨s∈M.take i)
  (fun i=>M.length-i) ?_ _ 0 _ _ ?_ ?_
 ·rintro i ts st' ⟨hi,z2,z6,z20,z21,z22,h34,h35,h36,w',L',h5,A,hN',⟨T,hT⟩,hm⟩
  by_cases Au:i<M.length
  ·obtain⟨h,c,lo⟩:=st'
   have hbr:=hbase h fun o ho=>A.fr o (hbo o ho).1 (hbo o ho).2
   obtain⟨q,a1,b1⟩:=hbr.at_ i Au ⟨h,c,lo⟩ rfl
   have hsub:∀s∈L',s∈U:=fun s hs=>by
    rcases (hm s).1 hs with h|h
    ·exact hLU s h
    ·exact hU s (List.mem_of_mem_take h)
   have hL'l:=DV hN' hsub
   have hcon:=Ii (k:=k) (x:=M[i]) (st:=⟨h,c,lo⟩) A.sl.reads (by omega)
   by_cases hin:M[i]∈L'
   ·rw[decide_eq_true hin] at hcon
    simp[C.f69L2,z2,z6,z20,z21,z22,h34,h35,h36,h5,Au,a1,b1,hcon,wi i]
    refine⟨i+1,by omega,by omega,by simp,L',A,hN',⟨T,hT⟩,fun s=>?_⟩
    rw[hm,List.take_succ_eq_append_getElem Au,List.mem_append,List.mem_singleton]
    constructor
    ·rintro (h|h)
     ·exact .inl h
     ·exact .inr (.inl h)
    ·rintro (h|h|h)
     ·exact .inl h
     ·exact .inr h
     ·subst h; exact (hm _).1 hin
   ·rw[decide_eq_false hin] at hcon
    obtain⟨n1,h2,p1,A2⟩:=A.push hlo (by omega) M[i]
    simp[C.f69L2,z2,z6,z20,z21,z22,h34,h35,h36,h5,Au,a1,b1,hcon,YY,n1,p1,wi i]
    refine⟨i+1,by omega,by omega,by simp,L'++[M[i]],A2,?_,⟨T++[M[i]],by rw[hT,List.append_assoc]⟩,fun s=>?_⟩
    ·rw[List.nodup_append]
     exact⟨hN',by simp,fun a ha b hb=>by
      simp only[List.mem_singleton] at hb
      subst hb; intro e; subst e; exact hin ha⟩
    ·rw[List.mem_append,hm,List.take_succ_eq_append_getElem Au,List.mem_append,List.mem_singleton,or_assoc]
  ·have:i=M.length:=by omega
   subst this
   rw[List.take_length] at hm
   simp[C.f69L2,z2,z6,z20,z21,z22,h34,h35,h36,h5]
   exact⟨L',A,hN',⟨T,hT⟩,hm⟩
 ·show M.length-0<1000000; omega
 ·exact⟨by omega,z2,z6,z20,z21,z22,h34,h35,h36,w,L,h5,H,hN,⟨[],by simp⟩,by simp⟩
theorem Add.box {st0:St}{w0:AV}{h:Af}{c lo:Nat}{w:AV}{L:List Aj}(A:Add st0 w0 ⟨h,c,lo⟩ w L)(x:Ai):Add st0 w0 ⟨(c,x)::h,c+1,lo⟩ w L where
 c:=Nat.le_succ_of_le A.c
 lo:=A.lo
 hb:=HB.cons (h:=h) (c:=c) (lo:=lo) A.hb (by omega) (by omega)
 sl:=A.sl.heap fun o ho=>Ao (A.own o ho).1
 own:=fun p hp=>⟨Nat.lt_succ_of_lt (A.own p hp).1,(A.own p hp).2⟩
 fr:=fun p hp hne=>by
  have:st0.c<=c:=A.c
  show AA ((c,x)::h) p=_
  rw[Ao (by omega)]; exact A.fr p hp hne
theorem Add.nz {st0:St}{w0:AV}{st:St}{w:AV}{L:List Aj}(A:Add st0 w0 st w L):Add st w st w L:=Add.start A.hb A.sl fun p hp=>⟨(A.own p hp).1,(A.own p hp).2.1⟩
def MH (g:AX):List Aj:=g.start::g.rules.flatMap (·.right)
theorem NK {g:AX}(hs:g.Small):(MH g).length<=400:=by
 have hm:=hs.many
 have hr:∀r∈g.rules,r.right.length<=30:=fun r hr=>(hs.rules r hr).right
 unfold MH
 generalize g.rules=R at hm hr
 have:∀R:List Ba,(∀r∈R,r.right.length<=30)->(R.flatMap (·.right)).length<=R.length*30:=by
  intro R
  induction R with
  |nil=>simp
  |cons r R ih=>
   intro h
   rw[List.flatMap_cons,List.length_append,List.length_cons,Nat.succ_mul]
   have:=h r (by simp)
   have:=ih fun r hr=>h r (List.mem_cons_of_mem _ hr)
   omega
 have:=this R hr
 simp only[List.length_cons]; omega
theorem Qr {g:AX}{r:Ba}(hr:r∈g.rules){s:Aj}(hs:s∈r.right):s∈MH g:=List.mem_cons_of_mem _ (List.mem_flatMap.2 ⟨r,hr,hs⟩)
theorem UM {g:AX}{s:Aj}(h:Reach g s):s∈MH g:=by
 cases h with
 |start=>simp[MH]
 |step hr _ hx=>exact Qr hr hx
structure rY (h:Af)(rv:AV)(rs:List Ba):Prop where
 len:Bq rv=some rs.length
 at_:∀(j:Nat) (hj:j<rs.length) (st:St),st.h=h->∃p w,Aa 3 rv (.int .i64 (j:Int)) st=some (p,st)/\AZ h p 3=some [.str rs[j].left,w,.int .i64 rs[j].level]/\BI w 1 (strs rs[j].right)
theorem rY.of {h:Af}{rv:AV}{l:List AV}{rs:List Ba}(hr:BI rv 3 l)(hrs:Bt l rs):rY h rv rs where
 len:=by rw[hr.QL,hrs.length]
 at_:=fun j hj st _=>by
  have hl:=hrs.length
  obtain⟨w,e1,e2⟩:=(hrs.get j hj).2
  refine⟨_,w,hr.idx (show j<l.length by omega),?_,e2⟩
  rw[e1]; rfl
section
variable {k:Nat}{g:AX}{rv:AV}{st0:St}{w0:AV}
set_option maxHeartbeats 1000000 in
theorem Tj (HR:∀st w L,Add st0 w0 st w L->rY st.h rv g.rules)(hs:g.Small)(hlo:st0.lo<=st0.c)(i:Nat)(a2:AV){st:St}{w:AV}{L0:List Aj}(A:Add st0 w0 st w L0)(hN:L0.Nodup)(hR:∀s∈L0,Reach g s)(hi:i<L0.length)(ts0:TS)(h2:ts0.get 2=a2)(h5:ts0.get 5=w)(h6:ts0.get 6=.int .i64 (i:Int))(h20:ts0.get 20=rv)(h21:ts0.get 21=.int .i64 (g.rules.length:Int))(h22:ts0.get 22=.int .i64 ((0:Nat):Int)) :
 (CJ (Ar E (AU E (k+2)) C.f69L1) E.k ts0 st).to fun x=>x.1=.exit 2/\x.2.1.get 2=a2/\x.2.1.get 6=.int .i64 (i:Int)/\∃(w':AV) (L':List Aj),x.2.1.get 5=w'/\Add st0 w0 x.2.2 w' L'/\L'.Nodup/\(∃T,L'=L0++T)/\(∀s∈L',Reach g s)/\∀r∈g.rules,r.left=L0[i]->∀s∈r.right,s∈L':=by
 have hmany:=hs.many
 have hUl:=NK hs
 refine Be (fun (j:Nat) ts st=>j<=g.rules.length/\ts.get 2=a2/\ts.get 6=.int .i64 (i:Int)/\ts.get 20=rv/\ts.get 21=.int .i64 (g.rules.length:Int)/\ts.get 22=.int .i64 (j:Int)/\∃(w':AV) (L':List Aj),ts.get 5=w'/\Add st0 w0 st w' L'/\L'.Nodup/\(∃T,L'=L0++T)/\(∀s∈L',Reach g s)/\∀q (hq:q<g.rules.length),q<j->g.rules[q].left=L0[i]->∀s∈g.rules[q].right,s∈L')
  (fun j=>g.rules.length-j) ?_ _ 0 _ _ ?_ ?_
 ·rintro j ts st ⟨hj,h2,h6,h20,h21,h22,w',L',h5,A,hN',⟨T,hT⟩,hR',hall⟩
  by_cases Au:j<g.rules.length
  ·have hsm:=hs.rules _ (List.getElem_mem Au)
   have hsr:=hsm.right
   obtain⟨h,c,lo⟩:=st
   have hb':∀p x,(p,x)∈h->p<c:=A.hb
   have hlo1:lo=st0.lo:=A.lo
   have hcc:st0.c<=c:=A.c
   obtain⟨pp,w1,hix,hrd3,e2⟩:=(HR _ _ _ A).at_ j Au ⟨h,c+1,lo⟩ rfl
   have hrd3:AZ h pp 3=_:=hrd3
   obtain⟨rc,hrc⟩:∃rc:List AV,rc=[.str g.rules[j].left,w1,.int .i64 g.rules[j].level]:=⟨_,rfl⟩
   have A1:=A.box (.cells 68 3 rc false)
   obtain⟨h',hh'⟩:∃h':Af,h'=(c,Ai.cells 68 3 rc false)::h:=⟨_,rfl⟩
   rw[← hh'] at A1
   have hn:newObj c (.cells 68 3 [.str [],.AJ,.int .i64 0] false) ⟨h,c+1,lo⟩=some ⟨(c,.cells 68 3 [.str [],.AJ,.int .i64 0] false)::h,c+1,lo⟩:=Ac hb'
   have hst:=CO (h:=h) (c:=c) (c':=c+1) (lo:=lo) (ty:=68) (n:=3) (zs:=[.str [],.AJ,.int .i64 0]) (vs:=rc) (by omega) (by rw[hrc]; rfl) rfl
   rw[← hh'] at hst
   rw[← hrc] at hrd3
   have fc:AA h' c=some (.cells 68 3 rc false):=by rw[hh',AL,if_pos rfl]
   have rc0:AP h' (.AO c 0)=some (.str g.rules[j].left):=by rw[AB fc,hrc]; rfl
   have rc1:AP h' (.AO c 1)=some w1:=by rw[AB fc,hrc]; rfl
   have hiL:i<L'.length:=by rw[hT,List.length_append]; omega
   have hLi:L'[i]=L0[i]:=by simp only[hT]; exact List.getElem_append_left hi
   obtain⟨q,a1,b1⟩:=A1.sl.reads.at_ i hiL ⟨h',c+1,lo⟩ rfl
   rw[hLi] at b1
   have hnext:∀(L'':List Aj),(∀s∈L',s∈L'')->(g.rules[j].left=L0[i]->∀s∈g.rules[j].right,s∈L'')->∀q (hq:q<g.rules.length),q<j+1->g.rules[q].left=L0[i]->∀s∈g.rules[q].right,s∈L'':=fun L'' h1 h2 q hq hqj he s hs=>by
    rcases Nat.lt_or_ge q j with h|h
    ·exact h1 s (hall q hq h he s hs)
    ·have:q=j:=by omega
     subst this; exact h2 he s hs
   by_cases he:g.rules[j].left=L0[i]
   ·have hbne:(g.rules[j].left==L0[i])=true:=by simp[he]
    have q1:∀o,Ah w1=some o->o<(St.mk h' (c+1) lo).c/\Ah w'≠some o:=fun o ho=>by
     rcases e2.out with⟨rfl,_⟩|⟨t,rfl⟩ <;> cases ho
    have q2:g.rules[j].right.length<=1000:=by omega
    have q3:(MH g).length<=900:=by omega
    have q4:(St.mk h' (c+1) lo).lo<=(St.mk h' (c+1) lo).c:=by show lo<=c+1; omega
    have loop:=Ws (k:=k) (base:=w1) (w:=w') (M:=g.rules[j].right) (L:=L') (U:=MH g) (st:=⟨h',c+1,lo⟩) (fun _ _=>Reads.OI e2) q1 q2 (fun s hs=>Qr (List.getElem_mem Au) hs) q3 A1.nz q4 hN' (fun s hs=>UM (hR' s hs)) a2
    have hlr:BO .slice w1 ⟨h',c+1,lo⟩=some (.int .i64 (g.rules[j].right.length:Int),⟨h',c+1,lo⟩):=by have:=e2.len (st:=⟨h',c+1,lo⟩); simpa using this
    simp[C.f69L1,h2,h5,h6,h20,h21,h22,Au,hix,-Aw,hrd3,hn,hst,rc0,rc1,a1,b1,hbne,hlr]
    refine M.Al (loop _ _ _ _ _ (by simp[h2]) (by simp[h6]; rfl) (by simp[h20]; rfl) (by simp[h21]; rfl) (by simp[h22]; rfl) (by simp[h5]) (by simp) (by simp) (by simp)) fun x hx=>?_
    obtain⟨e,ts1,st1⟩:=x
    obtain⟨ee,g2,g6,g20,g21,g22,w'',L'',g5,A2,hN2,⟨T2,hT2⟩,hm2⟩:=hx
    simp only at ee g2 g6 g20 g21 g22 g5 A2
    subst ee
    simp[g2,g6,g20,g21,g22,g5,wi j]
    refine⟨j+1,by omega,by omega,by simp,L'',A1.trans A2,hN2,⟨T++T2,by rw[hT2,hT,List.append_assoc]⟩,fun s hs=>?_,hnext L'' (fun s hs=>(hm2 s).2 (.inl hs)) fun _ s hs=>(hm2 s).2 (.inr hs)⟩
    rcases (hm2 s).1 hs with h|h
    ·exact hR' s h
    ·exact .step (List.getElem_mem Au) (by rw[he]; exact hR _ (List.getElem_mem hi)) h
   ·have hbne:(g.rules[j].left==L0[i])=false:=beq_false_of_ne he
    simp[C.f69L1,h2,h5,h6,h20,h21,h22,Au,hix,-Aw,hrd3,hn,hst,rc0,rc1,a1,b1,hbne,wi j]
    exact⟨j+1,by omega,by omega,by simp,L',A1,hN',⟨T,hT⟩,hR',hnext L' (fun s hs=>hs) fun h=>absurd h he⟩
  ·have:j=g.rules.length:=by omega
   subst this
   simp[C.f69L1,h2,h5,h6,h20,h21,h22]
   refine⟨L',A,hN',⟨T,hT⟩,hR',fun r hr he s hs=>?_⟩
   obtain⟨q,hq,rfl⟩:=List.getElem_of_mem hr
   exact hall q hq hq he s hs
 ·show g.rules.length-0<1000000; omega
 ·exact⟨by omega,h2,h6,h20,h21,h22,w,L0,h5,A,hN,⟨[],by simp⟩,hR,fun q _ h=>by omega⟩
theorem Tk {kv:AV}{cg:Nat}(HR:∀st w L,Add st0 w0 st w L->rY st.h rv g.rules)(hs:g.Small)(hlo:st0.lo<=st0.c)(hcg:cg<st0.c)(hw0:Ah w0≠some cg)(hg0:AA st0.h cg=some (.cells 29 3 [kv,.str g.start,rv] false)){st:St}(A:Add st0 w0 st w0 [g.start])(ts0:TS)(h2:ts0.get 2=.AO cg 0)(h5:ts0.get 5=w0)(h6:ts0.get 6=.int .i64 ((0:Nat):Int)) :
 (CJ (Ar E (AU E (k+2)) C.f69L0) E.k ts0 st).to fun x=>x.1=.exit 0/\∃(w':AV) (L':List Aj),x.2.1.get 5=w'/\Add st0 w0 x.2.2 w' L'/\L'.length<=400/\∀s,s∈L'↔Reach g s:=by
 have hmany:=hs.many
 have hUl:=NK hs
 refine Be (fun (i:Nat) ts st=>ts.get 2=.AO cg 0/\ts.get 6=.int .i64 (i:Int)/\∃(w':AV) (L':List Aj),ts.get 5=w'/\Add st0 w0 st w' L'/\i<=L'.length/\L'.Nodup/\g.start∈L'/\(∀s∈L',Reach g s)/\∀q (hq:q<L'.length),q<i->∀r∈g.rules,r.left=L'[q]->∀s∈r.right,s∈L')
  (fun i=>500-i) ?_ _ 0 _ _ ?_ ?_
 ·rintro i ts st ⟨h2,h6,w',L',h5,A,hi,hN,hS,hR,hall⟩
  have hlen:=DV hN fun s hs=>UM (hR s hs)
  have hlL:BO .slice w' st=some (.int .i64 (L'.length:Int),st):=by simp[BO,A.sl.len]
  by_cases Au:i<L'.length
  ·have r2:AP st.h (.AO cg 2)=some rv:=by rw[AB ((A.fr cg hcg hw0).trans hg0)]; rfl
   have hlr:∀S':St,BO .slice rv S'=some (.int .i64 (g.rules.length:Int),S'):=fun S'=>by simp[BO,(HR _ _ _ A).len]
   simp[C.f69L0,h2,h5,h6,hlL,Au,r2,hlr]
   refine M.Al (Tj (k:=k) HR hs hlo i (.AO cg 0) A hN hR Au _ (by simp[h2]) (by simp[h5]) (by simp[h6]) (by simp) (by simp) (by simp)) fun x hx=>?_
   obtain⟨e,ts1,st1⟩:=x
   obtain⟨ee,g2,g6,w'',L'',g5,A2,hN2,⟨T,hT⟩,hR2,hm2⟩:=hx
   simp only at ee g2 g6 g5 A2
   subst ee
   have hlen2:L'.length<=L''.length:=by rw[hT,List.length_append]; omega
   simp[g2,g6,g5,wi i]
   refine⟨i+1,by omega,by simp,L'',A2,by omega,hN2,by rw[hT]; exact List.mem_append.2 (.inl hS),hR2,fun q hq hqi r hr he s hs=>?_⟩
   have hql:q<L'.length:=by omega
   have eq:L''[q]=L'[q]:=by simp only[hT]; exact List.getElem_append_left hql
   rw[eq] at he
   rcases Nat.lt_or_ge q i with h|h
   ·have:=hall q hql h r hr he s hs
    rw[hT]; exact List.mem_append.2 (.inl this)
   ·have:q=i:=by omega
    subst this; exact hm2 r hr he s hs
  ·have:i=L'.length:=by omega
   subst this
   simp[C.f69L0,h2,h5,h6,hlL]
   refine⟨L',A,by omega,fun s=>⟨hR s,fun h=>?_⟩⟩
   induction h with
   |start=>exact hS
   |step hr _ hx ih=>
    obtain⟨q,hq,e⟩:=List.getElem_of_mem ih
    exact hall q hq hq _ hr e.symm _ hx
 ·show 500-0<1000000; omega
 ·exact⟨h2,h6,w0,[g.start],h5,A,by omega,by simp,by simp,fun s hs=>by
   simp only[List.mem_singleton] at hs; subst hs; exact .start,fun q _ h=>by omega⟩
end
theorem La.xM {h:Af}{w:AV}{L:List Aj}{c:Nat}(H:La h w L)(hc:∀p,Ah w=some p->c<p):OZ c h w L:=by
 cases H with
 |nl=>exact .inl ⟨rfl,rfl⟩
 |ob id _ h0 hf=>exact .inr ⟨id,_,9,true,rfl,hc id rfl,hf⟩
 |lit id _ h0 hf=>exact .inr ⟨id,_,9,false,rfl,hc id rfl,hf⟩
theorem Qi {k:Nat}{kv rv:AV}{g:AX}{st:St}(HR:∀h',(∀p,p<st.c->AA h' p=AA st.h p)->rY h' rv g.rules)(hs:g.Small)(hb:HB st) :
 ∃w L,AU E (k+3) 69 [.agg [kv,.str g.start,rv],.str g.start] st=.ret (w,st)/\BI w 1 (strs L)/\L.length<=400/\∀s,s∈L↔Reach g s:=by
 rw[BS (fn:=C.f69) rfl rfl rfl,Ad (by simp)]
 have goal:((Ar E (AU E (k+2)) C.f69.body (TS.CY [.agg [kv,.str g.start,rv],.str g.start] 0 .nil) { st with lo:=st.c }).bind (leave C.f69.results)).to fun x=>∃L,La x.2.h x.1 L/\(∀p,Ah x.1=some p->st.c<p)/\L.length<=400/\∀s,s∈L↔Reach g s:=by
  have hb':∀p x,(p,x)∈st.h->p<st.c:=hb
  have hbx:Dr st.c 29 3 (.agg [kv,.str g.start,rv])=some (.AO st.c 0,.cells 29 3 [kv,.str g.start,rv] false):=rfl
  obtain⟨h1,hh1⟩:∃h:Af,h=(st.c,Ai.cells 29 3 [kv,.str g.start,rv] false)::st.h:=⟨_,rfl⟩
  have n1:newObj st.c (.cells 29 3 [kv,.str g.start,rv] false) ⟨st.h,st.c+1,st.c⟩=some ⟨h1,st.c+1,st.c⟩:=by rw[hh1]; exact Ac hb'
  have hb1:HB ⟨h1,st.c+1,st.c⟩:=by rw[hh1]; exact HB.cons (h:=st.h) (c:=st.c) (lo:=st.c) hb (by omega) (by omega)
  obtain⟨h2,hh2⟩:∃h:Af,h=(st.c+1,Ai.cells 9 1 [.str g.start] false)::h1:=⟨_,rfl⟩
  have n2:newObj (st.c+1) (.cells 9 1 [.str g.start] false) ⟨h1,st.c+2,st.c⟩=some ⟨h2,st.c+2,st.c⟩:=by rw[hh2]; exact Ac hb1
  have hb2:HB ⟨h2,st.c+2,st.c⟩:=by rw[hh2]; exact HB.cons (h:=h1) (c:=st.c+1) (lo:=st.c) hb1 (by omega) (by omega)
  have f0:AA h2 st.c=some (.cells 29 3 [kv,.str g.start,rv] false):=by rw[hh2,Ao (by omega),hh1,AL,if_pos rfl]
  have old2:∀p,p<st.c->AA h2 p=AA st.h p:=fun p hp=>by rw[hh2,Ao (by omega),hh1,Ao hp]
  have S0:La h2 (.AQ (st.c+1) 0 1 (some 1)) [g.start]:=.lit (st.c+1) [g.start] (by simp) (by rw[hh2,AL,if_pos rfl]; rfl)
  have A0:Add ⟨h2,st.c+2,st.c⟩ (.AQ (st.c+1) 0 1 (some 1)) ⟨h2,st.c+2,st.c⟩ (.AQ (st.c+1) 0 1 (some 1)) [g.start]:=Add.start hb2 S0 fun p hp=>by
   simp only[Ah,Option.some.injEq] at hp
   subst hp
   exact⟨by show st.c+1<st.c+2; omega,by show st.c<=st.c+1; omega⟩
  simp[C.f69,hbx,n1,YY,n2]
  refine M.Al (Tk (k:=k) (kv:=kv) (fun st' w L A=>HR _ fun p hp=>(A.fr p (by show p<st.c+2; omega) (by simp only[Ah,ne_eq,Option.some.injEq]; omega)).trans (old2 p hp)) hs (by show st.c<=st.c+2; omega) (cg:=st.c) (by show st.c<st.c+2; omega) (by simp[Ah]) f0 A0 _ (by simp) (by simp) (by simp)) fun x hx=>?_
  obtain⟨e,ts1,st1⟩:=x
  obtain⟨ee,w',L',g5,A,hL4,hm⟩:=hx
  simp only at ee g5 A
  subst ee
  simp[g5,leave,results,AY]
  refine⟨L',A.sl,fun p hp=>?_,hL4,hm⟩
  rcases (A.own p hp).2.2 with h|h
  ·simp only[Ah,Option.some.injEq] at h; omega
  ·have:st.c+2<=p:=h
   omega
 obtain⟨⟨w,st'⟩,h1,L,hS,hc,hL4,hm⟩:=goal
 obtain⟨w',g1,g2⟩:=(hS.xM hc).Bp
 exact⟨w',L,by rw[h1]; simp only[M.CE,BA,Bu,g2 64 (by omega)],g1,hL4,hm⟩
theorem Wq {k:Nat}{v:AV}{g:AX}{st:St}(hg:BP v g)(hs:g.Small)(hb:HB st) :
 ∃w L,AU E (k+3) 69 [v,.str g.start] st=.ret (w,st)/\BI w 1 (strs L)/\L.length<=400/\∀s,s∈L↔Reach g s:=by
 obtain⟨kv,rv,l,rfl,hk,hr,hrs⟩:=hg
 exact Qi (fun _ _=>rY.of hr hrs) hs hb
theorem mR (r:List Aj)(q:Nat)(h:q<r.length):r.getD q []=r[q]:=by simp[List.getD,h]
section
variable {k:Nat}{K:List Aj}{g:AX}{l:List AV}{rv kv:AV}
theorem Add.later {st0:St}{w0:AV}{st st2:St}{w:AV}{L:List Aj}(A:Add st0 w0 st w L)(c:st.c<=st2.c)(lo:st2.lo=st.lo)(hb:HB st2)(fr:∀p,p<st.c->AA st2.h p=AA st.h p):Add st0 w0 st2 w L where
 c:=Nat.le_trans A.c c
 lo:=lo.trans A.lo
 hb:=hb
 sl:=A.sl.heap fun o ho=>fr o (A.own o ho).1
 own:=fun p hp=>⟨Nat.lt_of_lt_of_le (A.own p hp).1 c,by rw[lo]; exact (A.own p hp).2.1,(A.own p hp).2.2⟩
 fr:=fun p hp hne=>(fr p (Nat.lt_of_lt_of_le hp A.c)).trans (A.fr p hp hne)
end
end Go.Am
