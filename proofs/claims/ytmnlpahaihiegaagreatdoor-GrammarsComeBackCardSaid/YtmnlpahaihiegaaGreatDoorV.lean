/- A part of the proof of grammarsComeBack (merged by a program). -/
import Derived.Test.YtmnlpahaihiegaaGreatDoorA
import Derived.IntWalk
namespace Go.Am
open Go
@[simp] theorem M.KC {α β:Type}(a:α)(f:α->M β):(M.ret a).bind f=f a:=rfl
@[simp] theorem M.lD {α β:Type}(f:α->M β):(M.fail:M α).bind f=.fail:=rfl
@[simp] theorem M.jH {α:Type}(a:α):M.Bt (some a)=.ret a:=rfl
@[simp] theorem M.jI {α:Type}:M.Bt (none:Option α)=.fail:=rfl
@[simp] theorem M.nu {α:Type}(a:α)(Q:α->Prop):(M.ret a).all Q↔Q a:=Iff.rfl
@[simp] theorem M.mo {α:Type}(Q:α->Prop):(M.fail:M α).all Q↔False:=Iff.rfl
theorem TS.bT (j:Nat):TS.nil.get j=.undef:=rfl
theorem TS.VK (v:AV):∀(n i j:Nat),i+1<2 ^ n->(TS.single v n i).get j=if i=j then v else .undef:=by
 intro n
 induction n with
 |zero=>intro i j h; simp at h
 |succ n ih=>
  intro i j h
  have hb:∀a b:Nat,Nat.beq a b=decide (a=b):=fun a b=>by
   cases h:Nat.beq a b with
   |true=>simp[Nat.eq_of_beq_eq_true h]
   |false=>simp[Nat.ne_of_beq_eq_false h]
  have h2:2 ^ (n+1)=2*2 ^ n:=by rw[Nat.pow_succ]; omega
  simp only[TS.single,hb,cond_eq_ite,decide_eq_true_eq]
  by_cases hi:i=0
  ·subst hi
   simp only[if_true]
   rw[TS.get]
   simp only[hb,cond_eq_ite,decide_eq_true_eq]
   by_cases hj:j=0
   ·simp[hj]
   ·have:¬(0=j):=by omega
    simp only[hj,this,if_false]; split <;> rfl
  ·rw[if_neg hi]
   by_cases h1:i % 2=1
   ·rw[if_pos h1,TS.get]
    simp only[hb,cond_eq_ite,decide_eq_true_eq]
    by_cases hj:j=0
    ·rw[if_pos hj,if_neg (by omega)]
    ·rw[if_neg hj]
     by_cases hj1:j % 2=1
     ·rw[if_pos hj1,ih _ _ (by omega)]
      by_cases e:i=j
      ·simp[e]
      ·rw[if_neg e,if_neg (by omega)]
     ·rw[if_neg hj1,if_neg (by omega)]; rfl
   ·rw[if_neg h1,TS.get]
    simp only[hb,cond_eq_ite,decide_eq_true_eq]
    by_cases hj:j=0
    ·rw[if_pos hj,if_neg (by omega)]
    ·rw[if_neg hj]
     by_cases hj1:j % 2=1
     ·rw[if_pos hj1,if_neg (by omega)]; rfl
     ·rw[if_neg hj1,ih _ _ (by omega)]
      by_cases e:i=j
      ·simp[e]
      ·rw[if_neg e,if_neg (by omega)]
theorem TS.VL (v:AV):∀(t:TS) (i j:Nat),i<65535->(t.set i v).get j=if i=j then v else t.get j:=by
 have hb:∀a b:Nat,Nat.beq a b=decide (a=b):=fun a b=>by
  cases h:Nat.beq a b with
  |true=>simp[Nat.eq_of_beq_eq_true h]
  |false=>simp[Nat.ne_of_beq_eq_false h]
 intro t
 induction t with
 |nil=>intro i j h; rw[TS.set,TS.VK v 16 i j (by omega)]; rfl
 |node u l r ihl ihr=>
  intro i j h
  rw[TS.set]
  simp only[hb,cond_eq_ite,decide_eq_true_eq]
  by_cases hi:i=0
  ·subst hi
   simp only[if_true]
   rw[TS.get,TS.get]
   simp only[hb,cond_eq_ite,decide_eq_true_eq]
   by_cases hj:j=0
   ·simp[hj]
   ·have:¬(0=j):=by omega
    simp only[hj,this,if_false]
  ·rw[if_neg hi]
   by_cases h1:i % 2=1
   ·rw[if_pos h1,TS.get,TS.get]
    simp only[hb,cond_eq_ite,decide_eq_true_eq]
    by_cases hj:j=0
    ·rw[if_pos hj,if_pos hj,if_neg (by omega)]
    ·rw[if_neg hj,if_neg hj]
     by_cases hj1:j % 2=1
     ·rw[if_pos hj1,if_pos hj1,ihl _ _ (by omega)]
      by_cases e:i=j
      ·simp[e]
      ·rw[if_neg e,if_neg (by omega)]
     ·rw[if_neg hj1,if_neg hj1,if_neg (by omega)]
   ·rw[if_neg h1,TS.get,TS.get]
    simp only[hb,cond_eq_ite,decide_eq_true_eq]
    by_cases hj:j=0
    ·rw[if_pos hj,if_pos hj,if_neg (by omega)]
    ·rw[if_neg hj,if_neg hj]
     by_cases hj1:j % 2=1
     ·rw[if_pos hj1,if_pos hj1,if_neg (by omega)]
     ·rw[if_neg hj1,if_neg hj1,ihr _ _ (by omega)]
      by_cases e:i=j
      ·simp[e]
      ·rw[if_neg e,if_neg (by omega)]
def M.to {α:Type}(m:M α)(R:α->Prop):Prop:=∃a,m=.ret a/\R a
@[simp] theorem M.aX {α:Type}(a:α)(R:α->Prop):(M.ret a).to R↔R a:=⟨fun⟨b,h,r⟩=>by cases h; exact r,fun r=>⟨a,rfl,r⟩⟩
@[simp] theorem M.ny {α:Type}(R:α->Prop):(M.fail:M α).to R↔False:=⟨fun⟨b,h,r⟩=>(by cases h),False.elim⟩
theorem M.BX {α β:Type}{m:M α}{f:α->M β}{R:α->Prop}{S:β->Prop}(h:m.to R)(k:∀a,R a->(f a).to S):(m.bind f).to S:=by
 obtain⟨a,rfl,r⟩:=h
 exact k a r
theorem M.dZ {α:Type}{m:M α}{R S:α->Prop}(h:m.to R)(k:∀a,R a->S a):m.to S:=by
 obtain⟨a,e,r⟩:=h
 exact⟨a,e,k a r⟩
theorem M.to_eq {α:Type}{m:M α}{a:α}(h:m.to (·=a)):m=.ret a:=by
 obtain⟨b,e,r⟩:=h; rw[e,r]
theorem M.Dt {α:Type}{m:M α}{R S:α->Prop}(h:m.all R)(k:∀a,R a->S a):m.all S:=by
 induction m with
 |ret a=>exact k a h
 |fail=>exact h
 |ask n f ih=>exact fun i hi=>ih i (h i hi)
theorem M.Oh {α β:Type}{m:M α}{f:α->M β}{S:β->Prop}:(m.bind f).all S↔m.all fun a=>(f a).all S:=by
 induction m with
 |ret a=>exact Iff.rfl
 |fail=>exact Iff.rfl
 |ask n k ih=>exact⟨fun h i hi=>(ih i).1 (h i hi),fun h i hi=>(ih i).2 (h i hi)⟩
theorem Kb {body:TS->St->M (Jl × TS × St)}{α:Type}(I:α->TS->St->Prop)(m:α->Nat)(R:Jl->TS->St->Prop)(step:∀a ts st,I a ts st->(body ts st).to fun r=>match r.1 with
 |.normal=>∃b,m b<m a/\I b r.2.1 r.2.2
 |e=>R e r.2.1 r.2.2) :
 ∀(k:Nat) (a:α) (ts:TS) (st:St),m a<k->I a ts st->(Dh body k ts st).to fun r=>R r.1 r.2.1 r.2.2:=by
 intro k
 induction k with
 |zero=>intro a ts st h; omega
 |succ k ih=>
  intro a ts st h hI
  rw[Dh]
  refine M.BX (step a ts st hI) fun r hr=>?_
  obtain⟨e,ts',st'⟩:=r
  cases e with
  |normal=>obtain⟨b,h1,h2⟩:=hr; exact ih b _ _ (by omega) h2
  |exit i=>exact (M.aX _ _).2 hr
  |ret=>exact (M.aX _ _).2 hr
theorem DI {body:TS->St->M (Jl × TS × St)}{α:Type}{P:Jl × TS × St->Prop}(I:α->TS->St->Prop)(m:α->Nat)(step:∀a ts st,I a ts st->(body ts st).to fun r=>match r.1 with
 |.normal=>∃b,m b<m a/\I b r.2.1 r.2.2
 |_=>P r)(k:Nat)(a:α)(ts:TS)(st:St)(h:m a<k)(hI:I a ts st):(Dh body k ts st).to P:=
 Kb I m (fun e ts st=>P (e,ts,st)) (fun a ts st h=>M.dZ (step a ts st h) fun r hr=>by
  obtain⟨e,ts',st'⟩:=r
  cases e <;> exact hr) k a ts st h hI
section
variable {E:Env}{n f:Nat}{fn:Aq}{args:List AV}{st:St}
theorem JY {g:Heap->List AV->Option AV}{v:AV}(hh:E.Qh f=some g)(hv:g st.h args=some v):AX E (n+1) f args st=.ret (v,st):=by
 unfold AX; rw[hh]; simp only[hv]
theorem Ai (hh:E.Qh f=none)(hc:E.code f=some fn)(hp:fn.gz=.AZ):AX E (n+1) f args st=Ct E (AX E n) fn args st:=by
 rw[AX]; simp only[hh,hc,hp]
theorem Sk (hh:E.Qh f=none)(hc:E.code f=some fn)(hp:fn.gz=.own):AX E (n+1) f args st=(Ct E (AX E n) fn args st).bind (GK st.c):=by
 rw[AX]; simp only[hh,hc,hp]
theorem CY (hh:E.Qh f=none)(hc:E.code f=some fn)(hp:fn.gz=.pure):AX E (n+1) f args st=(Ct E (AX E n) fn args { st with lo:=st.c }).bind (Bn st.c st):=by
 rw[AX]; simp only[hh,hc,hp]
theorem DK (hh:E.Qh f=none)(hc:E.code f=some fn)(hp:fn.gz=.He)(ha:AV.Cx 0 args=true):AX E (n+1) f args st=(Ct E (AX E n) fn args ⟨[],0,0⟩).bind (Bn 0 st):=by
 rw[AX]; simp only[hh,hc,hp,ha,cond_true]
theorem Ia {args':List AV}(hh:E.Qh f=none)(hc:E.code f=some fn)(hp:fn.gz=.XE)(ha:CU (Cf 0 st.h CV) args=some args'):AX E (n+1) f args st=(Ct E (AX E n) fn args' ⟨[],0,0⟩).bind (Di st):=by
 rw[AX]; simp only[hh,hc,hp,ha]
end
inductive M.Le {α:Type}:M α->M α->Prop
 |fail (m:M α):M.Le .fail m
 |ret (a:α):M.Le (.ret a) (.ret a)
 |ask (n:Nat) (k k':Nat->M α) (h:∀i,M.Le (k i) (k' i)):M.Le (.ask n k) (.ask n k')
theorem bN {α:Type}{m m':M α}(h:M.Le m m')(hm:m.SC=true):m'.SC=true:=by
 cases h with
 |fail=>cases hm
 |ret=>rfl
 |ask=>cases hm
theorem M.Le.refl {α:Type}(m:M α):M.Le m m:=by
 induction m with
 |ret a=>exact .ret a
 |fail=>exact .fail _
 |ask n k ih=>exact .ask n k k ih
theorem M.Le.bind {α β:Type}{m m':M α}{f f':α->M β}(h:M.Le m m')(hf:∀a,M.Le (f a) (f' a)):M.Le (m.bind f) (m'.bind f'):=by
 induction h with
 |fail m=>exact .fail _
 |ret a=>exact hf a
 |ask n k k' _ ih=>exact .ask n _ _ ih
theorem M.Le.all {α:Type}{m m':M α}{Q:α->Prop}(h:M.Le m m')(hq:m.all Q):m'.all Q:=by
 induction h with
 |fail m=>exact hq.elim
 |ret a=>exact hq
 |ask n k k' _ ih=>exact fun i hi=>ih i (hq i hi)
theorem M.Le.eq {α:Type}{m m':M α}{a:α}(h:M.Le m m')(e:m=.ret a):m'=.ret a:=by
 subst e; cases h; rfl
theorem M.Le.leftmost {α:Type}{m m':M α}{r:α}(h:M.Le m m')(e:m.leftmost=some r):m'.leftmost=some r:=by
 induction h with
 |fail m=>cases e
 |ret a=>exact e
 |ask n k k' _ ih=>exact ih 0 e
theorem M.Le.Tk {α:Type}{m m':M α}{f:α->Bool}(h:M.Le m m')(e:m.Tk f=true):m'.Tk f=true:=by
 induction h with
 |fail m=>cases e
 |ret a=>exact e
 |ask n k k' _ ih=>exact List.all_eq_true.2 fun i hi=>ih i (List.all_eq_true.1 e i hi)
theorem TF {st:St}{m m':M (AV × St)}(h:M.Le m m'):M.Le (JC st m) (JC st m'):=by
 unfold JC
 cases e:m.leftmost with
 |none=>exact .fail _
 |some r=>
  rw[h.leftmost e]
  simp only
  cases e2:m.Tk fun r'=>AV.beq r.1 r'.1 with
  |false=>exact .fail _
  |true=>rw[h.Tk e2]; exact .ret _
section
variable {E:Env}{call call':Nat->List AV->St->M (AV × St)}(hc:∀f args st,M.Le (call f args st) (call' f args st))
 include hc
theorem kL (s:Nat)(k:AK)(args:List AV)(st:St):M.Le (GM E call s k args st) (GM E call' s k args st):=by
 cases k <;> try exact M.Le.refl _
 case call f=>exact hc f args st
 case Bi=>
  show M.Le (KX call args st) (KX call' args st)
  unfold KX
  split
  ·exact hc _ _ _
  ·exact .fail _
 case invoke name=>
  show M.Le (callMethod E call name args st) (callMethod E call' name args st)
  unfold callMethod
  split
  ·split
   ·exact hc _ _ _
   ·exact .fail _
  ·exact .fail _
theorem Ti (s:Nat)(o:Bw)(ts:TS)(st:St):M.Le (Ij E call s o ts st) (Ij E call' s o ts st):=by
 unfold Ij
 cases wanted o.guard ts
 ·exact .ret _
 ·exact (kL hc _ _ _ _).bind fun _=>.ret _
theorem YO (s:Nat):∀(l:List Bw) (ts:TS) (st:St),M.Le (HY E call s l ts st) (HY E call' s l ts st)
 |[],_,_=>.ret _
 |o::l,ts,st=>(Ti hc s o ts st).bind fun r=>YO s l r.1 r.2
theorem Nw (s:Nat):∀(l:List (Nat × Bw × List Nat)) (p:Ik) (ts:TS) (st:St),M.Le (CL E call s l p ts st) (CL E call' s l p ts st)
 |[],_,_,_=>.ret _
 |(i,o,js)::l,p,ts,st=>(Ti hc s o ts st).bind fun r=>by
  cases h:Cw s i p r.2
  ·exact .fail _
  ·exact Nw s l _ _ _
theorem Vo (s:Nat)(x y:Nat × Bw × List Nat):∀(l:List (Nat × Bw × List Nat)) (p:Ik) (ts:TS) (st:St),M.Le (Nv E call s x y l p ts st) (Nv E call' s x y l p ts st)
 |[],p,ts,st=>by
  unfold Nv
  split
  ·split
   ·cases h:(CL E call s [y,x] p ts st).SC with
    |false=>simp only[Bool.and_false,cond_false]; exact .fail _
    |true=>
     rw[bN (Nw hc s [y,x] p ts st) h]
     cases (!Nat.beq _ _&&(x.2.2.isEmpty&&y.2.2.isEmpty&&true))
     ·exact .fail _
     ·exact Nw hc s _ _ _ _
   ·exact .fail _
  ·exact .fail _
 |(i,o,js)::l,_,_,_=>(Ti hc s o _ _).bind fun r=>by
  cases h:Cw s i _ r.2
  ·exact .fail _
  ·exact Vo s x y l _ _ _
 omit hc in
theorem Vq {b b':TS->St->M (Jl × TS × St)}(h:∀ts st,M.Le (b ts st) (b' ts st)):∀(n:Nat) (ts:TS) (st:St),M.Le (Dh b n ts st) (Dh b' n ts st)
 |0,_,_=>.fail _
 |n+1,ts,st=>(h ts st).bind fun r=>by
  obtain⟨e,ts',st'⟩:=r
  cases e
  ·exact Vq h n ts' st'
  ·exact .ret _
  ·exact .ret _
theorem dD:∀(c:AQ) (ts:TS) (st:St),M.Le (BF E call c ts st) (BF E call' c ts st):=by
 intro c
 induction c with
 |skip=>intro ts st; exact .ret _
 |region na l=>intro ts st; exact (YO hc _ _ _ _).bind fun _=>.ret _
 |draw na l=>intro ts st; exact (Nw hc _ _ _ _ _).bind fun _=>.ret _
 |WM na l x y=>intro ts st; exact (Vo hc _ _ _ _ _ _ _).bind fun _=>.ret _
 |seq a b iha ihb=>
  intro ts st
  refine (iha ts st).bind fun r=>?_
  obtain⟨e,ts',st'⟩:=r
  cases e
  ·exact ihb ts' st'
  ·exact .ret _
  ·exact .ret _
 |cond o a b iha ihb=>
  intro ts st
  show M.Le (match ev ts o with|.bool t=>bif t then BF E call a ts st else BF E call b ts st|_=>.fail) (match ev ts o with|.bool t=>bif t then BF E call' a ts st else BF E call' b ts st|_=>.fail)
  split
  ·rename_i t _; cases t
   ·exact ihb ts st
   ·exact iha ts st
  ·exact .fail _
 |block id a ih=>
  intro ts st
  refine (ih ts st).bind fun r=>?_
  obtain⟨e,ts',st'⟩:=r
  cases e <;> exact .ret _
 |loop a ih=>intro ts st; exact Vq ih _ _ _
 |exit id=>intro ts st; exact .ret _
 |ret=>intro ts st; exact .ret _
 |bad=>intro ts st; exact .fail _
theorem Kc (fn:Aq)(args:List AV)(st:St):M.Le (Ct E call fn args st) (Ct E call' fn args st):=by
 unfold Ct
 cases Nat.ble args.length 1000
 ·exact .fail _
 ·exact (dD hc _ _ _).bind fun _=>M.Le.refl _
end
theorem Vu (E:Env):∀(n f:Nat) (args:List AV) (st:St),M.Le (AX E n f args st) (AX E (n+1) f args st):=by
 intro n
 induction n with
 |zero=>intro f args st; exact .fail _
 |succ n ih=>
  intro f args st
  rw[AX,AX]
  cases hh:E.Qh f with
  |some g=>exact M.Le.refl _
  |none=>
   cases hc:E.code f with
   |none=>exact M.Le.refl _
   |some fn=>
    simp only
    split
    ·exact Kc ih _ _ _
    ·exact (Kc ih _ _ _).bind fun _=>M.Le.refl _
    ·exact (Kc ih _ _ _).bind fun _=>M.Le.refl _
    ·exact TF ((Kc ih _ _ _).bind fun _=>M.Le.refl _)
    ·cases AV.Cx 0 args
     ·exact M.Le.refl _
     ·exact (Kc ih _ _ _).bind fun _=>M.Le.refl _
    ·cases CU (Cf 0 st.h CV) args with
     |none=>exact M.Le.refl _
     |some args'=>exact (Kc ih _ _ _).bind fun _=>M.Le.refl _
theorem Xm {E:Env}{n f:Nat}{args:List AV}{st:St}{r:AV × St}(h:AX E n f args st=.ret r)(k:Nat):AX E (n+k) f args st=.ret r:=by
 induction k with
 |zero=>exact h
 |succ k ih=>exact (Vu E (n+k) f args st).eq ih
theorem RF {E:Env}{n f:Nat}{args:List AV}{st:St}{Q:AV × St->Prop}(h:(AX E n f args st).all Q)(k:Nat):(AX E (n+k) f args st).all Q:=by
 induction k with
 |zero=>exact h
 |succ k ih=>exact (Vu E (n+k) f args st).all ih
section
variable {E:Env}{call:Nat->List AV->St->M (AV × St)}{s d q:Nat}{k:AK}{args:List Gl}{ops:List Bw}{ts:TS}{st:St}{b:Bool}
@[simp] theorem nQ:HY E call s [] ts st=.ret (ts,st):=rfl
@[simp] theorem pX:HY E call s (⟨some d,none,k,args⟩::ops) ts st=(GM E call s k (Qo ts args) st).bind fun r=>HY E call s ops (ts.set d r.1) r.2:=by
 simp only[HY,Ij,wanted,cond_true,put]
 cases GM E call s k (Qo ts args) st <;> simp[M.bind]
 rename_i n f
 funext i
 induction f i with
 |ret a=>rfl
 |fail=>rfl
 |ask n k ih=>simp only[M.bind]; congr 1; funext j; exact ih j
@[simp] theorem pW:HY E call s (⟨none,none,k,args⟩::ops) ts st=(GM E call s k (Qo ts args) st).bind fun r=>HY E call s ops ts r.2:=by
 simp only[HY,Ij,wanted,cond_true,put]
 cases GM E call s k (Qo ts args) st <;> simp[M.bind]
 rename_i n f
 funext i
 induction f i with
 |ret a=>rfl
 |fail=>rfl
 |ask n k ih=>simp only[M.bind]; congr 1; funext j; exact ih j
theorem JX:HY E call s (⟨some d,some (q,b),k,args⟩::ops) ts st=bif isBool b (ts.get q) then HY E call s (⟨some d,none,k,args⟩::ops) ts st else HY E call s ops (ts.set d .undef) st:=by
 rw[HY,Ij]
 simp only[wanted,put]
 cases isBool b (ts.get q)
 ·simp
 ·simp only[cond_true,HY,Ij,wanted,put]
@[simp] theorem lG {p:Ik}:CL E call s [] p ts st=.ret (ts,st):=rfl
@[simp] theorem M.bind_assoc {α β γ:Type}(m:M α)(f:α->M β)(g:β->M γ):(m.bind f).bind g=m.bind fun a=>(f a).bind g:=by
 induction m with
 |ret a=>rfl
 |fail=>rfl
 |ask n k ih=>simp only[M.bind]; congr 1; funext i; exact ih i
@[simp] theorem oU {i:Nat}{l:List (Nat × Bw × List Nat)}:CL E call s ((i,⟨some d,none,k,args⟩,[])::l) [] ts st=(GM E call s k (Qo ts args) st).bind fun r=>CL E call s l [] (ts.set d r.1) r.2:=by
 simp only[CL,Ij,wanted,cond_true,put,M.bind_assoc,M.KC,Cw,NP]
@[simp] theorem oQ {i:Nat}{l:List (Nat × Bw × List Nat)}:CL E call s ((i,⟨none,none,k,args⟩,[])::l) [] ts st=(GM E call s k (Qo ts args) st).bind fun r=>CL E call s l [] ts r.2:=by
 simp only[CL,Ij,wanted,cond_true,put,M.bind_assoc,M.KC,Cw,NP]
@[simp] theorem oC:Qo ts []=[]:=rfl
@[simp] theorem nE {j:Nat}{l:List Gl}:Qo ts (.tmp j::l)=ts.get j::Qo ts l:=rfl
@[simp] theorem nz {v:AV}{l:List Gl}:Qo ts (.val v::l)=v::Qo ts l:=rfl
@[simp] theorem pO {j:Nat}:ev ts (.tmp j)=ts.get j:=rfl
@[simp] theorem pM {v:AV}:ev ts (.val v)=v:=rfl
@[simp] theorem iI {c:Bool}:isBool b (.bool c)=(c==b):=rfl
 attribute [simp] TS.VL
 attribute [simp] TS.bT
@[simp] theorem jJ {i:Nat}{t:TS}:TS.Cm [] i t=t:=rfl
@[simp] theorem iC {i:Nat}{t:TS}{v:AV}{l:List AV}:TS.Cm (v::l) i t=TS.Cm l (i+1) (t.set i v):=rfl
@[simp] theorem kM:BF E call .skip ts st=.ret (.normal,ts,st):=rfl
@[simp] theorem gV {na:Nat}:BF E call (.region na ops) ts st=(HY E call st.c ops ts { st with c:=st.c+na }).bind fun r=>.ret (.normal,r):=rfl
@[simp] theorem kS {na:Nat}{l:List (Nat × Bw × List Nat)}:BF E call (.draw na l) ts st=(CL E call st.c l [] ts { st with c:=st.c+na }).bind fun r=>.ret (.normal,r):=rfl
@[simp] theorem Zx {a c:AQ}:BF E call (.seq a c) ts st=(BF E call a ts st).bind fun r=>match r.1 with
 |.normal=>BF E call c r.2.1 r.2.2
 |_=>.ret r:=rfl
@[simp] theorem kT {o:Gl}{a c:AQ}:BF E call (.cond o a c) ts st=match ev ts o with
 |.bool t=>bif t then BF E call a ts st else BF E call c ts st
 |_=>.fail:=rfl
@[simp] theorem iL {id:Nat}{a:AQ}:BF E call (.block id a) ts st=(BF E call a ts st).bind fun r=>match r.1 with
 |.exit i=>.ret (bif Nat.beq i id then .normal else .exit i,r.2)
 |_=>.ret r:=rfl
@[simp] theorem kQ {a:AQ}:BF E call (.loop a) ts st=Dh (BF E call a) E.k ts st:=rfl
@[simp] theorem kR {id:Nat}:BF E call (.exit id) ts st=.ret (.exit id,ts,st):=rfl
@[simp] theorem lH:BF E call .ret ts st=.ret (.ret,ts,st):=rfl
theorem Af {fn:Aq}{l:List AV}(h:l.length<=1000):Ct E call fn l st=(BF E call fn.body (TS.Cm l 0 .nil) st).bind (leave fn.results):=by
 unfold Ct
 have:Nat.ble l.length 1000=true:=Nat.ble_eq_true_of_le h
 rw[this]; rfl
variable {x y z:AV}{op:BinOp}
@[simp] theorem og:GM E call s .move [x] st=.ret (x,st):=rfl
@[simp] theorem oW:GM E call s .pick [x,y,z] st=M.Bt (LV x y z st):=rfl
@[simp] theorem nk {id ty sz:Nat}{zero:List AV}:GM E call s (.alloc id ty sz zero) [] st=M.Bt (CO (.AO (s+id) 0) (newObj (s+id) (.cells ty sz zero false) st)):=rfl
@[simp] theorem qC {id ty sz:Nat}:GM E call s (.box id ty sz) [x] st=M.Bt (MJ (s+id) (Gy (s+id) ty sz x) st):=rfl
@[simp] theorem ni {zero:List AV}{places:List (Nat × Nat)}{l:List AV}:GM E call s (.build zero places) l st=M.Bt (Df st ((BA zero places l).map .agg)):=rfl
@[simp] theorem dX {id ty sz len:Nat}{zero:List AV}{offs:List Nat}{l:List AV}:GM E call s (.buildSlice id ty sz len zero offs) l st=M.Bt (MJ (s+id) (Ar (s+id) ty sz len zero offs l) st):=rfl
@[simp] theorem om {agg:Option Nat}:GM E call s (.load agg) [x] st=M.Bt (Df st (GU st.h agg x)):=rfl
@[simp] theorem nU {n:Nat}:GM E call s (.store n) [x,y] st=M.Bt (BJ n x y st):=rfl
@[simp] theorem iQ:GM E call s .nilCheck [x] st=M.Bt (CQ x st):=rfl
@[simp] theorem qD:GM E call s (.bin op) [x,y] st=M.Bt (Df st (bin op x y)):=rfl
@[simp] theorem qJ {neg:Bool}{k:EK}:GM E call s (.eq neg k) [x,y] st=M.Bt (Df st (Rf neg k x y)):=rfl
@[simp] theorem qI {op:UnOp}:GM E call s (.un op) [x] st=M.Bt (Df st (un op x)):=rfl
@[simp] theorem kg {k:IntKind}:GM E call s (.Ab k) [x] st=M.Bt (Hq k x st):=rfl
@[simp] theorem kY:GM E call s .IJ [x] st=M.Bt (Gc x st):=rfl
@[simp] theorem kZ {id ty:Nat}:GM E call s (.Gx id ty) [x] st=M.Bt (MJ (s+id) (Nu (s+id) ty x) st):=rfl
@[simp] theorem ko:GM E call s .Ir [x] st=M.Bt (IE x st):=rfl
@[simp] theorem oh {f:Fn}{n:Nat}{l:List AV}:GM E call s (.Im f n) l st=.ret (.fn f (l.take n) (l.drop n),st):=rfl
@[simp] theorem nW {id:Nat}:GM E call s (.mkMap id) [] st=M.Bt (CO (.Cq (s+id)) (newObj (s+id) (.map [] [] [] 0) st)):=rfl
@[simp] theorem kV {id ty sz bytes:Nat}{zero:List AV}:GM E call s (.mkSlice id ty sz bytes zero) [x,y] st=M.Bt (MJ (s+id) (KZ (s+id) ty sz bytes zero x y) st):=rfl
@[simp] theorem iO {lo hi:Bool}{l:List AV}:GM E call s (.BH lo hi) l st=M.Bt (CJ lo hi l st):=rfl
@[simp] theorem nV {sz:Nat}{lo hi mx:Bool}{l:List AV}:GM E call s (.slice sz lo hi mx) l st=M.Bt (Bz sz lo hi mx l st):=rfl
@[simp] theorem gp {off:Nat}:GM E call s (.fieldAddr off) [x] st=M.Bt (DR off x st):=rfl
@[simp] theorem nX {off:Nat}{agg:Option Nat}:GM E call s (.field off agg) [x] st=M.Bt (Lt off agg x st):=rfl
@[simp] theorem gm {sz:Nat}:GM E call s (.indexAddr sz) [x,y] st=M.Bt (Ad sz x y st):=rfl
@[simp] theorem iU {len sz:Nat}:GM E call s (.Cy len sz) [x,y] st=M.Bt (Ho len sz x y st):=rfl
@[simp] theorem iT:GM E call s .Ag [x,y] st=M.Bt (CR x y st):=rfl
@[simp] theorem lJ {kk:KK}{zero:AV}{ok:Bool}:GM E call s (.lookup kk zero ok) [x,y] st=M.Bt (Gq kk zero ok x y st):=rfl
@[simp] theorem gZ {kk:KK}:GM E call s (.mapUpdate kk) [x,y,z] st=M.Bt (Du kk x y z st):=rfl
@[simp] theorem iR {kk:KK}{zero:AV}:GM E call s (.mapEntry kk zero) [x,y] st=M.Bt (JP kk zero x y st):=rfl
@[simp] theorem dW:GM E call s .entryStore [x,y,z] st=M.Bt (Gr x y z st):=rfl
@[simp] theorem iP {id:Nat}:GM E call s (.rangeMap id) [x] st=M.Bt (JO (s+id) x st):=rfl
@[simp] theorem oZ {l:List AV}:GM E call s .next l st=Mi l st:=rfl
@[simp] theorem nY:GM E call s .entry [x] st=M.Bt (Lu x st):=rfl
@[simp] theorem kX {i:Nat}:GM E call s (.extract i) [x] st=M.Bt (Gb i x st):=rfl
@[simp] theorem pE {k:LK}:GM E call s (.len k) [x] st=M.Bt (Be k x st):=rfl
@[simp] theorem qB:GM E call s .cap [x] st=M.Bt (MO x st):=rfl
@[simp] theorem pg {l:List AV}:GM E call s .min l st=M.Bt (Ou l st):=rfl
@[simp] theorem pz {l:List AV}:GM E call s .max l st=M.Bt (Ov l st):=rfl
@[simp] theorem lK {id ty sz bytes:Nat}:GM E call s (.append id ty sz bytes) [x,y] st=M.Bt (Bq (s+id) ty sz bytes x y st):=rfl
@[simp] theorem gq {id ty:Nat}:GM E call s (.JH id ty) [x,y] st=M.Bt (Gd (s+id) ty x y st):=rfl
@[simp] theorem oq {sz:Nat}:GM E call s (.copy sz) [x,y] st=M.Bt (Kn sz x y st):=rfl
@[simp] theorem nZ {zero:List AV}:GM E call s (.clear zero) [x] st=M.Bt (Ko zero x st):=rfl
@[simp] theorem lI:GM E call s .LJ [x] st=M.Bt (GJ x st):=rfl
@[simp] theorem nT {ty n:Nat}:GM E call s (.ND ty n) [x] st=M.Bt (Jc ty n x st):=rfl
@[simp] theorem iN {ty:Nat}:GM E call s (.JE ty) [x,y] st=M.Bt (GR ty x y st):=rfl
@[simp] theorem ou {f:Nat}{l:List AV}:GM E call s (.call f) l st=call f l st:=rfl
@[simp] theorem ng {f:Nat}{a b l:List AV}:GM E call s .Bi (.fn (.func f) a b::l) st=call f (a++(l++b)) st:=rfl
@[simp] theorem qA {e:Ext}{l:List AV}:GM E call s (.ext e) l st=M.Bt (UY e l st):=rfl
@[simp] theorem kW {t:Nat}:GM E call s (.BZ t) [x] st=.ret (.iface t x,st):=rfl
@[simp] theorem ZZ {v:AV}:Df st (some v)=some (v,st):=rfl
@[simp] theorem lC:Df st none=none:=rfl
@[simp] theorem fU {v:AV}{st':St}:CO v (some st')=some (v,st'):=rfl
@[simp] theorem lF {o:Nat}{v:AV}{ob:Al}:MJ o (some (v,ob)) st=CO v (newObj o ob st):=rfl
@[simp] theorem iA {c:Bool}:LV (.bool c) x y st=some (bif c then x else y,st):=rfl
@[simp] theorem iG {h:Heap}:GU h none x=AP h x:=rfl
@[simp] theorem iF {h:Heap}{n:Nat}:GU h (some n) x=(Ac h x n).map .agg:=rfl
@[simp] theorem dN {h:Heap}{v:AV}{l:List AV}:AP h (.BN (v::l))=some v:=rfl
@[simp] theorem Bp {h:Heap}{n:Nat}{l:List AV}:Ac h (.BN l) n=if n<=l.length then some (l.take n) else none:=by
 simp only[Ac]
 by_cases hn:n<=l.length
 ·rw[if_pos hn,Nat.ble_eq_true_of_le hn]; rfl
 ·rw[if_neg hn]
  cases h:Nat.ble n l.length with
  |true=>exact absurd (Nat.le_of_ble_eq_true h) hn
  |false=>rfl
@[simp] theorem ZC {o a n:Nat}:DR n (.AO o a) st=some (.AO o (a+n),st):=rfl
@[simp] theorem ZB {l:List AV}{n:Nat}:DR n (.BN l) st=some (.BN (l.drop n),st):=rfl
@[simp] theorem aC {o a:Nat}:CQ (.AO o a) st=some (.AO o a,st):=rfl
@[simp] theorem aB {l:List AV}:CQ (.BN l) st=some (.BN l,st):=rfl
@[simp] theorem dO {f:Nat}{a b:List AV}:CQ (.fn (.func f) a b) st=some (.fn (.func f) a b,st):=rfl
@[simp] theorem dR {k j:IntKind}{n:Int}:Hq k (.int j n) st=some (.int k (k.wrap n),st):=rfl
@[simp] theorem dP {l:List UInt8}:Gc (.str l) st=some (.str l,st):=rfl
@[simp] theorem dQ {k:IntKind}{n:Nat}:Gc (.int k (n:Int)) st=if n<128 then some (.str [UInt8.ofNat n],st) else none:=rfl
@[simp] theorem aD {l:List AV}{i:Nat}:Gb i (.tuple l) st=Df st l[i]?:=rfl
@[simp] theorem ow {c:Bool}:un .not (.bool c)=some (.bool !c):=rfl
@[simp] theorem oz {k:IntKind}{n:Int}:un .neg (.int k n)=some (.int k (k.wrap (0-n))):=rfl
@[simp] theorem oO {n m:Int}:bin .add (.int .i64 n) (.int .i64 m)=some (.int .i64 (IntKind.i64.wrap (n+m))):=rfl
@[simp] theorem oF {n m:Int}:bin .sub (.int .i64 n) (.int .i64 m)=some (.int .i64 (IntKind.i64.wrap (n-m))):=rfl
@[simp] theorem oJ {n m:Int}:bin .mul (.int .i64 n) (.int .i64 m)=some (.int .i64 (IntKind.i64.wrap (n*m))):=rfl
@[simp] theorem oH {n m:Int}:bin .quo (.int .i64 n) (.int .i64 m)=if m=0 then none else some (.int .i64 (IntKind.i64.wrap (n.tdiv m))):=rfl
@[simp] theorem oG {n m:Int}:bin .rem (.int .i64 n) (.int .i64 m)=if m=0 then none else some (.int .i64 (n.tmod m)):=rfl
@[simp] theorem oN {n m:Int}:bin .eql (.int .i64 n) (.int .i64 m)=some (.bool (n==m)):=rfl
@[simp] theorem oI {n m:Int}:bin .neq (.int .i64 n) (.int .i64 m)=some (.bool (n !=m)):=rfl
@[simp] theorem oK {n m:Int}:bin .lss (.int .i64 n) (.int .i64 m)=some (.bool (decide (n<m))):=rfl
@[simp] theorem oL {n m:Int}:bin .leq (.int .i64 n) (.int .i64 m)=some (.bool (decide (n<=m))):=rfl
@[simp] theorem Pp {n m:Int}:bin .gtr (.int .i64 n) (.int .i64 m)=some (.bool (decide (m<n))):=rfl
@[simp] theorem oM {n m:Int}:bin .geq (.int .i64 n) (.int .i64 m)=some (.bool (decide (m<=n))):=rfl
@[simp] theorem nN {n m:Int}:bin .eql (.int .u8 n) (.int .u8 m)=some (.bool (n==m)):=rfl
@[simp] theorem nI {n m:Int}:bin .neq (.int .u8 n) (.int .u8 m)=some (.bool (n !=m)):=rfl
@[simp] theorem nJ {n m:Int}:bin .lss (.int .u8 n) (.int .u8 m)=some (.bool (decide (n<m))):=rfl
@[simp] theorem nK {n m:Int}:bin .leq (.int .u8 n) (.int .u8 m)=some (.bool (decide (n<=m))):=rfl
@[simp] theorem nL {n m:Int}:bin .gtr (.int .u8 n) (.int .u8 m)=some (.bool (decide (m<n))):=rfl
@[simp] theorem nM {n m:Int}:bin .geq (.int .u8 n) (.int .u8 m)=some (.bool (decide (m<=n))):=rfl
@[simp] theorem nH {n m:List UInt8}:bin .eql (.str n) (.str m)=some (.bool (n==m)):=rfl
@[simp] theorem nA {n m:List UInt8}:bin .neq (.str n) (.str m)=some (.bool !(n==m)):=rfl
@[simp] theorem nC {n m:List UInt8}:bin .lss (.str n) (.str m)=some (.bool (Op.bytesLess n m)):=rfl
@[simp] theorem Vk {n m:List UInt8}:bin .leq (.str n) (.str m)=some (.bool (Op.bytesLess n m||n==m)):=rfl
@[simp] theorem nD {n m:List UInt8}:bin .gtr (.str n) (.str m)=some (.bool !(Op.bytesLess n m||n==m)):=rfl
@[simp] theorem nG {n m:List UInt8}:bin .geq (.str n) (.str m)=some (.bool !(Op.bytesLess n m)):=rfl
@[simp] theorem kz {l:List UInt8}:Be .str (.str l) st=some (.int .i64 l.length,st):=rfl
@[simp] theorem ku {h:Heap}{t:Nat}:UM h ts (.tmp t)=some (ts.get t):=rfl
@[simp] theorem jC {h:Heap}{t:Nat}{a:Option Nat}:UM h ts (.cell t a)=GU h a (ts.get t):=rfl
structure Ci (v:AV)(sz:Nat)(xs:List AV):Prop where
 out:(v=.AB/\xs=[])∨∃t,v=.list t sz xs
variable {v:AV}{sz:Nat}{xs:List AV}
theorem Ci.bD (h:Ci v sz xs):Bu v=some xs.length:=by
 rcases h.out with⟨rfl,rfl⟩|⟨t,rfl⟩ <;> rfl
theorem Ci.len (h:Ci v sz xs):Be .slice v st=some (.int .i64 xs.length,st):=by
 rcases h.out with⟨rfl,rfl⟩|⟨t,rfl⟩ <;> rfl
theorem Bd (i:Nat):asNat (.int .i64 (i:Int))=some i:=rfl
theorem Ci.idx (h:Ci v sz xs){i:Nat}(hi:i<xs.length):Ad sz v (.int .i64 i) st=some (.BN xs[i].cells,st):=by
 rcases h.out with⟨rfl,rfl⟩|⟨t,rfl⟩
 ·simp at hi
 ·have hb:Nat.beq sz sz=true:=Nat.beq_refl sz
  simp[Ad,Bd,hb,hi]
end
@[simp] theorem St.eta (st:St):St.mk st.h st.c st.lo=st:=rfl
theorem wrap64 {n:Int}(h1:-9223372036854775808<=n)(h2:n<9223372036854775808):IntKind.i64.wrap n=n:=by
 exact IntWalk.i64_in n ⟨h1,by omega⟩
theorem wi (i:Nat)(h:(i:Int)+1<9223372036854775808:=by omega):IntKind.i64.wrap ((i:Int)+1)=(i:Int)+1:=wrap64 (by omega) h
end Go.Am
