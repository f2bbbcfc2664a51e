/- A part of the proof of grammarTexts (merged by a program). -/
import Derived.Test.YtehhlchbbdaipaaGreatDoorA
import Derived.IntWalk
namespace Go.Am
open Go
@[simp] theorem M.Iy {α β:Type}(a:α)(f:α->M β):(M.ret a).bind f=f a:=rfl
@[simp] theorem M.jM {α β:Type}(f:α->M β):(M.fail:M α).bind f=.fail:=rfl
@[simp] theorem M.gK {α:Type}(a:α):M.Bu (some a)=.ret a:=rfl
@[simp] theorem M.gL {α:Type}:M.Bu (none:Option α)=.fail:=rfl
@[simp] theorem M.lW {α:Type}(a:α)(Q:α->Prop):(M.ret a).all Q↔Q a:=Iff.rfl
@[simp] theorem M.kS {α:Type}(Q:α->Prop):(M.fail:M α).all Q↔False:=Iff.rfl
theorem TS.aF (j:Nat):TS.nil.get j=.undef:=rfl
theorem TS.Ug (v:AV):∀(n i j:Nat),i+1<2 ^ n->(TS.single v n i).get j=if i=j then v else .undef:=by
 intro n
 induction n with
 |zero=>intro i j h; simp at h
 |succ n ih=>
  intro i j h
  have hb:∀a b:Nat,Nat.beq a b=decide (a=b):=fun a b=>by
   cases h:Nat.beq a b with
   |true=>simp[Nat.eq_of_beq_eq_true h]
   |false=>simp[Nat.ne_of_beq_eq_false h]
  have h2:2 ^ (n+1)=2*2 ^ n:=by rw[Nat.pow_succ]; omega
  simp only[TS.single,hb,cond_eq_ite,decide_eq_true_eq]
  by_cases hi:i=0
  ·subst hi
   simp only[if_true]
   rw[TS.get]
   simp only[hb,cond_eq_ite,decide_eq_true_eq]
   by_cases hj:j=0
   ·simp[hj]
   ·have:¬(0=j):=by omega
    simp only[hj,this,if_false]; split <;> rfl
  ·rw[if_neg hi]
   by_cases h1:i % 2=1
   ·rw[if_pos h1,TS.get]
    simp only[hb,cond_eq_ite,decide_eq_true_eq]
    by_cases hj:j=0
    ·rw[if_pos hj,if_neg (by omega)]
    ·rw[if_neg hj]
     by_cases hj1:j % 2=1
     ·rw[if_pos hj1,ih _ _ (by omega)]
      by_cases e:i=j
      ·simp[e]
      ·rw[if_neg e,if_neg (by omega)]
     ·rw[if_neg hj1,if_neg (by omega)]; rfl
   ·rw[if_neg h1,TS.get]
    simp only[hb,cond_eq_ite,decide_eq_true_eq]
    by_cases hj:j=0
    ·rw[if_pos hj,if_neg (by omega)]
    ·rw[if_neg hj]
     by_cases hj1:j % 2=1
     ·rw[if_pos hj1,if_neg (by omega)]; rfl
     ·rw[if_neg hj1,ih _ _ (by omega)]
      by_cases e:i=j
      ·simp[e]
      ·rw[if_neg e,if_neg (by omega)]
theorem TS.Uh (v:AV):∀(t:TS) (i j:Nat),i<65535->(t.set i v).get j=if i=j then v else t.get j:=by
 have hb:∀a b:Nat,Nat.beq a b=decide (a=b):=fun a b=>by
  cases h:Nat.beq a b with
  |true=>simp[Nat.eq_of_beq_eq_true h]
  |false=>simp[Nat.ne_of_beq_eq_false h]
 intro t
 induction t with
 |nil=>intro i j h; rw[TS.set,TS.Ug v 16 i j (by omega)]; rfl
 |node u l r ihl ihr=>
  intro i j h
  rw[TS.set]
  simp only[hb,cond_eq_ite,decide_eq_true_eq]
  by_cases hi:i=0
  ·subst hi
   simp only[if_true]
   rw[TS.get,TS.get]
   simp only[hb,cond_eq_ite,decide_eq_true_eq]
   by_cases hj:j=0
   ·simp[hj]
   ·have:¬(0=j):=by omega
    simp only[hj,this,if_false]
  ·rw[if_neg hi]
   by_cases h1:i % 2=1
   ·rw[if_pos h1,TS.get,TS.get]
    simp only[hb,cond_eq_ite,decide_eq_true_eq]
    by_cases hj:j=0
    ·rw[if_pos hj,if_pos hj,if_neg (by omega)]
    ·rw[if_neg hj,if_neg hj]
     by_cases hj1:j % 2=1
     ·rw[if_pos hj1,if_pos hj1,ihl _ _ (by omega)]
      by_cases e:i=j
      ·simp[e]
      ·rw[if_neg e,if_neg (by omega)]
     ·rw[if_neg hj1,if_neg hj1,if_neg (by omega)]
   ·rw[if_neg h1,TS.get,TS.get]
    simp only[hb,cond_eq_ite,decide_eq_true_eq]
    by_cases hj:j=0
    ·rw[if_pos hj,if_pos hj,if_neg (by omega)]
    ·rw[if_neg hj,if_neg hj]
     by_cases hj1:j % 2=1
     ·rw[if_pos hj1,if_pos hj1,if_neg (by omega)]
     ·rw[if_neg hj1,if_neg hj1,ihr _ _ (by omega)]
      by_cases e:i=j
      ·simp[e]
      ·rw[if_neg e,if_neg (by omega)]
def M.to {α:Type}(m:M α)(R:α->Prop):Prop:=∃a,m=.ret a/\R a
@[simp] theorem M.Zb {α:Type}(a:α)(R:α->Prop):(M.ret a).to R↔R a:=⟨fun⟨b,h,r⟩=>by cases h; exact r,fun r=>⟨a,rfl,r⟩⟩
@[simp] theorem M.lX {α:Type}(R:α->Prop):(M.fail:M α).to R↔False:=⟨fun⟨b,h,r⟩=>(by cases h),False.elim⟩
theorem M.BN {α β:Type}{m:M α}{f:α->M β}{R:α->Prop}{S:β->Prop}(h:m.to R)(k:∀a,R a->(f a).to S):(m.bind f).to S:=by
 obtain⟨a,rfl,r⟩:=h
 exact k a r
theorem M.bL {α:Type}{m:M α}{R S:α->Prop}(h:m.to R)(k:∀a,R a->S a):m.to S:=by
 obtain⟨a,e,r⟩:=h
 exact⟨a,e,k a r⟩
theorem M.to_eq {α:Type}{m:M α}{a:α}(h:m.to (·=a)):m=.ret a:=by
 obtain⟨b,e,r⟩:=h; rw[e,r]
theorem M.OP {α:Type}{m:M α}{R S:α->Prop}(h:m.all R)(k:∀a,R a->S a):m.all S:=by
 induction m with
 |ret a=>exact k a h
 |fail=>exact h
 |ask n f ih=>exact fun i hi=>ih i (h i hi)
theorem M.OQ {α β:Type}{m:M α}{f:α->M β}{S:β->Prop}:(m.bind f).all S↔m.all fun a=>(f a).all S:=by
 induction m with
 |ret a=>exact Iff.rfl
 |fail=>exact Iff.rfl
 |ask n k ih=>exact⟨fun h i hi=>(ih i).1 (h i hi),fun h i hi=>(ih i).2 (h i hi)⟩
theorem KH {body:TS->St->M (JL × TS × St)}{α:Type}(I:α->TS->St->Prop)(m:α->Nat)(R:JL->TS->St->Prop)(step:∀a ts st,I a ts st->(body ts st).to fun r=>match r.1 with
 |.normal=>∃b,m b<m a/\I b r.2.1 r.2.2
 |e=>R e r.2.1 r.2.2) :
 ∀(k:Nat) (a:α) (ts:TS) (st:St),m a<k->I a ts st->(DN body k ts st).to fun r=>R r.1 r.2.1 r.2.2:=by
 intro k
 induction k with
 |zero=>intro a ts st h; omega
 |succ k ih=>
  intro a ts st h hI
  rw[DN]
  refine M.BN (step a ts st hI) fun r hr=>?_
  obtain⟨e,ts',st'⟩:=r
  cases e with
  |normal=>obtain⟨b,h1,h2⟩:=hr; exact ih b _ _ (by omega) h2
  |exit i=>exact (M.Zb _ _).2 hr
  |ret=>exact (M.Zb _ _).2 hr
theorem Ct {body:TS->St->M (JL × TS × St)}{α:Type}{P:JL × TS × St->Prop}(I:α->TS->St->Prop)(m:α->Nat)(step:∀a ts st,I a ts st->(body ts st).to fun r=>match r.1 with
 |.normal=>∃b,m b<m a/\I b r.2.1 r.2.2
 |_=>P r)(k:Nat)(a:α)(ts:TS)(st:St)(h:m a<k)(hI:I a ts st):(DN body k ts st).to P:=
 KH I m (fun e ts st=>P (e,ts,st)) (fun a ts st h=>M.bL (step a ts st h) fun r hr=>by
  obtain⟨e,ts',st'⟩:=r
  cases e <;> exact hr) k a ts st h hI
section
variable {E:Env}{n f:Nat}{fn:BO}{args:List AV}{st:St}
theorem JK {g:Heap->List AV->Option AV}{v:AV}(hh:E.QN f=some g)(hv:g st.h args=some v):AR E (n+1) f args st=.ret (v,st):=by
 unfold AR; rw[hh]; simp only[hv]
theorem Af (hh:E.QN f=none)(hc:E.code f=some fn)(hp:fn.eT=.Ao):AR E (n+1) f args st=DJ E (AR E n) fn args st:=by
 rw[AR]; simp only[hh,hc,hp]
theorem Ru (hh:E.QN f=none)(hc:E.code f=some fn)(hp:fn.eT=.own):AR E (n+1) f args st=(DJ E (AR E n) fn args st).bind (GG st.c):=by
 rw[AR]; simp only[hh,hc,hp]
theorem Cc (hh:E.QN f=none)(hc:E.code f=some fn)(hp:fn.eT=.pure):AR E (n+1) f args st=(DJ E (AR E n) fn args { st with lo:=st.c }).bind (Bd st.c st):=by
 rw[AR]; simp only[hh,hc,hp]
theorem Ca (hh:E.QN f=none)(hc:E.code f=some fn)(hp:fn.eT=.Dr)(ha:AV.Cq 0 args=true):AR E (n+1) f args st=(DJ E (AR E n) fn args ⟨[],0,0⟩).bind (Bd 0 st):=by
 rw[AR]; simp only[hh,hc,hp,ha,cond_true]
theorem IQ {args':List AV}(hh:E.QN f=none)(hc:E.code f=some fn)(hp:fn.eT=.XL)(ha:CO (CZ 0 st.h CJ) args=some args'):AR E (n+1) f args st=(DJ E (AR E n) fn args' ⟨[],0,0⟩).bind (DZ st):=by
 rw[AR]; simp only[hh,hc,hp,ha]
end
inductive M.Le {α:Type}:M α->M α->Prop
 |fail (m:M α):M.Le .fail m
 |ret (a:α):M.Le (.ret a) (.ret a)
 |ask (n:Nat) (k k':Nat->M α) (h:∀i,M.Le (k i) (k' i)):M.Le (.ask n k) (.ask n k')
theorem M.Le.refl {α:Type}(m:M α):M.Le m m:=by
 induction m with
 |ret a=>exact .ret a
 |fail=>exact .fail _
 |ask n k ih=>exact .ask n k k ih
theorem M.Le.bind {α β:Type}{m m':M α}{f f':α->M β}(h:M.Le m m')(hf:∀a,M.Le (f a) (f' a)):M.Le (m.bind f) (m'.bind f'):=by
 induction h with
 |fail m=>exact .fail _
 |ret a=>exact hf a
 |ask n k k' _ ih=>exact .ask n _ _ ih
theorem M.Le.all {α:Type}{m m':M α}{Q:α->Prop}(h:M.Le m m')(hq:m.all Q):m'.all Q:=by
 induction h with
 |fail m=>exact hq.elim
 |ret a=>exact hq
 |ask n k k' _ ih=>exact fun i hi=>ih i (hq i hi)
theorem M.Le.eq {α:Type}{m m':M α}{a:α}(h:M.Le m m')(e:m=.ret a):m'=.ret a:=by
 subst e; cases h; rfl
theorem M.Le.leftmost {α:Type}{m m':M α}{r:α}(h:M.Le m m')(e:m.leftmost=some r):m'.leftmost=some r:=by
 induction h with
 |fail m=>cases e
 |ret a=>exact e
 |ask n k k' _ ih=>exact ih 0 e
theorem M.Le.TC {α:Type}{m m':M α}{f:α->Bool}(h:M.Le m m')(e:m.TC f=true):m'.TC f=true:=by
 induction h with
 |fail m=>cases e
 |ret a=>exact e
 |ask n k k' _ ih=>exact List.all_eq_true.2 fun i hi=>ih i (List.all_eq_true.1 e i hi)
theorem SQ {st:St}{m m':M (AV × St)}(h:M.Le m m'):M.Le (Ik st m) (Ik st m'):=by
 unfold Ik
 cases e:m.leftmost with
 |none=>exact .fail _
 |some r=>
  rw[h.leftmost e]
  simp only
  cases e2:m.TC fun r'=>AV.beq r.1 r'.1 with
  |false=>exact .fail _
  |true=>rw[h.TC e2]; exact .ret _
section
variable {E:Env}{call call':Nat->List AV->St->M (AV × St)}(hc:∀f args st,M.Le (call f args st) (call' f args st))
 include hc
theorem ic (s:Nat)(k:AK)(args:List AV)(st:St):M.Le (GJ E call s k args st) (GJ E call' s k args st):=by
 cases k <;> try exact M.Le.refl _
 case call f=>exact hc f args st
 case Gi=>
  show M.Le (KA call args st) (KA call' args st)
  unfold KA
  split
  ·exact hc _ _ _
  ·exact .fail _
 case invoke name=>
  show M.Le (callMethod E call name args st) (callMethod E call' name args st)
  unfold callMethod
  split
  ·split
   ·exact hc _ _ _
   ·exact .fail _
  ·exact .fail _
theorem Xd (s:Nat)(o:CV)(ts:TS)(st:St):M.Le (KG E call s o ts st) (KG E call' s o ts st):=by
 unfold KG
 cases wanted o.guard ts
 ·exact .ret _
 ·exact (ic hc _ _ _ _).bind fun _=>.ret _
theorem Xb (s:Nat):∀(l:List CV) (ts:TS) (st:St),M.Le (Gl E call s l ts st) (Gl E call' s l ts st)
 |[],_,_=>.ret _
 |o::l,ts,st=>(Xd hc s o ts st).bind fun r=>Xb s l r.1 r.2
theorem VO (s:Nat):∀(l:List (Nat × CV × List Nat)) (p:Ko) (ts:TS) (st:St),M.Le (Fe E call s l p ts st) (Fe E call' s l p ts st)
 |[],_,_,_=>.ret _
 |(i,o,js)::l,p,ts,st=>(Xd hc s o ts st).bind fun r=>by
  cases h:IU s i p r.2
  ·exact .fail _
  ·exact VO s l _ _ _
 omit hc in
theorem VK {b b':TS->St->M (JL × TS × St)}(h:∀ts st,M.Le (b ts st) (b' ts st)):∀(n:Nat) (ts:TS) (st:St),M.Le (DN b n ts st) (DN b' n ts st)
 |0,_,_=>.fail _
 |n+1,ts,st=>(h ts st).bind fun r=>by
  obtain⟨e,ts',st'⟩:=r
  cases e
  ·exact VK h n ts' st'
  ·exact .ret _
  ·exact .ret _
theorem af:∀(c:Ae) (ts:TS) (st:St),M.Le (BB E call c ts st) (BB E call' c ts st):=by
 intro c
 induction c with
 |skip=>intro ts st; exact .ret _
 |region na l=>intro ts st; exact (Xb hc _ _ _ _).bind fun _=>.ret _
 |draw na l=>intro ts st; exact (VO hc _ _ _ _ _).bind fun _=>.ret _
 |seq a b iha ihb=>
  intro ts st
  refine (iha ts st).bind fun r=>?_
  obtain⟨e,ts',st'⟩:=r
  cases e
  ·exact ihb ts' st'
  ·exact .ret _
  ·exact .ret _
 |cond o a b iha ihb=>
  intro ts st
  show M.Le (match ev ts o with|.bool t=>bif t then BB E call a ts st else BB E call b ts st|_=>.fail) (match ev ts o with|.bool t=>bif t then BB E call' a ts st else BB E call' b ts st|_=>.fail)
  split
  ·rename_i t _; cases t
   ·exact ihb ts st
   ·exact iha ts st
  ·exact .fail _
 |block id a ih=>
  intro ts st
  refine (ih ts st).bind fun r=>?_
  obtain⟨e,ts',st'⟩:=r
  cases e <;> exact .ret _
 |loop a ih=>intro ts st; exact VK ih _ _ _
 |exit id=>intro ts st; exact .ret _
 |ret=>intro ts st; exact .ret _
 |bad=>intro ts st; exact .fail _
theorem KI (fn:BO)(args:List AV)(st:St):M.Le (DJ E call fn args st) (DJ E call' fn args st):=by
 unfold DJ
 cases Nat.ble args.length 1000
 ·exact .fail _
 ·exact (af hc _ _ _).bind fun _=>M.Le.refl _
end
theorem VQ (E:Env):∀(n f:Nat) (args:List AV) (st:St),M.Le (AR E n f args st) (AR E (n+1) f args st):=by
 intro n
 induction n with
 |zero=>intro f args st; exact .fail _
 |succ n ih=>
  intro f args st
  rw[AR,AR]
  cases hh:E.QN f with
  |some g=>exact M.Le.refl _
  |none=>
   cases hc:E.code f with
   |none=>exact M.Le.refl _
   |some fn=>
    simp only
    split
    ·exact KI ih _ _ _
    ·exact (KI ih _ _ _).bind fun _=>M.Le.refl _
    ·exact (KI ih _ _ _).bind fun _=>M.Le.refl _
    ·exact SQ ((KI ih _ _ _).bind fun _=>M.Le.refl _)
    ·cases AV.Cq 0 args
     ·exact M.Le.refl _
     ·exact (KI ih _ _ _).bind fun _=>M.Le.refl _
    ·cases CO (CZ 0 st.h CJ) args with
     |none=>exact M.Le.refl _
     |some args'=>exact (KI ih _ _ _).bind fun _=>M.Le.refl _
theorem Wz {E:Env}{n f:Nat}{args:List AV}{st:St}{r:AV × St}(h:AR E n f args st=.ret r)(k:Nat):AR E (n+k) f args st=.ret r:=by
 induction k with
 |zero=>exact h
 |succ k ih=>exact (VQ E (n+k) f args st).eq ih
theorem Qh {E:Env}{n f:Nat}{args:List AV}{st:St}{Q:AV × St->Prop}(h:(AR E n f args st).all Q)(k:Nat):(AR E (n+k) f args st).all Q:=by
 induction k with
 |zero=>exact h
 |succ k ih=>exact (VQ E (n+k) f args st).all ih
section
variable {E:Env}{call:Nat->List AV->St->M (AV × St)}{s d q:Nat}{k:AK}{args:List Gx}{ops:List CV}{ts:TS}{st:St}{b:Bool}
@[simp] theorem lG:Gl E call s [] ts st=.ret (ts,st):=rfl
@[simp] theorem nG:Gl E call s (⟨some d,none,k,args⟩::ops) ts st=(GJ E call s k (Re ts args) st).bind fun r=>Gl E call s ops (ts.set d r.1) r.2:=by
 simp only[Gl,KG,wanted,cond_true,put]
 cases GJ E call s k (Re ts args) st <;> simp[M.bind]
 rename_i n f
 funext i
 induction f i with
 |ret a=>rfl
 |fail=>rfl
 |ask n k ih=>simp only[M.bind]; congr 1; funext j; exact ih j
@[simp] theorem nD:Gl E call s (⟨none,none,k,args⟩::ops) ts st=(GJ E call s k (Re ts args) st).bind fun r=>Gl E call s ops ts r.2:=by
 simp only[Gl,KG,wanted,cond_true,put]
 cases GJ E call s k (Re ts args) st <;> simp[M.bind]
 rename_i n f
 funext i
 induction f i with
 |ret a=>rfl
 |fail=>rfl
 |ask n k ih=>simp only[M.bind]; congr 1; funext j; exact ih j
theorem JJ:Gl E call s (⟨some d,some (q,b),k,args⟩::ops) ts st=bif isBool b (ts.get q) then Gl E call s (⟨some d,none,k,args⟩::ops) ts st else Gl E call s ops (ts.set d .undef) st:=by
 rw[Gl,KG]
 simp only[wanted,put]
 cases isBool b (ts.get q)
 ·simp
 ·simp only[cond_true,Gl,KG,wanted,put]
@[simp] theorem jO {p:Ko}:Fe E call s [] p ts st=.ret (ts,st):=rfl
@[simp] theorem M.bind_assoc {α β γ:Type}(m:M α)(f:α->M β)(g:β->M γ):(m.bind f).bind g=m.bind fun a=>(f a).bind g:=by
 induction m with
 |ret a=>rfl
 |fail=>rfl
 |ask n k ih=>simp only[M.bind]; congr 1; funext i; exact ih i
@[simp] theorem mO {i:Nat}{l:List (Nat × CV × List Nat)}:Fe E call s ((i,⟨some d,none,k,args⟩,[])::l) [] ts st=(GJ E call s k (Re ts args) st).bind fun r=>Fe E call s l [] (ts.set d r.1) r.2:=by
 simp only[Fe,KG,wanted,cond_true,put,M.bind_assoc,M.Iy,IU,Pw]
@[simp] theorem mM {i:Nat}{l:List (Nat × CV × List Nat)}:Fe E call s ((i,⟨none,none,k,args⟩,[])::l) [] ts st=(GJ E call s k (Re ts args) st).bind fun r=>Fe E call s l [] ts r.2:=by
 simp only[Fe,KG,wanted,cond_true,put,M.bind_assoc,M.Iy,IU,Pw]
@[simp] theorem lg:Re ts []=[]:=rfl
@[simp] theorem lZ {j:Nat}{l:List Gx}:Re ts (.tmp j::l)=ts.get j::Re ts l:=rfl
@[simp] theorem lY {v:AV}{l:List Gx}:Re ts (.val v::l)=v::Re ts l:=rfl
@[simp] theorem mq {j:Nat}:ev ts (.tmp j)=ts.get j:=rfl
@[simp] theorem mo {v:AV}:ev ts (.val v)=v:=rfl
@[simp] theorem fA {c:Bool}:isBool b (.bool c)=(c==b):=rfl
 attribute [simp] TS.Uh
 attribute [simp] TS.aF
@[simp] theorem gM {i:Nat}{t:TS}:TS.Cy [] i t=t:=rfl
@[simp] theorem eZ {i:Nat}{t:TS}{v:AV}{l:List AV}:TS.Cy (v::l) i t=TS.Cy l (i+1) (t.set i v):=rfl
@[simp] theorem ig:BB E call .skip ts st=.ret (.normal,ts,st):=rfl
@[simp] theorem eB {na:Nat}:BB E call (.region na ops) ts st=(Gl E call st.c ops ts { st with c:=st.c+na }).bind fun r=>.ret (.normal,r):=rfl
@[simp] theorem iw {na:Nat}{l:List (Nat × CV × List Nat)}:BB E call (.draw na l) ts st=(Fe E call st.c l [] ts { st with c:=st.c+na }).bind fun r=>.ret (.normal,r):=rfl
@[simp] theorem jP {a c:Ae}:BB E call (.seq a c) ts st=(BB E call a ts st).bind fun r=>match r.1 with
 |.normal=>BB E call c r.2.1 r.2.2
 |_=>.ret r:=rfl
@[simp] theorem iy {o:Gx}{a c:Ae}:BB E call (.cond o a c) ts st=match ev ts o with
 |.bool t=>bif t then BB E call a ts st else BB E call c ts st
 |_=>.fail:=rfl
@[simp] theorem fD {id:Nat}{a:Ae}:BB E call (.block id a) ts st=(BB E call a ts st).bind fun r=>match r.1 with
 |.exit i=>.ret (bif Nat.beq i id then .normal else .exit i,r.2)
 |_=>.ret r:=rfl
@[simp] theorem il {a:Ae}:BB E call (.loop a) ts st=DN (BB E call a) E.k ts st:=rfl
@[simp] theorem iq {id:Nat}:BB E call (.exit id) ts st=.ret (.exit id,ts,st):=rfl
@[simp] theorem jQ:BB E call .ret ts st=.ret (.ret,ts,st):=rfl
theorem Ab {fn:BO}{l:List AV}(h:l.length<=1000):DJ E call fn l st=(BB E call fn.body (TS.Cy l 0 .nil) st).bind (leave fn.results):=by
 unfold DJ
 have:Nat.ble l.length 1000=true:=Nat.ble_eq_true_of_le h
 rw[this]; rfl
variable {x y z:AV}{op:BinOp}
@[simp] theorem mU:GJ E call s .move [x] st=.ret (x,st):=rfl
@[simp] theorem mQ:GJ E call s .pick [x,y,z] st=M.Bu (Kz x y z st):=rfl
@[simp] theorem lV {id ty sz:Nat}{zero:List AV}:GJ E call s (.alloc id ty sz zero) [] st=M.Bu (CQ (.AO (s+id) 0) (newObj (s+id) (.cells ty sz zero false) st)):=rfl
@[simp] theorem nN {id ty sz:Nat}:GJ E call s (.box id ty sz) [x] st=M.Bu (Lp (s+id) (Gy (s+id) ty sz x) st):=rfl
@[simp] theorem lU {zero:List AV}{places:List (Nat × Nat)}{l:List AV}:GJ E call s (.build zero places) l st=M.Bu (DX st ((Au zero places l).map .agg)):=rfl
@[simp] theorem bK {id ty sz len:Nat}{zero:List AV}{offs:List Nat}{l:List AV}:GJ E call s (.buildSlice id ty sz len zero offs) l st=M.Bu (Lp (s+id) (Aw (s+id) ty sz len zero offs l) st):=rfl
@[simp] theorem mW {agg:Option Nat}:GJ E call s (.load agg) [x] st=M.Bu (DX st (GR st.h agg x)):=rfl
@[simp] theorem lK {n:Nat}:GJ E call s (.store n) [x,y] st=M.Bu (BH n x y st):=rfl
@[simp] theorem fJ:GJ E call s .nilCheck [x] st=M.Bu (CP x st):=rfl
@[simp] theorem nO:GJ E call s (.bin op) [x,y] st=M.Bu (DX st (bin op x y)):=rfl
@[simp] theorem nT {neg:Bool}{k:EK}:GJ E call s (.eq neg k) [x,y] st=M.Bu (DX st (Sq neg k x y)):=rfl
@[simp] theorem nS {op:UnOp}:GJ E call s (.un op) [x] st=M.Bu (DX st (un op x)):=rfl
@[simp] theorem jG {k:IntKind}:GJ E call s (.BV k) [x] st=M.Bu (Hm k x st):=rfl
@[simp] theorem jD:GJ E call s .IG [x] st=M.Bu (Ga x st):=rfl
@[simp] theorem jF {id ty:Nat}:GJ E call s (.II id ty) [x] st=M.Bu (Lp (s+id) (NZ (s+id) ty x) st):=rfl
@[simp] theorem jH:GJ E call s .JW [x] st=M.Bu (Ii x st):=rfl
@[simp] theorem mV {f:Fn}{n:Nat}{l:List AV}:GJ E call s (.KY f n) l st=.ret (.fn f (l.take n) (l.drop n),st):=rfl
@[simp] theorem lM {id:Nat}:GJ E call s (.mkMap id) [] st=M.Bu (CQ (.Cr (s+id)) (newObj (s+id) (.map [] [] [] 0) st)):=rfl
@[simp] theorem jA {id ty sz bytes:Nat}{zero:List AV}:GJ E call s (.mkSlice id ty sz bytes zero) [x,y] st=M.Bu (Lp (s+id) (KD (s+id) ty sz bytes zero x y) st):=rfl
@[simp] theorem fH {lo hi:Bool}{l:List AV}:GJ E call s (.CF lo hi) l st=M.Bu (Bp lo hi l st):=rfl
@[simp] theorem lL {sz:Nat}{lo hi mx:Bool}{l:List AV}:GJ E call s (.slice sz lo hi mx) l st=M.Bu (Bc sz lo hi mx l st):=rfl
@[simp] theorem eO {off:Nat}:GJ E call s (.fieldAddr off) [x] st=M.Bu (DI off x st):=rfl
@[simp] theorem lN {off:Nat}{agg:Option Nat}:GJ E call s (.field off agg) [x] st=M.Bu (La off agg x st):=rfl
@[simp] theorem eH {sz:Nat}:GJ E call s (.indexAddr sz) [x,y] st=M.Bu (AU sz x y st):=rfl
@[simp] theorem fO {len sz:Nat}:GJ E call s (.FX len sz) [x,y] st=M.Bu (Hl len sz x y st):=rfl
@[simp] theorem fM:GJ E call s .Bn [x,y] st=M.Bu (Bq x y st):=rfl
@[simp] theorem jS {kk:KK}{zero:AV}{ok:Bool}:GJ E call s (.lookup kk zero ok) [x,y] st=M.Bu (Gn kk zero ok x y st):=rfl
@[simp] theorem eG {kk:KK}:GJ E call s (.mapUpdate kk) [x,y,z] st=M.Bu (Dn kk x y z st):=rfl
@[simp] theorem fK {kk:KK}{zero:AV}:GJ E call s (.mapEntry kk zero) [x,y] st=M.Bu (IE kk zero x y st):=rfl
@[simp] theorem bJ:GJ E call s .entryStore [x,y,z] st=M.Bu (Gp x y z st):=rfl
@[simp] theorem fI {id:Nat}:GJ E call s (.rangeMap id) [x] st=M.Bu (Iz (s+id) x st):=rfl
@[simp] theorem mR {l:List AV}:GJ E call s .next l st=MS l st:=rfl
@[simp] theorem lQ:GJ E call s .entry [x] st=M.Bu (Lb x st):=rfl
@[simp] theorem jC {i:Nat}:GJ E call s (.extract i) [x] st=M.Bu (GZ i x st):=rfl
@[simp] theorem nK {k:LK}:GJ E call s (.len k) [x] st=M.Bu (BX k x st):=rfl
@[simp] theorem nM:GJ E call s .cap [x] st=M.Bu (Lt x st):=rfl
@[simp] theorem nI {l:List AV}:GJ E call s .min l st=M.Bu (OY l st):=rfl
@[simp] theorem nJ {l:List AV}:GJ E call s .max l st=M.Bu (OZ l st):=rfl
@[simp] theorem jT {id ty sz bytes:Nat}:GJ E call s (.append id ty sz bytes) [x,y] st=M.Bu (Bi (s+id) ty sz bytes x y st):=rfl
@[simp] theorem eP {id ty:Nat}:GJ E call s (.Io id ty) [x,y] st=M.Bu (Gb (s+id) ty x y st):=rfl
@[simp] theorem mX {sz:Nat}:GJ E call s (.copy sz) [x,y] st=M.Bu (KW sz x y st):=rfl
@[simp] theorem lS {zero:List AV}:GJ E call s (.clear zero) [x] st=M.Bu (KX zero x st):=rfl
@[simp] theorem jR:GJ E call s .Kr [x] st=M.Bu (GD x st):=rfl
@[simp] theorem lJ {ty n:Nat}:GJ E call s (.Mr ty n) [x] st=M.Bu (JQ ty n x st):=rfl
@[simp] theorem fG {ty:Nat}:GJ E call s (.Jl ty) [x,y] st=M.Bu (GN ty x y st):=rfl
@[simp] theorem mY {f:Nat}{l:List AV}:GJ E call s (.call f) l st=call f l st:=rfl
@[simp] theorem lT {f:Nat}{a b l:List AV}:GJ E call s .Gi (.fn (.func f) a b::l) st=call f (a++(l++b)) st:=rfl
@[simp] theorem nL {e:Ext}{l:List AV}:GJ E call s (.ext e) l st=M.Bu (Tv e l st):=rfl
@[simp] theorem jB {t:Nat}:GJ E call s (.CU t) [x] st=.ret (.iface t x,st):=rfl
@[simp] theorem Yh {v:AV}:DX st (some v)=some (v,st):=rfl
@[simp] theorem jL:DX st none=none:=rfl
@[simp] theorem dH {v:AV}{st':St}:CQ v (some st')=some (v,st'):=rfl
@[simp] theorem jN {o:Nat}{v:AV}{ob:Ai}:Lp o (some (v,ob)) st=CQ v (newObj o ob st):=rfl
@[simp] theorem eX {c:Bool}:Kz (.bool c) x y st=some (bif c then x else y,st):=rfl
@[simp] theorem ek {h:Heap}:GR h none x=AQ h x:=rfl
@[simp] theorem ed {h:Heap}{n:Nat}:GR h (some n) x=(Ac h x n).map .agg:=rfl
@[simp] theorem ay {h:Heap}{v:AV}{l:List AV}:AQ h (.BA (v::l))=some v:=rfl
@[simp] theorem Bh {h:Heap}{n:Nat}{l:List AV}:Ac h (.BA l) n=if n<=l.length then some (l.take n) else none:=by
 simp only[Ac]
 by_cases hn:n<=l.length
 ·rw[if_pos hn,Nat.ble_eq_true_of_le hn]; rfl
 ·rw[if_neg hn]
  cases h:Nat.ble n l.length with
  |true=>exact absurd (Nat.le_of_ble_eq_true h) hn
  |false=>rfl
@[simp] theorem YO {o a n:Nat}:DI n (.AO o a) st=some (.AO o (a+n),st):=rfl
@[simp] theorem YN {l:List AV}{n:Nat}:DI n (.BA l) st=some (.BA (l.drop n),st):=rfl
@[simp] theorem ZK {o a:Nat}:CP (.AO o a) st=some (.AO o a,st):=rfl
@[simp] theorem ZJ {l:List AV}:CP (.BA l) st=some (.BA l,st):=rfl
@[simp] theorem az {f:Nat}{a b:List AV}:CP (.fn (.func f) a b) st=some (.fn (.func f) a b,st):=rfl
@[simp] theorem bC {k j:IntKind}{n:Int}:Hm k (.int j n) st=some (.int k (k.wrap n),st):=rfl
@[simp] theorem bA {l:List UInt8}:Ga (.str l) st=some (.str l,st):=rfl
@[simp] theorem bB {k:IntKind}{n:Nat}:Ga (.int k (n:Int)) st=if n<128 then some (.str [UInt8.ofNat n],st) else none:=rfl
@[simp] theorem ZL {l:List AV}{i:Nat}:GZ i (.tuple l) st=DX st l[i]?:=rfl
@[simp] theorem mZ {c:Bool}:un .not (.bool c)=some (.bool !c):=rfl
@[simp] theorem ma {k:IntKind}{n:Int}:un .neg (.int k n)=some (.int k (k.wrap (0-n))):=rfl
@[simp] theorem mJ {n m:Int}:bin .add (.int .i64 n) (.int .i64 m)=some (.int .i64 (IntKind.i64.wrap (n+m))):=rfl
@[simp] theorem lh {n m:Int}:bin .sub (.int .i64 n) (.int .i64 m)=some (.int .i64 (IntKind.i64.wrap (n-m))):=rfl
@[simp] theorem mD {n m:Int}:bin .mul (.int .i64 n) (.int .i64 m)=some (.int .i64 (IntKind.i64.wrap (n*m))):=rfl
@[simp] theorem lq {n m:Int}:bin .quo (.int .i64 n) (.int .i64 m)=if m=0 then none else some (.int .i64 (IntKind.i64.wrap (n.tdiv m))):=rfl
@[simp] theorem ll {n m:Int}:bin .rem (.int .i64 n) (.int .i64 m)=if m=0 then none else some (.int .i64 (n.tmod m)):=rfl
@[simp] theorem mI {n m:Int}:bin .eql (.int .i64 n) (.int .i64 m)=some (.bool (n==m)):=rfl
@[simp] theorem lu {n m:Int}:bin .neq (.int .i64 n) (.int .i64 m)=some (.bool (n !=m)):=rfl
@[simp] theorem mF {n m:Int}:bin .lss (.int .i64 n) (.int .i64 m)=some (.bool (decide (n<m))):=rfl
@[simp] theorem mG {n m:Int}:bin .leq (.int .i64 n) (.int .i64 m)=some (.bool (decide (n<=m))):=rfl
@[simp] theorem PW {n m:Int}:bin .gtr (.int .i64 n) (.int .i64 m)=some (.bool (decide (m<n))):=rfl
@[simp] theorem mH {n m:Int}:bin .geq (.int .i64 n) (.int .i64 m)=some (.bool (decide (m<=n))):=rfl
@[simp] theorem lC {n m:Int}:bin .eql (.int .u8 n) (.int .u8 m)=some (.bool (n==m)):=rfl
@[simp] theorem kr {n m:Int}:bin .neq (.int .u8 n) (.int .u8 m)=some (.bool (n !=m)):=rfl
@[simp] theorem ku {n m:Int}:bin .lss (.int .u8 n) (.int .u8 m)=some (.bool (decide (n<m))):=rfl
@[simp] theorem ky {n m:Int}:bin .leq (.int .u8 n) (.int .u8 m)=some (.bool (decide (n<=m))):=rfl
@[simp] theorem kz {n m:Int}:bin .gtr (.int .u8 n) (.int .u8 m)=some (.bool (decide (m<n))):=rfl
@[simp] theorem kE {n m:Int}:bin .geq (.int .u8 n) (.int .u8 m)=some (.bool (decide (m<=n))):=rfl
@[simp] theorem ko {n m:List UInt8}:bin .eql (.str n) (.str m)=some (.bool (n==m)):=rfl
@[simp] theorem kX {n m:List UInt8}:bin .neq (.str n) (.str m)=some (.bool !(n==m)):=rfl
@[simp] theorem kY {n m:List UInt8}:bin .lss (.str n) (.str m)=some (.bool (Op.bytesLess n m)):=rfl
@[simp] theorem VF {n m:List UInt8}:bin .leq (.str n) (.str m)=some (.bool (Op.bytesLess n m||n==m)):=rfl
@[simp] theorem kZ {n m:List UInt8}:bin .gtr (.str n) (.str m)=some (.bool !(Op.bytesLess n m||n==m)):=rfl
@[simp] theorem kg {n m:List UInt8}:bin .geq (.str n) (.str m)=some (.bool !(Op.bytesLess n m)):=rfl
@[simp] theorem jK {l:List UInt8}:BX .str (.str l) st=some (.int .i64 l.length,st):=rfl
@[simp] theorem jJ {h:Heap}{t:Nat}:Tg h ts (.tmp t)=some (ts.get t):=rfl
@[simp] theorem gG {h:Heap}{t:Nat}{a:Option Nat}:Tg h ts (.cell t a)=GR h a (ts.get t):=rfl
structure Ce (v:AV)(sz:Nat)(xs:List AV):Prop where
 out:(v=.AB/\xs=[])∨∃t,v=.list t sz xs
variable {v:AV}{sz:Nat}{xs:List AV}
theorem Ce.Zp (h:Ce v sz xs):Bl v=some xs.length:=by
 rcases h.out with⟨rfl,rfl⟩|⟨t,rfl⟩ <;> rfl
theorem Ce.len (h:Ce v sz xs):BX .slice v st=some (.int .i64 xs.length,st):=by
 rcases h.out with⟨rfl,rfl⟩|⟨t,rfl⟩ <;> rfl
theorem Ba (i:Nat):asNat (.int .i64 (i:Int))=some i:=rfl
theorem Ce.idx (h:Ce v sz xs){i:Nat}(hi:i<xs.length):AU sz v (.int .i64 i) st=some (.BA xs[i].cells,st):=by
 rcases h.out with⟨rfl,rfl⟩|⟨t,rfl⟩
 ·simp at hi
 ·have hb:Nat.beq sz sz=true:=Nat.beq_refl sz
  simp[AU,Ba,hb,hi]
end
@[simp] theorem St.eta (st:St):St.mk st.h st.c st.lo=st:=rfl
theorem wrap64 {n:Int}(h1:-9223372036854775808<=n)(h2:n<9223372036854775808):IntKind.i64.wrap n=n:=by
 exact IntWalk.i64_in n ⟨h1,by omega⟩
theorem wi (i:Nat)(h:(i:Int)+1<9223372036854775808:=by omega):IntKind.i64.wrap ((i:Int)+1)=(i:Int)+1:=wrap64 (by omega) h
end Go.Am
