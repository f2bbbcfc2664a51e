/- A part of the proof of beginningsTold (merged by a program). -/
import Derived.Test.YtehhlchbbdaipaaGreatDoorA
import Derived.IntWalk
namespace Go.Am
open Go
@[simp] theorem M.CE {α β:Type}(a:α)(f:α->M β):(M.ret a).bind f=f a:=rfl
@[simp] theorem M.sU {α β:Type}(f:α->M β):(M.fail:M α).bind f=.fail:=rfl
@[simp] theorem M.pV {α:Type}(a:α):M.CX (some a)=.ret a:=rfl
@[simp] theorem M.pW {α:Type}:M.CX (none:Option α)=.fail:=rfl
@[simp] theorem M.vR {α:Type}(a:α)(Q:α->Prop):(M.ret a).all Q↔Q a:=Iff.rfl
@[simp] theorem M.uf {α:Type}(Q:α->Prop):(M.fail:M α).all Q↔False:=Iff.rfl
theorem TS.jb (j:Nat):TS.nil.get j=.undef:=rfl
theorem TS.Xl (v:AV):∀(n i j:Nat),i+1<2 ^ n->(TS.single v n i).get j=if i=j then v else .undef:=by
 intro n
 induction n with
 |zero=>intro i j h; simp at h
 |succ n ih=>
  intro i j h
  have hb:∀a b:Nat,Nat.beq a b=decide (a=b):=fun a b=>by
   cases h:Nat.beq a b with
   |true=>simp[Nat.eq_of_beq_eq_true h]
   |false=>simp[Nat.ne_of_beq_eq_false h]
  have h2:2 ^ (n+1)=2*2 ^ n:=by rw[Nat.pow_succ]; omega
  simp only[TS.single,hb,cond_eq_ite,decide_eq_true_eq]
  by_cases hi:i=0
  ·subst hi
   simp only[if_true]
   rw[TS.get]
   simp only[hb,cond_eq_ite,decide_eq_true_eq]
   by_cases hj:j=0
   ·simp[hj]
   ·have:¬(0=j):=by omega
    simp only[hj,this,if_false]; split <;> rfl
  ·rw[if_neg hi]
   by_cases h1:i % 2=1
   ·rw[if_pos h1,TS.get]
    simp only[hb,cond_eq_ite,decide_eq_true_eq]
    by_cases hj:j=0
    ·rw[if_pos hj,if_neg (by omega)]
    ·rw[if_neg hj]
     by_cases hj1:j % 2=1
     ·rw[if_pos hj1,ih _ _ (by omega)]
      by_cases e:i=j
      ·simp[e]
      ·rw[if_neg e,if_neg (by omega)]
     ·rw[if_neg hj1,if_neg (by omega)]; rfl
   ·rw[if_neg h1,TS.get]
    simp only[hb,cond_eq_ite,decide_eq_true_eq]
    by_cases hj:j=0
    ·rw[if_pos hj,if_neg (by omega)]
    ·rw[if_neg hj]
     by_cases hj1:j % 2=1
     ·rw[if_pos hj1,if_neg (by omega)]; rfl
     ·rw[if_neg hj1,ih _ _ (by omega)]
      by_cases e:i=j
      ·simp[e]
      ·rw[if_neg e,if_neg (by omega)]
theorem TS.TC (v:AV):∀(t:TS) (i j:Nat),i<65535->(t.set i v).get j=if i=j then v else t.get j:=by
 have hb:∀a b:Nat,Nat.beq a b=decide (a=b):=fun a b=>by
  cases h:Nat.beq a b with
  |true=>simp[Nat.eq_of_beq_eq_true h]
  |false=>simp[Nat.ne_of_beq_eq_false h]
 intro t
 induction t with
 |nil=>intro i j h; rw[TS.set,TS.Xl v 16 i j (by omega)]; rfl
 |node u l r ihl ihr=>
  intro i j h
  rw[TS.set]
  simp only[hb,cond_eq_ite,decide_eq_true_eq]
  by_cases hi:i=0
  ·subst hi
   simp only[if_true]
   rw[TS.get,TS.get]
   simp only[hb,cond_eq_ite,decide_eq_true_eq]
   by_cases hj:j=0
   ·simp[hj]
   ·have:¬(0=j):=by omega
    simp only[hj,this,if_false]
  ·rw[if_neg hi]
   by_cases h1:i % 2=1
   ·rw[if_pos h1,TS.get,TS.get]
    simp only[hb,cond_eq_ite,decide_eq_true_eq]
    by_cases hj:j=0
    ·rw[if_pos hj,if_pos hj,if_neg (by omega)]
    ·rw[if_neg hj,if_neg hj]
     by_cases hj1:j % 2=1
     ·rw[if_pos hj1,if_pos hj1,ihl _ _ (by omega)]
      by_cases e:i=j
      ·simp[e]
      ·rw[if_neg e,if_neg (by omega)]
     ·rw[if_neg hj1,if_neg hj1,if_neg (by omega)]
   ·rw[if_neg h1,TS.get,TS.get]
    simp only[hb,cond_eq_ite,decide_eq_true_eq]
    by_cases hj:j=0
    ·rw[if_pos hj,if_pos hj,if_neg (by omega)]
    ·rw[if_neg hj,if_neg hj]
     by_cases hj1:j % 2=1
     ·rw[if_pos hj1,if_pos hj1,if_neg (by omega)]
     ·rw[if_neg hj1,if_neg hj1,ihr _ _ (by omega)]
      by_cases e:i=j
      ·simp[e]
      ·rw[if_neg e,if_neg (by omega)]
def M.to {α:Type}(m:M α)(R:α->Prop):Prop:=∃a,m=.ret a/\R a
@[simp] theorem M.iR {α:Type}(a:α)(R:α->Prop):(M.ret a).to R↔R a:=⟨fun⟨b,h,r⟩=>by cases h; exact r,fun r=>⟨a,rfl,r⟩⟩
@[simp] theorem M.vW {α:Type}(R:α->Prop):(M.fail:M α).to R↔False:=⟨fun⟨b,h,r⟩=>(by cases h),False.elim⟩
theorem M.Al {α β:Type}{m:M α}{f:α->M β}{R:α->Prop}{S:β->Prop}(h:m.to R)(k:∀a,R a->(f a).to S):(m.bind f).to S:=by
 obtain⟨a,rfl,r⟩:=h
 exact k a r
theorem M.VG {α:Type}{m:M α}{R S:α->Prop}(h:m.to R)(k:∀a,R a->S a):m.to S:=by
 obtain⟨a,e,r⟩:=h
 exact⟨a,e,k a r⟩
theorem M.to_eq {α:Type}{m:M α}{a:α}(h:m.to (·=a)):m=.ret a:=by
 obtain⟨b,e,r⟩:=h; rw[e,r]
theorem M.Jn {α:Type}{m:M α}{R S:α->Prop}(h:m.all R)(k:∀a,R a->S a):m.all S:=by
 induction m with
 |ret a=>exact k a h
 |fail=>exact h
 |ask n f ih=>exact fun i hi=>ih i (h i hi)
theorem M.Jo {α β:Type}{m:M α}{f:α->M β}{S:β->Prop}:(m.bind f).all S↔m.all fun a=>(f a).all S:=by
 induction m with
 |ret a=>exact Iff.rfl
 |fail=>exact Iff.rfl
 |ask n k ih=>exact⟨fun h i hi=>(ih i).1 (h i hi),fun h i hi=>(ih i).2 (h i hi)⟩
theorem DU {body:TS->St->M (Hd × TS × St)}{α:Type}(I:α->TS->St->Prop)(m:α->Nat)(R:Hd->TS->St->Prop)(step:∀a ts st,I a ts st->(body ts st).to fun r=>match r.1 with
 |.normal=>∃b,m b<m a/\I b r.2.1 r.2.2
 |e=>R e r.2.1 r.2.2) :
 ∀(k:Nat) (a:α) (ts:TS) (st:St),m a<k->I a ts st->(CJ body k ts st).to fun r=>R r.1 r.2.1 r.2.2:=by
 intro k
 induction k with
 |zero=>intro a ts st h; omega
 |succ k ih=>
  intro a ts st h hI
  rw[CJ]
  refine M.Al (step a ts st hI) fun r hr=>?_
  obtain⟨e,ts',st'⟩:=r
  cases e with
  |normal=>obtain⟨b,h1,h2⟩:=hr; exact ih b _ _ (by omega) h2
  |exit i=>exact (M.iR _ _).2 hr
  |ret=>exact (M.iR _ _).2 hr
theorem Be {body:TS->St->M (Hd × TS × St)}{α:Type}{P:Hd × TS × St->Prop}(I:α->TS->St->Prop)(m:α->Nat)(step:∀a ts st,I a ts st->(body ts st).to fun r=>match r.1 with
 |.normal=>∃b,m b<m a/\I b r.2.1 r.2.2
 |_=>P r)(k:Nat)(a:α)(ts:TS)(st:St)(h:m a<k)(hI:I a ts st):(CJ body k ts st).to P:=
 DU I m (fun e ts st=>P (e,ts,st)) (fun a ts st h=>M.VG (step a ts st h) fun r hr=>by
  obtain⟨e,ts',st'⟩:=r
  cases e <;> exact hr) k a ts st h hI
theorem gN {body:TS->St->M (Hd × TS × St)}{α:Type}(I:α->TS->St->Prop)(m:α->Nat)(R:Hd->TS->St->Prop)(step:∀a ts st,I a ts st->(body ts st).all fun r=>match r.1 with
 |.normal=>∃b,m b<m a/\I b r.2.1 r.2.2
 |e=>R e r.2.1 r.2.2) :
 ∀(k:Nat) (a:α) (ts:TS) (st:St),m a<k->I a ts st->(CJ body k ts st).all fun r=>R r.1 r.2.1 r.2.2:=by
 intro k
 induction k with
 |zero=>intro a ts st h; omega
 |succ k ih=>
  intro a ts st h hI
  rw[CJ,M.Jo]
  refine M.Jn (step a ts st hI) fun r hr=>?_
  obtain⟨e,ts',st'⟩:=r
  cases e with
  |normal=>obtain⟨b,h1,h2⟩:=hr; exact ih b _ _ (by omega) h2
  |exit i=>exact hr
  |ret=>exact hr
section
variable {E:Env}{n f:Nat}{fn:Bh}{args:List AV}{st:St}
theorem ai {g:List AV->Option AV}{v:AV}(hh:E.QN f=some g)(hv:g args=some v):AU E (n+1) f args st=.ret (v,st):=by
 unfold AU; rw[hh]; simp only[hv]
theorem Ap (hh:E.QN f=none)(hc:E.code f=some fn)(hp:fn.kY=.BG):AU E (n+1) f args st=Dj E (AU E n) fn args st:=by
 rw[AU]; simp only[hh,hc,hp]
theorem UE (hh:E.QN f=none)(hc:E.code f=some fn)(hp:fn.kY=.own):AU E (n+1) f args st=(Dj E (AU E n) fn args st).bind (Gz st.c):=by
 rw[AU]; simp only[hh,hc,hp]
theorem BS (hh:E.QN f=none)(hc:E.code f=some fn)(hp:fn.kY=.pure):AU E (n+1) f args st=(Dj E (AU E n) fn args { st with lo:=st.c }).bind (BA st.c st):=by
 rw[AU]; simp only[hh,hc,hp]
theorem ah (hh:E.QN f=none)(hc:E.code f=some fn)(hp:fn.kY=.lN):AU E (n+1) f args st=Gl st ((Dj E (AU E n) fn args { st with lo:=st.c }).bind (BA st.c st)):=by
 rw[AU]; simp only[hh,hc,hp]
theorem BZ (hh:E.QN f=none)(hc:E.code f=some fn)(hp:fn.kY=.DN)(ha:AV.CL 0 args=true):AU E (n+1) f args st=(Dj E (AU E n) fn args ⟨[],0,0⟩).bind (BA 0 st):=by
 rw[AU]; simp only[hh,hc,hp,ha,cond_true]
end
inductive M.Le {α:Type}:M α->M α->Prop
 |fail (m:M α):M.Le .fail m
 |ret (a:α):M.Le (.ret a) (.ret a)
 |ask (n:Nat) (k k':Nat->M α) (h:∀i,M.Le (k i) (k' i)):M.Le (.ask n k) (.ask n k')
theorem M.Le.refl {α:Type}(m:M α):M.Le m m:=by
 induction m with
 |ret a=>exact .ret a
 |fail=>exact .fail _
 |ask n k ih=>exact .ask n k k ih
theorem M.Le.bind {α β:Type}{m m':M α}{f f':α->M β}(h:M.Le m m')(hf:∀a,M.Le (f a) (f' a)):M.Le (m.bind f) (m'.bind f'):=by
 induction h with
 |fail m=>exact .fail _
 |ret a=>exact hf a
 |ask n k k' _ ih=>exact .ask n _ _ ih
theorem M.Le.all {α:Type}{m m':M α}{Q:α->Prop}(h:M.Le m m')(hq:m.all Q):m'.all Q:=by
 induction h with
 |fail m=>exact hq.elim
 |ret a=>exact hq
 |ask n k k' _ ih=>exact fun i hi=>ih i (hq i hi)
theorem M.Le.eq {α:Type}{m m':M α}{a:α}(h:M.Le m m')(e:m=.ret a):m'=.ret a:=by
 subst e; cases h; rfl
theorem M.Le.leftmost {α:Type}{m m':M α}{r:α}(h:M.Le m m')(e:m.leftmost=some r):m'.leftmost=some r:=by
 induction h with
 |fail m=>cases e
 |ret a=>exact e
 |ask n k k' _ ih=>exact ih 0 e
theorem M.Le.TY {α:Type}{m m':M α}{f:α->Bool}(h:M.Le m m')(e:m.TY f=true):m'.TY f=true:=by
 induction h with
 |fail m=>cases e
 |ret a=>exact e
 |ask n k k' _ ih=>exact List.all_eq_true.2 fun i hi=>ih i (List.all_eq_true.1 e i hi)
theorem VV {st:St}{m m':M (AV × St)}(h:M.Le m m'):M.Le (Gl st m) (Gl st m'):=by
 unfold Gl
 cases e:m.leftmost with
 |none=>exact .fail _
 |some r=>
  rw[h.leftmost e]
  simp only
  cases e2:m.TY fun r'=>AV.beq r.1 r'.1 with
  |false=>exact .fail _
  |true=>rw[h.TY e2]; exact .ret _
section
variable {E:Env}{call call':Nat->List AV->St->M (AV × St)}(hc:∀f args st,M.Le (call f args st) (call' f args st))
 include hc
theorem rU (s:Nat)(k:AK)(args:List AV)(st:St):M.Le (Ha E call s k args st) (Ha E call' s k args st):=by
 cases k <;> try exact M.Le.refl _
 case call f=>exact hc f args st
 case Dz=>
  show M.Le (LP call args st) (LP call' args st)
  unfold LP
  split
  ·exact hc _ _ _
  ·exact .fail _
 case invoke name=>
  show M.Le (callMethod E call name args st) (callMethod E call' name args st)
  unfold callMethod
  split
  ·split
   ·exact hc _ _ _
   ·exact .fail _
  ·exact .fail _
theorem bu (s:Nat)(o:Cj)(ts:TS)(st:St):M.Le (KS E call s o ts st) (KS E call' s o ts st):=by
 unfold KS
 cases wanted o.guard ts
 ·exact .ret _
 ·exact (rU hc _ _ _ _).bind fun _=>.ret _
theorem bn (s:Nat):∀(l:List Cj) (ts:TS) (st:St),M.Le (IY E call s l ts st) (IY E call' s l ts st)
 |[],_,_=>.ret _
 |o::l,ts,st=>(bu hc s o ts st).bind fun r=>bn s l r.1 r.2
theorem Yg (s:Nat):∀(l:List (Nat × Cj × List Nat)) (p:MZ) (ts:TS) (st:St),M.Le (Dp E call s l p ts st) (Dp E call' s l p ts st)
 |[],_,_,_=>.ret _
 |(i,o,js)::l,p,ts,st=>(bu hc s o ts st).bind fun r=>by
  cases h:Iw s i p r.2
  ·exact .fail _
  ·exact Yg s l _ _ _
 omit hc in
theorem Yb {b b':TS->St->M (Hd × TS × St)}(h:∀ts st,M.Le (b ts st) (b' ts st)):∀(n:Nat) (ts:TS) (st:St),M.Le (CJ b n ts st) (CJ b' n ts st)
 |0,_,_=>.fail _
 |n+1,ts,st=>(h ts st).bind fun r=>by
  obtain⟨e,ts',st'⟩:=r
  cases e
  ·exact Yb h n ts' st'
  ·exact .ret _
  ·exact .ret _
theorem kP:∀(c:Ag) (ts:TS) (st:St),M.Le (Ar E call c ts st) (Ar E call' c ts st):=by
 intro c
 induction c with
 |skip=>intro ts st; exact .ret _
 |region na l=>intro ts st; exact (bn hc _ _ _ _).bind fun _=>.ret _
 |draw na l=>intro ts st; exact (Yg hc _ _ _ _ _).bind fun _=>.ret _
 |seq a b iha ihb=>
  intro ts st
  refine (iha ts st).bind fun r=>?_
  obtain⟨e,ts',st'⟩:=r
  cases e
  ·exact ihb ts' st'
  ·exact .ret _
  ·exact .ret _
 |cond o a b iha ihb=>
  intro ts st
  show M.Le (match ev ts o with|.bool t=>bif t then Ar E call a ts st else Ar E call b ts st|_=>.fail) (match ev ts o with|.bool t=>bif t then Ar E call' a ts st else Ar E call' b ts st|_=>.fail)
  split
  ·rename_i t _; cases t
   ·exact ihb ts st
   ·exact iha ts st
  ·exact .fail _
 |block id a ih=>
  intro ts st
  refine (ih ts st).bind fun r=>?_
  obtain⟨e,ts',st'⟩:=r
  cases e <;> exact .ret _
 |loop a ih=>intro ts st; exact Yb ih _ _ _
 |exit id=>intro ts st; exact .ret _
 |ret=>intro ts st; exact .ret _
 |bad=>intro ts st; exact .fail _
theorem NL (fn:Bh)(args:List AV)(st:St):M.Le (Dj E call fn args st) (Dj E call' fn args st):=by
 unfold Dj
 cases Nat.ble args.length 1000
 ·exact .fail _
 ·exact (kP hc _ _ _).bind fun _=>M.Le.refl _
end
theorem Yk (E:Env):∀(n f:Nat) (args:List AV) (st:St),M.Le (AU E n f args st) (AU E (n+1) f args st):=by
 intro n
 induction n with
 |zero=>intro f args st; exact .fail _
 |succ n ih=>
  intro f args st
  rw[AU,AU]
  cases hh:E.QN f with
  |some g=>exact M.Le.refl _
  |none=>
   cases hc:E.code f with
   |none=>exact M.Le.refl _
   |some fn=>
    simp only
    split
    ·exact NL ih _ _ _
    ·exact (NL ih _ _ _).bind fun _=>M.Le.refl _
    ·exact (NL ih _ _ _).bind fun _=>M.Le.refl _
    ·exact VV ((NL ih _ _ _).bind fun _=>M.Le.refl _)
    ·cases AV.CL 0 args
     ·exact M.Le.refl _
     ·exact (NL ih _ _ _).bind fun _=>M.Le.refl _
theorem OY {E:Env}{n f:Nat}{args:List AV}{st:St}{r:AV × St}(h:AU E n f args st=.ret r)(k:Nat):AU E (n+k) f args st=.ret r:=by
 induction k with
 |zero=>exact h
 |succ k ih=>exact (Yk E (n+k) f args st).eq ih
theorem TZ {E:Env}{n f:Nat}{args:List AV}{st:St}{Q:AV × St->Prop}(h:(AU E n f args st).all Q)(k:Nat):(AU E (n+k) f args st).all Q:=by
 induction k with
 |zero=>exact h
 |succ k ih=>exact (Yk E (n+k) f args st).all ih
section
variable {E:Env}{call:Nat->List AV->St->M (AV × St)}{s d q:Nat}{k:AK}{args:List II}{ops:List Cj}{ts:TS}{st:St}{b:Bool}
@[simp] theorem Ya:IY E call s [] ts st=.ret (ts,st):=rfl
@[simp] theorem kH:IY E call s (⟨some d,none,k,args⟩::ops) ts st=(Ha E call s k (Ul ts args) st).bind fun r=>IY E call s ops (ts.set d r.1) r.2:=by
 simp only[IY,KS,wanted,cond_true,put]
 cases Ha E call s k (Ul ts args) st <;> simp[M.bind]
 rename_i n f
 funext i
 induction f i with
 |ret a=>rfl
 |fail=>rfl
 |ask n k ih=>simp only[M.bind]; congr 1; funext j; exact ih j
@[simp] theorem wh:IY E call s (⟨none,none,k,args⟩::ops) ts st=(Ha E call s k (Ul ts args) st).bind fun r=>IY E call s ops ts r.2:=by
 simp only[IY,KS,wanted,cond_true,put]
 cases Ha E call s k (Ul ts args) st <;> simp[M.bind]
 rename_i n f
 funext i
 induction f i with
 |ret a=>rfl
 |fail=>rfl
 |ask n k ih=>simp only[M.bind]; congr 1; funext j; exact ih j
theorem KJ:IY E call s (⟨some d,some (q,b),k,args⟩::ops) ts st=bif isBool b (ts.get q) then IY E call s (⟨some d,none,k,args⟩::ops) ts st else IY E call s ops (ts.set d .undef) st:=by
 rw[IY,KS]
 simp only[wanted,put]
 cases isBool b (ts.get q)
 ·simp
 ·simp only[cond_true,IY,KS,wanted,put]
@[simp] theorem sW {p:MZ}:Dp E call s [] p ts st=.ret (ts,st):=rfl
@[simp] theorem M.bind_assoc {α β γ:Type}(m:M α)(f:α->M β)(g:β->M γ):(m.bind f).bind g=m.bind fun a=>(f a).bind g:=by
 induction m with
 |ret a=>rfl
 |fail=>rfl
 |ask n k ih=>simp only[M.bind]; congr 1; funext i; exact ih i
@[simp] theorem wG {i:Nat}{l:List (Nat × Cj × List Nat)}:Dp E call s ((i,⟨some d,none,k,args⟩,[])::l) [] ts st=(Ha E call s k (Ul ts args) st).bind fun r=>Dp E call s l [] (ts.set d r.1) r.2:=by
 simp only[Dp,KS,wanted,cond_true,put,M.bind_assoc,M.CE,Iw,QC]
@[simp] theorem wF {i:Nat}{l:List (Nat × Cj × List Nat)}:Dp E call s ((i,⟨none,none,k,args⟩,[])::l) [] ts st=(Ha E call s k (Ul ts args) st).bind fun r=>Dp E call s l [] ts r.2:=by
 simp only[Dp,KS,wanted,cond_true,put,M.bind_assoc,M.CE,Iw,QC]
theorem bE {i:Nat}{l:List (Nat × Cj × List Nat)}:Dp E call s ((i,⟨some d,some (q,b),k,args⟩,[])::l) [] ts st=bif isBool b (ts.get q) then Dp E call s ((i,⟨some d,none,k,args⟩,[])::l) [] ts st else Dp E call s l [] (ts.set d .undef) st:=by
 rw[Dp,KS]
 simp only[wanted,put]
 cases isBool b (ts.get q)
 ·simp[Iw,QC]
 ·simp only[cond_true,Dp,KS,wanted,put,QC]
@[simp] theorem bR:Ul ts []=[]:=rfl
@[simp] theorem bQ {j:Nat}{l:List II}:Ul ts (.tmp j::l)=ts.get j::Ul ts l:=rfl
@[simp] theorem mW {v:AV}{l:List II}:Ul ts (.val v::l)=v::Ul ts l:=rfl
@[simp] theorem rC {j:Nat}:ev ts (.tmp j)=ts.get j:=rfl
@[simp] theorem wW {v:AV}:ev ts (.val v)=v:=rfl
@[simp] theorem oJ {c:Bool}:isBool b (.bool c)=(c==b):=rfl
 attribute [simp] TS.TC
 attribute [simp] TS.jb
@[simp] theorem Zb {i:Nat}{t:TS}:TS.CY [] i t=t:=rfl
@[simp] theorem XA {i:Nat}{t:TS}{v:AV}{l:List AV}:TS.CY (v::l) i t=TS.CY l (i+1) (t.set i v):=rfl
@[simp] theorem rV:Ar E call .skip ts st=.ret (.normal,ts,st):=rfl
@[simp] theorem Ph {na:Nat}:Ar E call (.region na ops) ts st=(IY E call st.c ops ts { st with c:=st.c+na }).bind fun r=>.ret (.normal,r):=rfl
@[simp] theorem rX {na:Nat}{l:List (Nat × Cj × List Nat)}:Ar E call (.draw na l) ts st=(Dp E call st.c l [] ts { st with c:=st.c+na }).bind fun r=>.ret (.normal,r):=rfl
@[simp] theorem Nh {a c:Ag}:Ar E call (.seq a c) ts st=(Ar E call a ts st).bind fun r=>match r.1 with
 |.normal=>Ar E call c r.2.1 r.2.2
 |_=>.ret r:=rfl
@[simp] theorem af {o:II}{a c:Ag}:Ar E call (.cond o a c) ts st=match ev ts o with
 |.bool t=>bif t then Ar E call a ts st else Ar E call c ts st
 |_=>.fail:=rfl
@[simp] theorem Yi {id:Nat}{a:Ag}:Ar E call (.block id a) ts st=(Ar E call a ts st).bind fun r=>match r.1 with
 |.exit i=>.ret (bif Nat.beq i id then .normal else .exit i,r.2)
 |_=>.ret r:=rfl
@[simp] theorem aa {a:Ag}:Ar E call (.loop a) ts st=CJ (Ar E call a) E.k ts st:=rfl
@[simp] theorem rW {id:Nat}:Ar E call (.exit id) ts st=.ret (.exit id,ts,st):=rfl
@[simp] theorem sZ:Ar E call .ret ts st=.ret (.ret,ts,st):=rfl
theorem Ad {fn:Bh}{l:List AV}(h:l.length<=1000):Dj E call fn l st=(Ar E call fn.body (TS.CY l 0 .nil) st).bind (leave fn.results):=by
 unfold Dj
 have:Nat.ble l.length 1000=true:=Nat.ble_eq_true_of_le h
 rw[this]; rfl
variable {x y z:AV}{op:BinOp}
@[simp] theorem gZ:Ha E call s .move [x] st=.ret (x,st):=rfl
@[simp] theorem wI:Ha E call s .pick [x,y,z] st=M.CX (Mi x y z st):=rfl
@[simp] theorem vP {id ty sz:Nat}{zero:List AV}:Ha E call s (.alloc id ty sz zero) [] st=M.CX (Cm (.AO (s+id) 0) (newObj (s+id) (.cells ty sz zero false) st)):=rfl
@[simp] theorem xC {id ty sz:Nat}:Ha E call s (.box id ty sz) [x] st=M.CX (Nj (s+id) (Dr (s+id) ty sz x) st):=rfl
@[simp] theorem vO {zero:List AV}{places:List (Nat × Nat)}{l:List AV}:Ha E call s (.build zero places) l st=M.CX (FJ st ((BB zero places l).map .agg)):=rfl
@[simp] theorem lD {id ty sz len:Nat}{zero:List AV}{offs:List Nat}{l:List AV}:Ha E call s (.buildSlice id ty sz len zero offs) l st=M.CX (Nj (s+id) (Ay (s+id) ty sz len zero offs l) st):=rfl
@[simp] theorem wK {agg:Option Nat}:Ha E call s (.load agg) [x] st=M.CX (FJ st (Hw st.h agg x)):=rfl
@[simp] theorem vH {n:Nat}:Ha E call s (.store n) [x,y] st=M.CX (Bc n x y st):=rfl
@[simp] theorem oQ:Ha E call s .nilCheck [x] st=M.CX (Dv x st):=rfl
@[simp] theorem xD:Ha E call s (.bin op) [x,y] st=M.CX (FJ st (bin op x y)):=rfl
@[simp] theorem xJ {neg:Bool}{k:EK}:Ha E call s (.eq neg k) [x,y] st=M.CX (FJ st (YA neg k x y)):=rfl
@[simp] theorem xI {op:UnOp}:Ha E call s (.un op) [x] st=M.CX (FJ st (un op x)):=rfl
@[simp] theorem sK {k:IntKind}:Ha E call s (.CG k) [x] st=M.CX (JC k x st):=rfl
@[simp] theorem sH:Ha E call s .Kb [x] st=M.CX (JB x st):=rfl
@[simp] theorem sJ {id ty:Nat}:Ha E call s (.JQ id ty) [x] st=M.CX (Nj (s+id) (Pe (s+id) ty x) st):=rfl
@[simp] theorem sM:Ha E call s .Kc [x] st=M.CX (Jh x st):=rfl
@[simp] theorem wJ {f:Fn}{n:Nat}{l:List AV}:Ha E call s (.Ht f n) l st=.ret (.fn f (l.take n) (l.drop n),st):=rfl
@[simp] theorem vJ {id:Nat}:Ha E call s (.mkMap id) [] st=M.CX (Cm (.Bv (s+id)) (newObj (s+id) (.map [] [] [] 0) st)):=rfl
@[simp] theorem sF {id ty sz bytes:Nat}{zero:List AV}:Ha E call s (.mkSlice id ty sz bytes zero) [x,y] st=M.CX (Nj (s+id) (GH (s+id) ty sz bytes zero x y) st):=rfl
@[simp] theorem oP {lo hi:Bool}{l:List AV}:Ha E call s (.Dt lo hi) l st=M.CX (Hq lo hi l st):=rfl
@[simp] theorem vI {sz:Nat}{lo hi mx:Bool}{l:List AV}:Ha E call s (.slice sz lo hi mx) l st=M.CX (CF sz lo hi mx l st):=rfl
@[simp] theorem ng {off:Nat}:Ha E call s (.fieldAddr off) [x] st=M.CX (Dn off x st):=rfl
@[simp] theorem vK {off:Nat}{agg:Option Nat}:Ha E call s (.field off agg) [x] st=M.CX (Na off agg x st):=rfl
@[simp] theorem nZ {sz:Nat}:Ha E call s (.indexAddr sz) [x,y] st=M.CX (Aa sz x y st):=rfl
@[simp] theorem oZ {len sz:Nat}:Ha E call s (.Gb len sz) [x,y] st=M.CX (JA len sz x y st):=rfl
@[simp] theorem oW:Ha E call s .Co [x,y] st=M.CX (DC x y st):=rfl
@[simp] theorem sj {kk:KK}{zero:AV}{ok:Bool}:Ha E call s (.lookup kk zero ok) [x,y] st=M.CX (DR kk zero ok x y st):=rfl
@[simp] theorem nY {kk:KK}:Ha E call s (.mapUpdate kk) [x,y,z] st=M.CX (Cg kk x y z st):=rfl
@[simp] theorem oV {kk:KK}{zero:AV}:Ha E call s (.mapEntry kk zero) [x,y] st=M.CX (Jz kk zero x y st):=rfl
@[simp] theorem lC:Ha E call s .entryStore [x,y,z] st=M.CX (Ib x y z st):=rfl
@[simp] theorem Yw {id:Nat}:Ha E call s (.rangeMap id) [x] st=M.CX (Hr (s+id) x st):=rfl
@[simp] theorem oU {l:List AV}:Ha E call s .next l st=Lt l st:=rfl
@[simp] theorem vL:Ha E call s .entry [x] st=M.CX (KV x st):=rfl
@[simp] theorem dG {i:Nat}:Ha E call s (.extract i) [x] st=M.CX (IL i x st):=rfl
@[simp] theorem wE {k:LK}:Ha E call s (.len k) [x] st=M.CX (BO k x st):=rfl
@[simp] theorem xB:Ha E call s .cap [x] st=M.CX (Nn x st):=rfl
@[simp] theorem wy {l:List AV}:Ha E call s .min l st=M.CX (Ql l st):=rfl
@[simp] theorem wz {l:List AV}:Ha E call s .max l st=M.CX (Qm l st):=rfl
@[simp] theorem su {id ty sz bytes:Nat}:Ha E call s (.append id ty sz bytes) [x,y] st=M.CX (BU (s+id) ty sz bytes x y st):=rfl
@[simp] theorem ni {id ty:Nat}:Ha E call s (.LU id ty) [x,y] st=M.CX (JV (s+id) ty x y st):=rfl
@[simp] theorem wL {sz:Nat}:Ha E call s (.copy sz) [x,y] st=M.CX (Lp sz x y st):=rfl
@[simp] theorem vM {zero:List AV}:Ha E call s (.clear zero) [x] st=M.CX (Dk zero x st):=rfl
@[simp] theorem si:Ha E call s .Me [x] st=M.CX (JU x st):=rfl
@[simp] theorem vG {ty n:Nat}:Ha E call s (.Oe ty n) [x] st=M.CX (NZ ty n x st):=rfl
@[simp] theorem oO {ty:Nat}:Ha E call s (.Kt ty) [x,y] st=M.CX (Jy ty x y st):=rfl
@[simp] theorem wM {f:Nat}{l:List AV}:Ha E call s (.call f) l st=call f l st:=rfl
@[simp] theorem vN {f:Nat}{a b l:List AV}:Ha E call s .Dz (.fn (.func f) a b::l) st=call f (a++(l++b)) st:=rfl
@[simp] theorem xA {e:Ext}{l:List AV}:Ha E call s (.ext e) l st=M.CX (bG e l st):=rfl
@[simp] theorem sG {t:Nat}:Ha E call s (.Cr t) [x] st=.ret (.iface t x,st):=rfl
@[simp] theorem fD {v:AV}:FJ st (some v)=some (v,st):=rfl
@[simp] theorem sS:FJ st none=none:=rfl
@[simp] theorem Vh {v:AV}{st':St}:Cm v (some st')=some (v,st'):=rfl
@[simp] theorem sV {o:Nat}{v:AV}{ob:Ai}:Nj o (some (v,ob)) st=Cm v (newObj o ob st):=rfl
@[simp] theorem oC {c:Bool}:Mi (.bool c) x y st=some (bif c then x else y,st):=rfl
@[simp] theorem oH {h:Af}:Hw h none x=AP h x:=rfl
@[simp] theorem oG {h:Af}{n:Nat}:Hw h (some n) x=(AZ h x n).map .agg:=rfl
@[simp] theorem kX {h:Af}{v:AV}{l:List AV}:AP h (.BC (v::l))=some v:=rfl
@[simp] theorem Aw {h:Af}{n:Nat}{l:List AV}:AZ h (.BC l) n=if n<=l.length then some (l.take n) else none:=by
 simp only[AZ]
 by_cases hn:n<=l.length
 ·rw[if_pos hn,Nat.ble_eq_true_of_le hn]; rfl
 ·rw[if_neg hn]
  cases h:Nat.ble n l.length with
  |true=>exact absurd (Nat.le_of_ble_eq_true h) hn
  |false=>rfl
@[simp] theorem dh {o a n:Nat}:Dn n (.AO o a) st=some (.AO o (a+n),st):=rfl
@[simp] theorem df {l:List AV}{n:Nat}:Dn n (.BC l) st=some (.BC (l.drop n),st):=rfl
@[simp] theorem gV {o a:Nat}:Dv (.AO o a) st=some (.AO o a,st):=rfl
@[simp] theorem gU {l:List AV}:Dv (.BC l) st=some (.BC l,st):=rfl
@[simp] theorem kZ {f:Nat}{a b:List AV}:Dv (.fn (.func f) a b) st=some (.fn (.func f) a b,st):=rfl
@[simp] theorem ko {k j:IntKind}{n:Int}:JC k (.int j n) st=some (.int k (k.wrap n),st):=rfl
@[simp] theorem kg {l:List UInt8}:JB (.str l) st=some (.str l,st):=rfl
@[simp] theorem gW {l:List AV}{i:Nat}:IL i (.tuple l) st=FJ st l[i]?:=rfl
@[simp] theorem wN {c:Bool}:un .not (.bool c)=some (.bool !c):=rfl
@[simp] theorem wO {k:IntKind}{n:Int}:un .neg (.int k n)=some (.int k (k.wrap (0-n))):=rfl
@[simp] theorem wC {n m:Int}:bin .add (.int .i64 n) (.int .i64 m)=some (.int .i64 (IntKind.i64.wrap (n+m))):=rfl
@[simp] theorem vZ {n m:Int}:bin .sub (.int .i64 n) (.int .i64 m)=some (.int .i64 (IntKind.i64.wrap (n-m))):=rfl
@[simp] theorem vo {n m:Int}:bin .mul (.int .i64 n) (.int .i64 m)=some (.int .i64 (IntKind.i64.wrap (n*m))):=rfl
@[simp] theorem vg {n m:Int}:bin .quo (.int .i64 n) (.int .i64 m)=if m=0 then none else some (.int .i64 (IntKind.i64.wrap (n.tdiv m))):=rfl
@[simp] theorem ve {n m:Int}:bin .rem (.int .i64 n) (.int .i64 m)=if m=0 then none else some (.int .i64 (n.tmod m)):=rfl
@[simp] theorem wB {n m:Int}:bin .eql (.int .i64 n) (.int .i64 m)=some (.bool (n==m)):=rfl
@[simp] theorem vk {n m:Int}:bin .neq (.int .i64 n) (.int .i64 m)=some (.bool (n != m)):=rfl
@[simp] theorem vw {n m:Int}:bin .lss (.int .i64 n) (.int .i64 m)=some (.bool (decide (n<m))):=rfl
@[simp] theorem vz {n m:Int}:bin .leq (.int .i64 n) (.int .i64 m)=some (.bool (decide (n<=m))):=rfl
@[simp] theorem Rq {n m:Int}:bin .gtr (.int .i64 n) (.int .i64 m)=some (.bool (decide (m<n))):=rfl
@[simp] theorem vE {n m:Int}:bin .geq (.int .i64 n) (.int .i64 m)=some (.bool (decide (m<=n))):=rfl
@[simp] theorem vB {n m:Int}:bin .eql (.int .u8 n) (.int .u8 m)=some (.bool (n==m)):=rfl
@[simp] theorem uu {n m:Int}:bin .neq (.int .u8 n) (.int .u8 m)=some (.bool (n != m)):=rfl
@[simp] theorem uw {n m:Int}:bin .lss (.int .u8 n) (.int .u8 m)=some (.bool (decide (n<m))):=rfl
@[simp] theorem uy {n m:Int}:bin .leq (.int .u8 n) (.int .u8 m)=some (.bool (decide (n<=m))):=rfl
@[simp] theorem uz {n m:Int}:bin .gtr (.int .u8 n) (.int .u8 m)=some (.bool (decide (m<n))):=rfl
@[simp] theorem uE {n m:Int}:bin .geq (.int .u8 n) (.int .u8 m)=some (.bool (decide (m<=n))):=rfl
@[simp] theorem uq {n m:List UInt8}:bin .eql (.str n) (.str m)=some (.bool (n==m)):=rfl
@[simp] theorem uj {n m:List UInt8}:bin .neq (.str n) (.str m)=some (.bool !(n==m)):=rfl
@[simp] theorem uk {n m:List UInt8}:bin .lss (.str n) (.str m)=some (.bool (Op.bytesLess n m)):=rfl
@[simp] theorem YU {n m:List UInt8}:bin .leq (.str n) (.str m)=some (.bool (Op.bytesLess n m||n==m)):=rfl
@[simp] theorem um {n m:List UInt8}:bin .gtr (.str n) (.str m)=some (.bool !(Op.bytesLess n m||n==m)):=rfl
@[simp] theorem uo {n m:List UInt8}:bin .geq (.str n) (.str m)=some (.bool !(Op.bytesLess n m)):=rfl
@[simp] theorem sP {l:List UInt8}:BO .str (.str l) st=some (.int .i64 l.length,st):=rfl
@[simp] theorem dW {h:Af}{t:Nat}:ML h ts (.tmp t)=some (ts.get t):=rfl
@[simp] theorem pQ {h:Af}{t:Nat}{a:Option Nat}:ML h ts (.cell t a)=Hw h a (ts.get t):=rfl
structure BI (v:AV)(sz:Nat)(xs:List AV):Prop where
 out:(v=.AJ/\xs=[])∨∃t,v=.list t sz xs
variable {v:AV}{sz:Nat}{xs:List AV}
theorem BI.QL (h:BI v sz xs):Bq v=some xs.length:=by
 rcases h.out with⟨rfl,rfl⟩|⟨t,rfl⟩ <;> rfl
theorem BI.len (h:BI v sz xs):BO .slice v st=some (.int .i64 xs.length,st):=by
 rcases h.out with⟨rfl,rfl⟩|⟨t,rfl⟩ <;> rfl
theorem Bb (i:Nat):asNat (.int .i64 (i:Int))=some i:=rfl
theorem BI.idx (h:BI v sz xs){i:Nat}(hi:i<xs.length):Aa sz v (.int .i64 i) st=some (.BC xs[i].cells,st):=by
 rcases h.out with⟨rfl,rfl⟩|⟨t,rfl⟩
 ·simp at hi
 ·have hb:Nat.beq sz sz=true:=Nat.beq_refl sz
  simp[Aa,Bb,hb,hi]
end
@[simp] theorem St.eta (st:St):St.mk st.h st.c st.lo=st:=rfl
theorem wrap64 {n:Int}(h1:-9223372036854775808<=n)(h2:n<9223372036854775808):IntKind.i64.wrap n=n:=by
 exact IntWalk.i64_in n ⟨h1,by omega⟩
theorem wi (i:Nat)(h:(i:Int)+1<9223372036854775808:=by omega):IntKind.i64.wrap ((i:Int)+1)=(i:Int)+1:=wrap64 (by omega) h
end Go.Am
