/- A part of tablesStay. -/
import Derived.Test.YthnghmpbgomacaaGreatDoorA
import Derived.IntWalk
namespace Go.Am
open Go
@[simp] theorem M.JZ{α β:Type}(a:α)(f:α->M β):(M.ret a).bind f=f a:=rfl
@[simp] theorem M.ADt{α β:Type}(f:α->M β):(M.fail:M α).bind f=.fail:=rfl
@[simp] theorem M.ACb{α:Type}(a:α):M.FM (some a)=.ret a:=rfl
@[simp] theorem M.ACc{α:Type}:M.FM (none:Option α)=.fail:=rfl
@[simp] theorem M.AGV{α:Type}(a:α)(Q:α->Prop):(M.ret a).all Q↔Q a:=Iff.rfl
@[simp] theorem M.AFs{α:Type}(Q:α->Prop):(M.fail:M α).all Q↔False:=Iff.rfl
theorem TS.yH(j:Nat):TS.nil.get j=.undef:=rfl
theorem TS.jC(v:AV):∀(n i j:Nat),i+1<2^n->(TS.single v n i).get j=if i=j then v else .undef:=by
 intro n;induction n with
 |zero=>intro i j h;simp at h
 |succ n d=>
  intro i j h;have c:∀a b:Nat,Nat.beq a b=decide (a=b):=fun a b=>by
   cases h:Nat.beq a b with
   |true=>simp[Cb h]
   |false=>simp[Nat.ne_of_beq_eq_false h]
  have f:2^(n+1)=2*2^n:=by rw[Nat.pow_succ];omega
  simp only[TS.single,c,Ad,Aw];by_cases hi:i=0
  ·subst hi;simp only[FC];rw[TS.get];simp only[c,Ad,Aw];by_cases hj:j=0
   ·simp[hj]
   ·have:¬(0=j):=by omega
    simp only[hj,this,Dn];split<;>rfl
  ·rw[AJ hi];by_cases h1:i % 2=1
   ·rw[AX h1,TS.get];simp only[c,Ad,Aw];by_cases hj:j=0
    ·rw[AX hj,AJ (by omega)]
    ·rw[AJ hj];by_cases hj1:j % 2=1
     ·rw[AX hj1,d _ _ (by omega)];by_cases e:i=j
      ·simp[e]
      ·rw[AJ e,AJ (by omega)]
     ·rw[AJ hj1,AJ (by omega)];rfl
   ·rw[AJ h1,TS.get];simp only[c,Ad,Aw];by_cases hj:j=0
    ·rw[AX hj,AJ (by omega)]
    ·rw[AJ hj];by_cases hj1:j % 2=1
     ·rw[AX hj1,AJ (by omega)];rfl
     ·rw[AJ hj1,d _ _ (by omega)];by_cases e:i=j
      ·simp[e]
      ·rw[AJ e,AJ (by omega)]
theorem TS.SG(v:AV):∀(t:TS) (i j:Nat),i<65535->(t.set i v).get j=if i=j then v else t.get j:=by
 have c:∀a b:Nat,Nat.beq a b=decide (a=b):=fun a b=>by
  cases h:Nat.beq a b with
  |true=>simp[Cb h]
  |false=>simp[Nat.ne_of_beq_eq_false h]
 intro t;induction t with
 |nil=>intro i j h;rw[TS.set,TS.jC v 16 i j (by omega)];rfl
 |node u l r f d=>
  intro i j h;rw[TS.set];simp only[c,Ad,Aw];by_cases hi:i=0
  ·subst hi;simp only[FC];rw[TS.get,TS.get];simp only[c,Ad,Aw];by_cases hj:j=0
   ·simp[hj]
   ·have:¬(0=j):=by omega
    simp only[hj,this,Dn]
  ·rw[AJ hi];by_cases h1:i % 2=1
   ·rw[AX h1,TS.get,TS.get];simp only[c,Ad,Aw];by_cases hj:j=0
    ·rw[AX hj,AX hj,AJ (by omega)]
    ·rw[AJ hj,AJ hj];by_cases hj1:j % 2=1
     ·rw[AX hj1,AX hj1,f _ _ (by omega)];by_cases e:i=j
      ·simp[e]
      ·rw[AJ e,AJ (by omega)]
     ·rw[AJ hj1,AJ hj1,AJ (by omega)]
   ·rw[AJ h1,TS.get,TS.get];simp only[c,Ad,Aw];by_cases hj:j=0
    ·rw[AX hj,AX hj,AJ (by omega)]
    ·rw[AJ hj,AJ hj];by_cases hj1:j % 2=1
     ·rw[AX hj1,AX hj1,AJ (by omega)]
     ·rw[AJ hj1,AJ hj1,d _ _ (by omega)];by_cases e:i=j
      ·simp[e]
      ·rw[AJ e,AJ (by omega)]
def M.to{α:Type}(m:M α)(R:α->Prop):Prop:=∃a,m=.ret a/\R a
@[simp] theorem M.wO{α:Type}(a:α)(R:α->Prop):(M.ret a).to R↔R a:=⟨fun⟨b,h,r⟩=>by cases h;exact r,fun r=>⟨a,rfl,r⟩⟩
@[simp] theorem M.AGa{α:Type}(R:α->Prop):(M.fail:M α).to R↔False:=⟨fun⟨b,h,r⟩=>(by cases h),False.elim⟩
theorem M.BG{α β:Type}{m:M α}{f:α->M β}{R:α->Prop}{S:β->Prop}(h:m.to R)(k:∀a,R a->(f a).to S):(m.bind f).to S:=by obtain⟨a,rfl,r⟩:=h;exact k a r
theorem M.XX{α:Type}{m:M α}{R S:α->Prop}(h:m.to R)(k:∀a,R a->S a):m.to S:=by obtain⟨a,e,r⟩:=h;exact⟨a,e,k a r⟩
theorem M.to_eq{α:Type}{m:M α}{a:α}(h:m.to (·=a)):m=.ret a:=by obtain⟨b,e,r⟩:=h;rw[e,r]
theorem M.lT{α:Type}{m:M α}{R:α->Prop}(h:m.to R):m.all R:=by obtain⟨a,rfl,r⟩:=h;exact r
theorem M.GU{α:Type}{m:M α}{R S:α->Prop}(h:m.all R)(k:∀a,R a->S a):m.all S:=by
 induction m with
 |ret a=>exact k a h
 |fail=>exact h
 |ask n f b=>exact fun i c=>b i (h i c)
theorem M.Jo{α β:Type}{m:M α}{f:α->M β}{S:β->Prop}:(m.bind f).all S↔m.all fun a=>(f a).all S:=by
 induction m with
 |ret a=>exact Iff.rfl
 |fail=>exact Iff.rfl
 |ask n k c=>exact⟨fun h i b=>(c i).1 (h i b),fun h i b=>(c i).2 (h i b)⟩
theorem Df{body:TS->St->M (KN×TS×St)}{α:Type}(I:α->TS->St->Prop)(m:α->Nat)(R:KN->TS->St->Prop)(step:∀a c st,I a c st->(body c st).to fun r=>match r.1 with
 |.normal=>∃b,m b<m a/\I b r.2.1 r.2.2
 |e=>R e r.2.1 r.2.2) :
 ∀(k:Nat) (a:α) (c:TS) (st:St),m a<k->I a c st->(Dm body k c st).to fun r=>R r.1 r.2.1 r.2.2:=by
 intro k;induction k with
 |zero=>intro a c st h;omega
 |succ k n=>
  intro a c st h f;rw[Dm];refine M.BG (step a c st f) fun r d=>?_;obtain⟨e,l,j⟩:=r;cases e with
  |normal=>obtain⟨b,o,g⟩:=d;exact n b _ _ (by omega) g
  |exit i=>exact (M.wO _ _).2 d
  |ret=>exact (M.wO _ _).2 d
theorem Cy{body:TS->St->M (KN×TS×St)}{α:Type}{P:KN×TS×St->Prop}(I:α->TS->St->Prop)(m:α->Nat)(step:∀a c st,I a c st->(body c st).to fun r=>match r.1 with
 |.normal=>∃b,m b<m a/\I b r.2.1 r.2.2
 |_=>P r)(k:Nat)(a:α)(c:TS)(st:St)(h:m a<k)(d:I a c st):(Dm body k c st).to P:=
 Df I m (fun e c st=>P (e,c,st)) (fun a c st h=>M.XX (step a c st h) fun r f=>by
  obtain⟨e,i,g⟩:=r
  cases e<;>exact f) k a c st h d
theorem bF{body:TS->St->M (KN×TS×St)}{α:Type}(I:α->TS->St->Prop)(m:α->Nat)(R:KN->TS->St->Prop)(step:∀a c st,I a c st->(body c st).all fun r=>match r.1 with
 |.normal=>∃b,m b<m a/\I b r.2.1 r.2.2
 |e=>R e r.2.1 r.2.2) :
 ∀(k:Nat) (a:α) (c:TS) (st:St),m a<k->I a c st->(Dm body k c st).all fun r=>R r.1 r.2.1 r.2.2:=by
 intro k;induction k with
 |zero=>intro a c st h;omega
 |succ k n=>
  intro a c st h f;rw[Dm,M.Jo];refine M.GU (step a c st f) fun r d=>?_;obtain⟨e,l,j⟩:=r;cases e with
  |normal=>obtain⟨b,o,g⟩:=d;exact n b _ _ (by omega) g
  |exit i=>exact d
  |ret=>exact d
section
variable {E:Env}{n f:Nat}{fn:DF}{args:List AV}{st:St}
theorem XD{g:St->List AV->Option (AV×St)}{r:AV×St}(b:E.WG f=some g)(a:g st args=some r):Ab E (n+1) f args st=.ret r:=by unfold Ab;rw[b];simp only[a]
theorem pK{g:Aa->List AV->Option AV}{v:AV}(b:E.WG f=some (Me g))(a:g st.h args=some v):Ab E (n+1) f args st=.ret (v,st):=
 XD b (by unfold Me;rw[a])
theorem Av(c:E.WG f=none)(b:E.code f=some fn)(a:fn.pol=.Bo):Ab E (n+1) f args st=Gt E (Ab E n) fn args st:=by rw[Ab];simp only[c,b,a]
theorem bI(d:E.WG f=none)(b:E.code f=some fn)(a:fn.pol=.own):Ab E (n+1) f args st=(Gt E (Ab E n) fn args st).bind (Kn st.c):=by rw[Ab];simp only[d,b,a]
theorem FD(d:E.WG f=none)(b:E.code f=some fn)(a:fn.pol=.pure):Ab E (n+1) f args st=(Gt E (Ab E n) fn args { st with lo:=st.c }).bind (BU st.c st):=by rw[Ab];simp only[d,b,a]
theorem pI(d:E.WG f=none)(b:E.code f=some fn)(a:fn.pol=.ACQ):Ab E (n+1) f args st=Jj st ((Gt E (Ab E n) fn args { st with lo:=st.c }).bind (BU st.c st)):=by rw[Ab];simp only[d,b,a]
theorem GH(c:E.WG f=none)(b:E.code f=some fn)(a:fn.pol=.Kw)(d:AV.Dq 0 args=true):Ab E (n+1) f args st=(Gt E (Ab E n) fn args ⟨[],0,0⟩).bind (BU 0 st):=by rw[Ab];simp only[c,b,a,d,Ba]
theorem XF{args':List AV}(c:E.WG f=none)(b:E.code f=some fn)(a:fn.pol=.yF)(d:DD (Ce 0 st.h Ck) args=some args'):Ab E (n+1) f args st=(Gt E (Ab E n) fn args' ⟨[],0,0⟩).bind (LC st):=by rw[Ab];simp only[c,b,a,d]
end
inductive M.Le {α:Type}:M α->M α->Prop
 |fail (m:M α):M.Le .fail m
 |ret (a:α):M.Le (.ret a) (.ret a)
 |ask (n:Nat) (k k':Nat->M α) (h:∀i,M.Le (k i) (k' i)):M.Le (.ask n k) (.ask n k')
theorem xz{α:Type}{m b:M α}(h:M.Le m b)(a:m.aY=true):b.aY=true:=by
 cases h with
 |fail=>cases a
 |ret=>rfl
 |ask=>cases a
theorem M.Le.refl{α:Type}(m:M α):M.Le m m:=by
 induction m with
 |ret a=>exact .ret a
 |fail=>exact .fail _
 |ask n k b=>exact .ask n k k b
theorem M.Le.bind{α β:Type}{m c:M α}{f b:α->M β}(h:M.Le m c)(d:∀a,M.Le (f a) (b a)):M.Le (m.bind f) (c.bind b):=by
 induction h with
 |fail m=>exact .fail _
 |ret a=>exact d a
 |ask n k g _ e=>exact .ask n _ _ e
theorem M.Le.all{α:Type}{m c:M α}{Q:α->Prop}(h:M.Le m c)(b:m.all Q):c.all Q:=by
 induction h with
 |fail m=>exact b.elim
 |ret a=>exact b
 |ask n k f _ d=>exact fun i e=>d i (b i e)
theorem M.Le.eq{α:Type}{m b:M α}{a:α}(h:M.Le m b)(e:m=.ret a):b=.ret a:=by subst e;cases h;rfl
theorem M.Le.leftmost{α:Type}{m b:M α}{r:α}(h:M.Le m b)(e:m.leftmost=some r):b.leftmost=some r:=by
 induction h with
 |fail m=>cases e
 |ret a=>exact e
 |ask n k d _ c=>exact c 0 e
theorem M.Le.ZW{α:Type}{m b:M α}{f:α->Bool}(h:M.Le m b)(e:m.ZW f=true):b.ZW f=true:=by
 induction h with
 |fail m=>cases e
 |ret a=>exact e
 |ask n k g _ c=>exact Fj.2 fun i d=>c i (Fj.1 e i d)
theorem dA{st:St}{m a:M (AV×St)}(h:M.Le m a):M.Le (Jj st m) (Jj st a):=by
 unfold Jj;cases e:m.leftmost with
 |none=>exact .fail _
 |some r=>
  rw[h.leftmost e];simp only;cases e2:m.ZW fun b=>AV.beq r.1 b.1 with
  |false=>exact .fail _
  |true=>rw[h.ZW e2];exact .ret _
section
variable {E:Env}{call call':Nat->List AV->St->M (AV×St)}(hc:∀f args st,M.Le (call f args st) (call' f args st))
 include hc
theorem ADU(s:Nat)(k:AK)(args:List AV)(st:St):M.Le (Kg E call s k args st) (Kg E call' s k args st):=by
 cases k<;>try exact M.Le.refl _
 case call f=>exact hc f args st
 case Ko=>
  show M.Le (QL call args st) (QL call' args st);unfold QL;split
  ·exact hc _ _ _
  ·exact .fail _
 case invoke name=>
  show M.Le (callMethod E call name args st) (callMethod E call' name args st);unfold callMethod;split
  ·split
   ·exact hc _ _ _
   ·exact .fail _
  ·exact .fail _
theorem eQ(s:Nat)(o:Dr)(a:TS)(st:St):M.Le (MK E call s o a st) (MK E call' s o a st):=by
 unfold MK;cases wanted o.guard a
 ·exact .ret _
 ·exact (ADU hc _ _ _ _).bind fun _=>.ret _
theorem qa(s:Nat):∀(l:List Dr) (a:TS) (st:St),M.Le (MV E call s l a st) (MV E call' s l a st)
 |[],_,_=>.ret _
 |o::l,a,st=>(eQ hc s o a st).bind fun r=>qa s l r.1 r.2
theorem VO(s:Nat):∀(l:List (Nat×Dr×List Nat)) (p:Na) (a:TS) (st:St),M.Le (Db E call s l p a st) (Db E call' s l p a st)
 |[],_,_,_=>.ret _
 |(i,o,b)::l,p,a,st=>(eQ hc s o a st).bind fun r=>by
  cases h:Fv s i p r.2
  ·exact .fail _
  ·exact VO s l _ _ _
theorem jy(s:Nat)(x y:Nat×Dr×List Nat):∀(l:List (Nat×Dr×List Nat)) (p:Na) (a:TS) (st:St),M.Le (VN E call s x y l p a st) (VN E call' s x y l p a st)
 |[],p,a,st=>by
  unfold VN;split
  ·split
   ·cases h:(Db E call s [y,x] p a st).aY with
    |false=>simp only[Bool.and_false,Bj];exact .fail _
    |true=>
     rw[xz (VO hc s [y,x] p a st) h];cases (!Nat.beq _ _&&(x.2.2.isEmpty&&y.2.2.isEmpty&&true))
     ·exact .fail _
     ·exact VO hc s _ _ _ _
   ·exact .fail _
  ·exact .fail _
 |(i,o,b)::l,_,_,_=>(eQ hc s o _ _).bind fun r=>by
  cases h:Fv s i _ r.2
  ·exact .fail _
  ·exact jy s x y l _ _ _
 omit hc in
theorem kD{b f:TS->St->M (KN×TS×St)}(h:∀a st,M.Le (b a st) (f a st)):∀(n:Nat) (a:TS) (st:St),M.Le (Dm b n a st) (Dm f n a st)
 |0,_,_=>.fail _
 |n+1,a,st=>(h a st).bind fun r=>by
  obtain⟨e,d,c⟩:=r;cases e
  ·exact kD h n d c
  ·exact .ret _
  ·exact .ret _
theorem zA:∀(c:BD) (d:TS) (st:St),M.Le (Bc E call c d st) (Bc E call' c d st):=by
 intro c;induction c with
 |skip=>intro d st;exact .ret _
 |region k l=>intro d st;exact (qa hc _ _ _ _).bind fun _=>.ret _
 |draw k l=>intro d st;exact (VO hc _ _ _ _ _).bind fun _=>.ret _
 |lN k l x y=>intro d st;exact (jy hc _ _ _ _ _ _ _).bind fun _=>.ret _
 |seq a b g f=>
  intro d st;refine (g d st).bind fun r=>?_;obtain⟨e,i,h⟩:=r;cases e
  ·exact f i h
  ·exact .ret _
  ·exact .ret _
 |cond o a b g f=>
  intro d st;show M.Le (match ev d o with|.bool t=>bif t then Bc E call a d st else Bc E call b d st|_=>.fail) (match ev d o with|.bool t=>bif t then Bc E call' a d st else Bc E call' b d st|_=>.fail);split
  ·rename_i t _;cases t
   ·exact f d st
   ·exact g d st
  ·exact .fail _
 |block id a j=>intro d st;refine (j d st).bind fun r=>?_;obtain⟨e,i,h⟩:=r;cases e<;>exact .ret _
 |loop a j=>intro d st;exact kD j _ _ _
 |exit id=>intro d st;exact .ret _
 |ret=>intro d st;exact .ret _
 |bad=>intro d st;exact .fail _
theorem Ov(fn:DF)(args:List AV)(st:St):M.Le (Gt E call fn args st) (Gt E call' fn args st):=by
 unfold Gt;cases Nat.ble args.length 1000
 ·exact .fail _
 ·exact (zA hc _ _ _).bind fun _=>M.Le.refl _
end
theorem kM(E:Env):∀(n f:Nat) (args:List AV) (st:St),M.Le (Ab E n f args st) (Ab E (n+1) f args st):=by
 intro n;induction n with
 |zero=>intro f args st;exact .fail _
 |succ n a=>
  intro f args st;rw[Ab,Ab];cases hh:E.WG f with
  |some g=>exact M.Le.refl _
  |none=>
   cases hc:E.code f with
   |none=>exact M.Le.refl _
   |some fn=>
    simp only;split
    ·exact Ov a _ _ _
    ·exact (Ov a _ _ _).bind fun _=>M.Le.refl _
    ·exact (Ov a _ _ _).bind fun _=>M.Le.refl _
    ·exact dA ((Ov a _ _ _).bind fun _=>M.Le.refl _)
    ·cases AV.Dq 0 args
     ·exact (Ov a _ _ _).bind fun _=>M.Le.refl _
     ·exact (Ov a _ _ _).bind fun _=>M.Le.refl _
    ·cases DD (Ce 0 st.h Ck) args with
     |none=>exact M.Le.refl _
     |some b=>exact (Ov a _ _ _).bind fun _=>M.Le.refl _
theorem pJ{E:Env}{n f:Nat}{args:List AV}{st:St}{r:AV×St}(h:Ab E n f args st=.ret r)(k:Nat):Ab E (n+k) f args st=.ret r:=by
 induction k with
 |zero=>exact h
 |succ k a=>exact (kM E (n+k) f args st).eq a
theorem ZY{E:Env}{n f:Nat}{args:List AV}{st:St}{Q:AV×St->Prop}(h:(Ab E n f args st).all Q)(k:Nat):(Ab E (n+k) f args st).all Q:=by
 induction k with
 |zero=>exact h
 |succ k a=>exact (kM E (n+k) f args st).all a
section
variable {E:Env}{call:Nat->List AV->St->M (AV×St)}{s d q:Nat}{k:AK}{args:List Ki}{ops:List Dr}{ts:TS}{st:St}{b:Bool}
@[simp] theorem kC:MV E call s [] ts st=.ret (ts,st):=rfl
@[simp] theorem yu:MV E call s (⟨some d,none,k,args⟩::ops) ts st=(Kg E call s k (WL ts args) st).bind fun r=>MV E call s ops (ts.set d r.1) r.2:=by
 simp only[MV,MK,wanted,Ba,put];cases Kg E call s k (WL ts args) st<;>simp[M.bind];rename_i n f;funext i;induction f i with
 |ret a=>rfl
 |fail=>rfl
 |ask n k b=>simp only[M.bind];congr 1;funext j;exact b j
@[simp] theorem AHU:MV E call s (⟨none,none,k,args⟩::ops) ts st=(Kg E call s k (WL ts args) st).bind fun r=>MV E call s ops ts r.2:=by
 simp only[MV,MK,wanted,Ba,put];cases Kg E call s k (WL ts args) st<;>simp[M.bind];rename_i n f;funext i;induction f i with
 |ret a=>rfl
 |fail=>rfl
 |ask n k b=>simp only[M.bind];congr 1;funext j;exact b j
theorem RH:MV E call s (⟨some d,some (q,b),k,args⟩::ops) ts st=bif isBool b (ts.get q) then MV E call s (⟨some d,none,k,args⟩::ops) ts st else MV E call s ops (ts.set d .undef) st:=by
 rw[MV,MK];simp only[wanted,put];cases isBool b (ts.get q)
 ·simp
 ·simp only[Ba,MV,MK,wanted,put]
@[simp] theorem ADv{p:Na}:Db E call s [] p ts st=.ret (ts,st):=rfl
@[simp] theorem M.bind_assoc{α β γ:Type}(m:M α)(f:α->M β)(g:β->M γ):(m.bind f).bind g=m.bind fun a=>(f a).bind g:=by
 induction m with
 |ret a=>rfl
 |fail=>rfl
 |ask n k b=>simp only[M.bind];congr 1;funext i;exact b i
@[simp] theorem AGq{i:Nat}{l:List (Nat×Dr×List Nat)}:Db E call s ((i,⟨some d,none,k,args⟩,[])::l) [] ts st=(Kg E call s k (WL ts args) st).bind fun r=>Db E call s l [] (ts.set d r.1) r.2:=by simp only[Db,MK,wanted,Ba,put,M.bind_assoc,M.JZ,Fv,Re]
@[simp] theorem AGp{i:Nat}{l:List (Nat×Dr×List Nat)}:Db E call s ((i,⟨none,none,k,args⟩,[])::l) [] ts st=(Kg E call s k (WL ts args) st).bind fun r=>Db E call s l [] ts r.2:=by simp only[Db,MK,wanted,Ba,put,M.bind_assoc,M.JZ,Fv,Re]
theorem qf{i:Nat}{l:List (Nat×Dr×List Nat)}:Db E call s ((i,⟨some d,some (q,b),k,args⟩,[])::l) [] ts st=bif isBool b (ts.get q) then Db E call s ((i,⟨some d,none,k,args⟩,[])::l) [] ts st else Db E call s l [] (ts.set d .undef) st:=by
 rw[Db,MK];simp only[wanted,put];cases isBool b (ts.get q)
 ·simp[Fv,Re]
 ·simp only[Ba,Db,MK,wanted,put,Re]
@[simp] theorem qM:WL ts []=[]:=rfl
@[simp] theorem qL{j:Nat}{l:List Ki}:WL ts (.tmp j::l)=ts.get j::WL ts l:=rfl
@[simp] theorem AGb{v:AV}{l:List Ki}:WL ts (.val v::l)=v::WL ts l:=rfl
@[simp] theorem AHO{j:Nat}:ev ts (.tmp j)=ts.get j:=rfl
@[simp] theorem AHN{v:AV}:ev ts (.val v)=v:=rfl
@[simp] theorem ABt{c:Bool}:isBool b (.bool c)=(c==b):=rfl
 attribute [simp] TS.SG
 attribute [simp] TS.yH
@[simp] theorem ACe{i:Nat}{t:TS}:TS.FK [] i t=t:=rfl
@[simp] theorem ABp{i:Nat}{t:TS}{v:AV}{l:List AV}:TS.FK (v::l) i t=TS.FK l (i+1) (t.set i v):=rfl
@[simp] theorem ADW:Bc E call .skip ts st=.ret (.normal,ts,st):=rfl
@[simp] theorem VP{a:Nat}:Bc E call (.region a ops) ts st=(MV E call st.c ops ts { st with c:=st.c+a }).bind fun r=>.ret (.normal,r):=rfl
@[simp] theorem ADZ{a:Nat}{l:List (Nat×Dr×List Nat)}:Bc E call (.draw a l) ts st=(Db E call st.c l [] ts { st with c:=st.c+a }).bind fun r=>.ret (.normal,r):=rfl
@[simp] theorem TI{a c:BD}:Bc E call (.seq a c) ts st=(Bc E call a ts st).bind fun r=>match r.1 with
 |.normal=>Bc E call c r.2.1 r.2.2
 |_=>.ret r:=rfl
@[simp] theorem ADa{o:Ki}{a c:BD}:Bc E call (.cond o a c) ts st=match ev ts o with
 |.bool t=>bif t then Bc E call a ts st else Bc E call c ts st
 |_=>.fail:=rfl
@[simp] theorem ABx{id:Nat}{a:BD}:Bc E call (.block id a) ts st=(Bc E call a ts st).bind fun r=>match r.1 with
 |.exit i=>.ret (bif Nat.beq i id then .normal else .exit i,r.2)
 |_=>.ret r:=rfl
@[simp] theorem ADX{a:BD}:Bc E call (.loop a) ts st=Dm (Bc E call a) E.k ts st:=rfl
@[simp] theorem ADY{id:Nat}:Bc E call (.exit id) ts st=.ret (.exit id,ts,st):=rfl
@[simp] theorem ADw:Bc E call .ret ts st=.ret (.ret,ts,st):=rfl
theorem Ap{fn:DF}{l:List AV}(h:l.length<=1000):Gt E call fn l st=(Bc E call fn.body (TS.FK l 0 .nil) st).bind (Al fn.results):=by unfold Gt;have:Nat.ble l.length 1000=true:=Dv h;rw[this];rfl
variable {x y z:AV}{op:BinOp}
@[simp] theorem AGx:Kg E call s .move [x] st=.ret (x,st):=rfl
@[simp] theorem AGw:Kg E call s .pick [x,y,z] st=M.FM (Rq x y z st):=rfl
@[simp] theorem AGU{id a sz:Nat}{zero:List AV}:Kg E call s (.alloc id a sz zero) [] st=M.FM (Fs (.AL (s+id) 0) (BA (s+id) (.cells a sz zero false) st)):=rfl
@[simp] theorem AHe{id a sz:Nat}:Kg E call s (.box id a sz) [x] st=M.FM (TP (s+id) (Ls (s+id) a sz x) st):=rfl
@[simp] theorem AGT{zero l:List AV}{places:List (Nat×Nat)}:Kg E call s (.build zero places) l st=M.FM (Ia st ((Bp zero places l).map .agg)):=rfl
@[simp] theorem zm{id b sz len:Nat}{zero l:List AV}{a:List Nat}:Kg E call s (.buildSlice id b sz len zero a) l st=M.FM (TP (s+id) (BC (s+id) b sz len zero a l) st):=rfl
@[simp] theorem AGz{agg:Option Nat}:Kg E call s (.load agg) [x] st=M.FM (Ia st (LB st.h agg x)):=rfl
@[simp] theorem AGM{n:Nat}:Kg E call s (.store n) [x,y] st=M.FM (BM n x y st):=rfl
@[simp] theorem AB8:Kg E call s .nilCheck [x] st=M.FM (DT x st):=rfl
@[simp] theorem AHf:Kg E call s (.bin op) [x,y] st=M.FM (Ia st (bin op x y)):=rfl
@[simp] theorem AHn{a:Bool}{k:EK}:Kg E call s (.eq a k) [x,y] st=M.FM (Ia st (Uz a k x y)):=rfl
@[simp] theorem AHm{op:UnOp}:Kg E call s (.un op) [x] st=M.FM (Ia st (un op x)):=rfl
@[simp] theorem ADl{k:IntKind}:Kg E call s (.De k) [x] st=M.FM (Mi k x st):=rfl
@[simp] theorem ADj:Kg E call s .PR [x] st=M.FM (LQ x st):=rfl
@[simp] theorem ADk{id a:Nat}:Kg E call s (.NJ id a) [x] st=M.FM (TP (s+id) (VL (s+id) a x) st):=rfl
@[simp] theorem ADm:Kg E call s .PS [x] st=M.FM (Nv x st):=rfl
@[simp] theorem AGy{f:Fn}{n:Nat}{l:List AV}:Kg E call s (.Nk f n) l st=.ret (.fn f (l.take n) (l.drop n),st):=rfl
@[simp] theorem AGO{id:Nat}:Kg E call s (.mkMap id) [] st=M.FM (Fs (.Cq (s+id)) (BA (s+id) (.map [] [] [] 0) st)):=rfl
@[simp] theorem ADh{id a sz bytes:Nat}{zero:List AV}:Kg E call s (.mkSlice id a sz bytes zero) [x,y] st=M.FM (TP (s+id) (Dy (s+id) a sz bytes zero x y) st):=rfl
@[simp] theorem AB6{a b:Bool}{l:List AV}:Kg E call s (.IP a b) l st=M.FM (Kz a b l st):=rfl
@[simp] theorem AGN{sz:Nat}{b c a:Bool}{l:List AV}:Kg E call s (.slice sz b c a) l st=M.FM (DW sz b c a l st):=rfl
@[simp] theorem ABf{a:Nat}:Kg E call s (.fieldAddr a) [x] st=M.FM (Cx a x st):=rfl
@[simp] theorem AGP{a:Nat}{agg:Option Nat}:Kg E call s (.field a agg) [x] st=M.FM (Sk a agg x st):=rfl
@[simp] theorem ABe{sz:Nat}:Kg E call s (.indexAddr sz) [x,y] st=M.FM (AY sz x y st):=rfl
@[simp] theorem ACB{len sz:Nat}:Kg E call s (.KC len sz) [x,y] st=M.FM (Mh len sz x y st):=rfl
@[simp] theorem ACA:Kg E call s .Fw [x,y] st=M.FM (IQ x y st):=rfl
@[simp] theorem ADy{b:KK}{zero:AV}{a:Bool}:Kg E call s (.lookup b zero a) [x,y] st=M.FM (FT b zero a x y st):=rfl
@[simp] theorem ABd{a:KK}:Kg E call s (.mapUpdate a) [x,y,z] st=M.FM (FL a x y z st):=rfl
@[simp] theorem AB9{a:KK}{zero:AV}:Kg E call s (.mapEntry a zero) [x,y] st=M.FM (Ir a zero x y st):=rfl
@[simp] theorem zl:Kg E call s .entryStore [x,y,z] st=M.FM (Ha x y z st):=rfl
@[simp] theorem AB7{id:Nat}:Kg E call s (.rangeMap id) [x] st=M.FM (KE (s+id) x st):=rfl
@[simp] theorem vX{l:List AV}:Kg E call s .next l st=Qp l st:=rfl
@[simp] theorem AGQ:Kg E call s .entry [x] st=M.FM (NH x st):=rfl
@[simp] theorem aF{i:Nat}:Kg E call s (.extract i) [x] st=M.FM (LP i x st):=rfl
@[simp] theorem AHb{k:LK}:Kg E call s (.len k) [x] st=M.FM (BZ k x st):=rfl
@[simp] theorem AHd:Kg E call s .cap [x] st=M.FM (TV x st):=rfl
@[simp] theorem AHZ{l:List AV}:Kg E call s .min l st=M.FM (Ub l st):=rfl
@[simp] theorem AHa{l:List AV}:Kg E call s .max l st=M.FM (TU l st):=rfl
@[simp] theorem ADz{id a sz bytes:Nat}:Kg E call s (.append id a sz bytes) [x,y] st=M.FM (Bq (s+id) a sz bytes x y st):=rfl
@[simp] theorem ABg{id a:Nat}:Kg E call s (.OG id a) [x,y] st=M.FM (NN (s+id) a x y st):=rfl
@[simp] theorem AGE{sz:Nat}:Kg E call s (.copy sz) [x,y] st=M.FM (Qm sz x y st):=rfl
@[simp] theorem AGR{zero:List AV}:Kg E call s (.clear zero) [x] st=M.FM (Lu zero x st):=rfl
@[simp] theorem ADx:Kg E call s .Rk [x] st=M.FM (Kk x st):=rfl
@[simp] theorem AGL{a n:Nat}:Kg E call s (.UO a n) [x] st=M.FM (Oy a n x st):=rfl
@[simp] theorem AB5{a:Nat}:Kg E call s (.Pn a) [x,y] st=M.FM (Ky a x y st):=rfl
@[simp] theorem AG0{f:Nat}{l:List AV}:Kg E call s (.call f) l st=call f l st:=rfl
@[simp] theorem AGS{f:Nat}{a b l:List AV}:Kg E call s .Ko (.fn (.func f) a b::l) st=call f (a++(l++b)) st:=rfl
@[simp] theorem AHc{e:Ext}{l:List AV}:Kg E call s (.ext e) l st=M.FM (gM e l st):=rfl
@[simp] theorem ADi{t:Nat}:Kg E call s (.GN t) [x] st=.ret (.iface t x,st):=rfl
@[simp] theorem LY{v:AV}:Ia st (some v)=some (v,st):=rfl
@[simp] theorem ADr:Ia st none=none:=rfl
@[simp] theorem dO{v:AV}{a:St}:Fs v (some a)=some (v,a):=rfl
@[simp] theorem ADu{o:Nat}{v:AV}{ob:BJ}:TP o (some (v,ob)) st=Fs v (BA o ob st):=rfl
@[simp] theorem ABn{c:Bool}:Rq (.bool c) x y st=some (bif c then x else y,st):=rfl
@[simp] theorem ABr{h:Aa}:LB h none x=AQ h x:=rfl
@[simp] theorem ABq{h:Aa}{n:Nat}:LB h (some n) x=(Ak h x n).map .agg:=rfl
@[simp] theorem zY{h:Aa}{v:AV}{l:List AV}:AQ h (.CB (v::l))=some v:=rfl
@[simp] theorem Cw{h:Aa}{n:Nat}{l:List AV}:Ak h (.CB l) n=if n<=l.length then some (l.take n) else none:=by
 simp only[Ak];by_cases hn:n<=l.length
 ·rw[AX hn,Dv hn];rfl
 ·rw[AJ hn];cases h:Nat.ble n l.length with
  |true=>exact absurd (ND h) hn
  |false=>rfl
@[simp] theorem sI{o a n:Nat}:Cx n (.AL o a) st=some (.AL o (a+n),st):=rfl
@[simp] theorem sH{l:List AV}{n:Nat}:Cx n (.CB l) st=some (.CB (l.drop n),st):=rfl
@[simp] theorem vS{o a:Nat}:DT (.AL o a) st=some (.AL o a,st):=rfl
@[simp] theorem vR{l:List AV}:DT (.CB l) st=some (.CB l,st):=rfl
@[simp] theorem zZ{f:Nat}{a b:List AV}:DT (.fn (.func f) a b) st=some (.fn (.func f) a b,st):=rfl
@[simp] theorem ze{k j:IntKind}{n:Int}:Mi k (.int j n) st=some (.int k (k.wrap n),st):=rfl
@[simp] theorem za{l:List UInt8}:LQ (.str l) st=some (.str l,st):=rfl
@[simp] theorem zb{k:IntKind}{n:Nat}:LQ (.int k (n:Int)) st=if n<128 then some (.str [UInt8.ofNat n],st) else none:=rfl
@[simp] theorem vT{l:List AV}{i:Nat}:LP i (.tuple l) st=Ia st l[i]?:=rfl
@[simp] theorem AG1{c:Bool}:un .not (.bool c)=some (.bool !c):=rfl
@[simp] theorem AG2{k:IntKind}{n:Int}:un .neg (.int k n)=some (.int k (k.wrap (0-n))):=rfl
@[simp] theorem AGn{n m:Int}:bin .add (.int .i64 n) (.int .i64 m)=some (.int .i64 (IntKind.i64.wrap (n+m))):=rfl
@[simp] theorem AGe{n m:Int}:bin .sub (.int .i64 n) (.int .i64 m)=some (.int .i64 (IntKind.i64.wrap (n-m))):=rfl
@[simp] theorem AGi{n m:Int}:bin .mul (.int .i64 n) (.int .i64 m)=some (.int .i64 (IntKind.i64.wrap (n*m))):=rfl
@[simp] theorem AGg{n m:Int}:bin .quo (.int .i64 n) (.int .i64 m)=if m=0 then none else some (.int .i64 (IntKind.i64.wrap (n.tdiv m))):=rfl
@[simp] theorem AGf{n m:Int}:bin .rem (.int .i64 n) (.int .i64 m)=if m=0 then none else some (.int .i64 (n.tmod m)):=rfl
@[simp] theorem AGm{n m:Int}:bin .eql (.int .i64 n) (.int .i64 m)=some (.bool (n==m)):=rfl
@[simp] theorem AGh{n m:Int}:bin .neq (.int .i64 n) (.int .i64 m)=some (.bool (n !=m)):=rfl
@[simp] theorem AGj{n m:Int}:bin .lss (.int .i64 n) (.int .i64 m)=some (.bool (decide (n<m))):=rfl
@[simp] theorem AGk{n m:Int}:bin .leq (.int .i64 n) (.int .i64 m)=some (.bool (decide (n<=m))):=rfl
@[simp] theorem qW{n m:Int}:bin .gtr (.int .i64 n) (.int .i64 m)=some (.bool (decide (m<n))):=rfl
@[simp] theorem AGl{n m:Int}:bin .geq (.int .i64 n) (.int .i64 m)=some (.bool (decide (m<=n))):=rfl
@[simp] theorem AF9{n m:Int}:bin .eql (.int .u8 n) (.int .u8 m)=some (.bool (n==m)):=rfl
@[simp] theorem AF4{n m:Int}:bin .neq (.int .u8 n) (.int .u8 m)=some (.bool (n !=m)):=rfl
@[simp] theorem AF5{n m:Int}:bin .lss (.int .u8 n) (.int .u8 m)=some (.bool (decide (n<m))):=rfl
@[simp] theorem AF6{n m:Int}:bin .leq (.int .u8 n) (.int .u8 m)=some (.bool (decide (n<=m))):=rfl
@[simp] theorem AF7{n m:Int}:bin .gtr (.int .u8 n) (.int .u8 m)=some (.bool (decide (m<n))):=rfl
@[simp] theorem AF8{n m:Int}:bin .geq (.int .u8 n) (.int .u8 m)=some (.bool (decide (m<=n))):=rfl
@[simp] theorem AF3{n m:List UInt8}:bin .eql (.str n) (.str m)=some (.bool (n==m)):=rfl
@[simp] theorem AFE{n m:List UInt8}:bin .neq (.str n) (.str m)=some (.bool !(n==m)):=rfl
@[simp] theorem AF0{n m:List UInt8}:bin .lss (.str n) (.str m)=some (.bool (Op.bytesLess n m)):=rfl
@[simp] theorem jq{n m:List UInt8}:bin .leq (.str n) (.str m)=some (.bool (Op.bytesLess n m||n==m)):=rfl
@[simp] theorem AF1{n m:List UInt8}:bin .gtr (.str n) (.str m)=some (.bool !(Op.bytesLess n m||n==m)):=rfl
@[simp] theorem AF2{n m:List UInt8}:bin .geq (.str n) (.str m)=some (.bool !(Op.bytesLess n m)):=rfl
@[simp] theorem ADp{l:List UInt8}:BZ .str (.str l) st=some (.int .i64 l.length,st):=rfl
@[simp] theorem rY{h:Aa}{t:Nat}:fq h ts (.tmp t)=some (ts.get t):=rfl
@[simp] theorem ACX{h:Aa}{t:Nat}{a:Option Nat}:fq h ts (.cell t a)=LB h a (ts.get t):=rfl
structure Co (v:AV)(sz:Nat)(xs:List AV):Prop where
 out:(v=.AO/\xs=[])∨∃t,v=.list t sz xs
variable {v:AV}{sz:Nat}{xs:List AV}
theorem Co.iK(h:Co v sz xs):CV v=some xs.length:=by rcases h.out with⟨rfl,rfl⟩|⟨t,rfl⟩<;>rfl
theorem Co.len(h:Co v sz xs):BZ .slice v st=some (.int .i64 xs.length,st):=by rcases h.out with⟨rfl,rfl⟩|⟨t,rfl⟩<;>rfl
theorem Bg(i:Nat):asNat (.int .i64 (i:Int))=some i:=rfl
theorem Co.idx(h:Co v sz xs){i:Nat}(a:i<xs.length):AY sz v (.int .i64 i) st=some (.CB xs[i].cells,st):=by
 rcases h.out with⟨rfl,rfl⟩|⟨t,rfl⟩
 ·simp at a
 ·have b:Nat.beq sz sz=true:=OI sz;simp[AY,Bg,a]
end
@[simp] theorem St.eta(st:St):St.mk st.h st.c st.lo=st:=rfl
theorem wrap64{n:Int}(a:-9223372036854775808<=n)(b:n<9223372036854775808):IntKind.i64.wrap n=n:=by exact IntWalk.i64_in n ⟨a,by omega⟩
theorem wi(i:Nat)(h:(i:Int)+1<9223372036854775808:=by omega):IntKind.i64.wrap ((i:Int)+1)=(i:Int)+1:=wrap64 (by omega) h
end Go.Am
