/- A part of tablesStay. -/
import Derived.Test.YthnghmpbgomacaaGreatDoorW1
namespace Go.Am
open Go
structure Reads (h:Aa)(w:AV)(l:List Bz):Prop where
 len:CV w=some l.length
 at_:∀(i:Nat) (hi:i<l.length) (st:St),st.h=h->∃p,AY 1 w (.int .i64 (i:Int)) st=some (p,st)/\AQ h p=some (.str l[i])
theorem Reads.sO{h:Aa}{w:AV}{l:List Bz}(H:Co w 1 (Bf l)):Reads h w l where
 len:=by rw[H.iK];simp
 at_:=fun i a b _=>⟨_,H.WB a,rfl⟩
theorem Reads.ofM{h:Aa}{w:AV}{l:List Bz}(H:Lp h 9 1 w (Bf l)):Reads h w l where
 len:=by rw[H.len];simp
 at_:=fun i f k g=>by
  generalize a:Bf l=e at H;have d:l.length=e.length:=by rw[←a];simp
  cases H with
  |nl=>simp only[GY]at d;omega
  |mt=>simp only[GY]at d;omega
  |ob id e j m b=>
   subst a;subst g;rw[Mc]at b;have c:i<(Bf l).length:=by simpa using f
   refine⟨.AL id i,?_,?_⟩
   ·simp[AY,Bg,b,blt_eq,f]
   ·rw[AR b,Bu c];simp[Bf]
theorem Sv{k:Nat}{o r:AV}{a c:List Bz}{st:St}(H1:Reads st.h o a)(q:Reads st.h r c)(F:a.length<1000000) :
 Ab E (k+1) 29 [o,r] st=.ret (.bool (decide (a=c)),st):=by
 rw[Av (fn:=C.f29) rfl rfl rfl,Ap (by simp)];apply M.to_eq;by_cases hl:a.length=c.length
 ·have z:((a.length:Int) !=(c.length:Int))=false:=by simp[hl]
  have v:(!((a.length:Int)==(c.length:Int)))=false:=by simp[hl]
  simp[C.f29,BZ,H1.len,q.len,hl];refine M.BG (Df (fun (i:Nat) f b=>b=st/\i<=a.length/\f.get 0=o/\f.get 1=r/\f.get 12=.int .i64 (a.length:Int)/\f.get 13=.int .i64 (i:Int)/\a.take i=c.take i)
   (fun i=>a.length-i) (fun e f b=>b=st/\((e=.exit 0/\a=c)∨(e=.ret/\a≠c/\f.get 4=.bool false))) ?step _ 0 _ _ ?_ ?_) ?_
  case step=>
   rintro i f b ⟨rfl,H,t,x,m,g,l⟩;by_cases Bi:i<a.length
   ·have d:i<c.length:=by omega
    obtain⟨B,w,s⟩:=H1.at_ i Bi b rfl;obtain⟨D,y,u⟩:=q.at_ i d b rfl;by_cases he:a[i]=c[i]
    ·simp[C.f29L0,t,x,m,g,Bi,w,y,s,u,he,wi i];refine⟨i+1,by omega,by omega,by simp,?_⟩;rw[Gy Bi,Gy d,l,he]
    ·have j:a≠c:=fun e=>he (by simp[e]);simp[C.f29L0,t,x,m,g,Bi,w,y,s,u,Hy he,j]
   ·have:i=a.length:=by omega
    subst this;simp[C.f29L0,m,g];rw[FQ]at l;rw[l,Gx (by omega)]
  ·exact FX (by show a.length-0<1000000;omega)
  ·simp[hl]
  ·rintro⟨e,f,b⟩ ⟨rfl,h⟩;rcases h with⟨rfl,h⟩|⟨rfl,h,A⟩
   ·simp[h,Al,results,Af]
   ·simp[h,A,Al,results,Af]
 ·have j:a≠c:=fun e=>hl (by rw[e]);have p:¬((a.length:Int)=(c.length:Int)):=by omega
  simp[C.f29,BZ,H1.len,q.len,Ho.2 p,j,Al,results,Af]
theorem XM{k n o:Nat}{w:AV}{a b:List AV}{D:Nat->List AV}{p:Nat->Bool}{c:St}(s:CV w=some n)(K:n<1000000)(v:∀i,i<n->∃q,AY 3 w (.int .i64 (i:Int)) c=some (q,c)/\Ak c.h q 3=some (D i))(m:∀i,i<n->Ab E k o (a++([.agg (D i)]++b)) c=.ret (.bool (p i),c)) :
 (Ab E (k+1) 84 [w,.fn (.func o) a b] c=.ret (.int .i64 (-1),c)/\∀j,j<n->p j=false)∨∃i:Nat,i<n/\p i=true/\(∀j,j<i->p j=false)/\Ab E (k+1) 84 [w,.fn (.func o) a b] c=.ret (.int .i64 (i:Int),c):=by
 have main:(Gt E (Ab E k) C.f84 [w,.fn (.func o) a b] c).to fun x=>(x=(.int .i64 (-1),c)/\∀j,j<n->p j=false)∨∃i:Nat,i<n/\p i=true/\(∀j,j<i->p j=false)/\x=(.int .i64 (i:Int),c):=by
  rw[Ap (by simp)];simp[C.f84,BZ,s];refine M.BG (Df (fun (i:Nat) g d=>d=c/\i<=n/\g.get 0=w/\g.get 1=.fn (.func o) a b/\g.get 7=.int .i64 (n:Int)/\g.get 8=.int .i64 (i:Int)/\∀j,j<i->p j=false)
   (fun i=>n-i) (fun e g d=>d=c/\((e=.exit 0/\∀j,j<n->p j=false)∨(e=.ret/\∃i:Nat,i<n/\p i=true/\(∀j,j<i->p j=false)/\g.get 4=.int .i64 (i:Int)))) ?step _ 0 _ _ ?_ ?_) ?_
  case step=>
   rintro i g d ⟨rfl,u,B,r,y,z,l⟩;by_cases Bi:i<n
   ·obtain⟨q,F,A⟩:=v i Bi;have t:=m i Bi;simp only[List.singleton_append]at t;cases f:p i with
    |true=>rw[f]at t;simp[C.f84L0,B,r,y,z,Bi,F,A,t];exact⟨i,Bi,f,l,rfl⟩
    |false=>
     rw[f]at t;simp[C.f84L0,B,r,y,z,Bi,F,A,t,wi i];refine⟨i+1,by omega,by omega,by simp,fun j J=>?_⟩;by_cases e:j=i
     ·subst e;exact f
     ·exact l j (by omega)
   ·have:i=n:=by omega
    subst this;simp[C.f84L0,y,z];exact l
  ·exact FX (by show n-0<1000000;omega)
  ·simp
  ·rintro⟨e,g,d⟩ ⟨rfl,h⟩;rcases h with⟨rfl,h⟩|⟨rfl,i,u,f,l,I⟩
   ·simp[Al,results,Af];exact h
   ·simp[I,Al,results,Af];exact⟨i,u,f,l,rfl⟩
 rw[Av (fn:=C.f84) rfl rfl rfl];obtain⟨x,r,⟨rfl,H⟩|⟨i,u,f,l,rfl⟩⟩:=main
 ·exact .inl ⟨r,H⟩
 ·exact .inr ⟨i,u,f,l,r⟩
theorem Zt{k n o:Nat}{w:AV}{a b:List AV}{m:Nat->List AV}{p:Nat->Bool}{c:St}(e:CV w=some n)(t:n<1000000)(g:∀i,i<n->∃q,AY 3 w (.int .i64 (i:Int)) c=some (q,c)/\Ak c.h q 3=some (m i))(d:∀i,i<n->Ab E k o (a++([.agg (m i)]++b)) c=.ret (.bool (p i),c)) :
 ∃r:Int,Ab E (k+1) 84 [w,.fn (.func o) a b] c=.ret (.int .i64 r,c)/\-1<=r/\(0<=r↔∃i,i<n/\p i=true):=by
 rcases XM e t g d with⟨l,s⟩|⟨i,j,f,_,l⟩
 ·exact⟨-1,l,by omega,⟨fun h=>by omega,fun⟨i,j,f⟩=>by rw[s i j]at f;cases f⟩⟩
 ·exact⟨i,l,by omega,⟨fun _=>⟨i,j,f⟩,fun _=>by omega⟩⟩
theorem QJ{k n fc:Nat}{w:AV}{a b:List AV}{el:Nat->List AV}{p:Nat->Bool}{st:St}(d:CV w=some n)(g:n<1000000)(e:∀i,i<n->∃q,AY 3 w (.int .i64 (i:Int)) st=some (q,st)/\Ak st.h q 3=some (el i))(c:∀i,i<n->Ab E k fc (a++([.agg (el i)]++b)) st=.ret (.bool (p i),st)) :
 Ab E (k+2) 42 [w,.fn (.func fc) a b] st=.ret (.bool (decide (∃i,i<n/\p i=true)),st):=by
 obtain⟨r,j,l,f⟩:=Zt d g e c;rw[Av (fn:=C.f42) rfl rfl rfl,Ap (by simp)];have:decide (0<=r)=decide (∃i,i<n/\p i=true):=by simp only[f]
 simp[C.f42,j,Al,results,Af];simpa using this
theorem Jk{c:Nat}{b a:St}{v:AV}(h:v.CY c=true):BU c b (v,a)=.ret (v,b):=by have:Ce c a.h 64 v=some v:=FH (n:=63) h;simp[BU,Ck,this]
@[simp] theorem xZ{c:Nat}{d a:St}{b:Bool}:BU c d (.bool b,a)=.ret (.bool b,d):=Jk rfl
@[simp] theorem zg{c:Nat}{b a:St}{k:IntKind}{n:Int}:BU c b (.int k n,a)=.ret (.int k n,b):=Jk rfl
@[simp] theorem zf{c:Nat}{b a:St}{s:Bz}:BU c b (.str s,a)=.ret (.str s,b):=Jk rfl
theorem rU{k q:Nat}{st:St}{a g:Bz}{b m:AV}{i n:List Bz}{d B:Int}(A:HB st)(F:q<st.c)(w:AA st.h q=some (.cells 63 3 [.str g,m,.int .i64 B] false))(j:i.length<1000000)(y:∀h:Aa,(∀p,p<st.c->AA h p=AA st.h p)->Reads h b i)(D:∀h:Aa,(∀p,p<st.c->AA h p=AA st.h p)->Reads h m n) :
 Ab E (k+2) 43 [.agg [.str a,b,.int .i64 d],.AL q 0] st=.ret (.bool (decide (a=g/\i=n)),st):=by
 rw[FD (fn:=C.f43) rfl rfl rfl,Ap (by simp)];have f:∀p x,(p,x)∈st.h->p<st.c:=A;have e:∀p,p<st.c->AA ((st.c,BJ.cells 63 3 [.str a,b,.int .i64 d] false)::st.h) p=AA st.h p:=fun p I=>by rw[AZ,AJ (by omega)]
 have s:AA ((st.c,BJ.cells 63 3 [.str a,b,.int .i64 d] false)::st.h) st.c=some (.cells 63 3 [.str a,b,.int .i64 d] false):=by rw[AZ,AX rfl]
 have r:=(e q F).trans w;have t:AQ ((st.c,BJ.cells 63 3 [.str a,b,.int .i64 d] false)::st.h) (.AL st.c 0)=some (.str a):=by rw[AR s];rfl
 have o:AQ ((st.c,BJ.cells 63 3 [.str a,b,.int .i64 d] false)::st.h) (.AL st.c 1)=some b:=by rw[AR s];rfl
 have u:AQ ((st.c,BJ.cells 63 3 [.str a,b,.int .i64 d] false)::st.h) (.AL q 0)=some (.str g):=by rw[AR r];rfl
 have v:AQ ((st.c,BJ.cells 63 3 [.str a,b,.int .i64 d] false)::st.h) (.AL q 1)=some m:=by rw[AR r];rfl
 have l:=fun (z H:Nat)=>Sv (k:=k) (st:=⟨(st.c,.cells 63 3 [.str a,b,.int .i64 d] false)::st.h,z,H⟩) (y _ e) (D _ e) j;by_cases h:a=g
 ·subst h;simp[C.f43,Ls,AV.isTuple,AV.cells,Bb f,RH,t,o,u,v,l,Al,results,Af]
 ·simp[C.f43,Ls,AV.isTuple,AV.cells,Bb f,RH,t,o,u,v,h,Hy h,Al,results,Af]
theorem Cm{E:Env}{call:Nat->List AV->St->M (AV×St)}{s d q:Nat}{b:Bool}{k:AK}{args:List Ki}{a:List Dr}{c:TS}{st:St}(h:c.get q=.bool b):MV E call s (⟨some d,some (q,b),k,args⟩::a) c st=MV E call s (⟨some d,none,k,args⟩::a) c st:=by rw[RH,h];cases b<;>rfl
theorem Da{E:Env}{call:Nat->List AV->St->M (AV×St)}{s d q:Nat}{b:Bool}{k:AK}{args:List Ki}{a:List Dr}{c:TS}{st:St}(h:c.get q=.bool (!b)):MV E call s (⟨some d,some (q,b),k,args⟩::a) c st=MV E call s a (c.set d .undef) st:=by rw[RH,h];cases b<;>rfl
def SB(b:UInt8):Bool:=decide (97<=b.toNat/\b.toNat<=122)
def Ut(b:UInt8):Bool:=decide (48<=b.toNat/\b.toNat<=57)
theorem Oi{k:Nat}{b:UInt8}{d:St}:Ab E (k+1) 189 [.int .u8 b.toNat] d=.ret (.bool (SB b),d):=by
 rw[Av (fn:=C.f189) rfl rfl rfl,Ap (by simp)];by_cases h:97<=b.toNat
 ·have c:(97:Int)<=(b.toNat:Int):=by omega
  by_cases h2:b.toNat<=122
  ·have a:(b.toNat:Int)<=122:=by omega
   have:SB b=true:=by simp[SB,h,h2]
   simp[C.f189,Cm,c,a,this,Al,results,Af]
  ·have a:¬(b.toNat:Int)<=122:=by omega
   have:SB b=false:=by simp[SB,h];omega
   simp[C.f189,Cm,c,a,this,Al,results,Af]
 ·have c:¬(97:Int)<=(b.toNat:Int):=by omega
  have:SB b=false:=by simp[SB];omega
  simp[C.f189,Da,c,this,Al,results,Af]
theorem au{k:Nat}{b:UInt8}{d:St}:Ab E (k+1) 233 [.int .u8 b.toNat] d=.ret (.bool (Ut b),d):=by
 rw[Av (fn:=C.f233) rfl rfl rfl,Ap (by simp)];by_cases h:48<=b.toNat
 ·have c:(48:Int)<=(b.toNat:Int):=by omega
  by_cases h2:b.toNat<=57
  ·have a:(b.toNat:Int)<=57:=by omega
   have:Ut b=true:=by simp[Ut,h,h2]
   simp[C.f233,Cm,c,a,this,Al,results,Af]
  ·have a:¬(b.toNat:Int)<=57:=by omega
   have:Ut b=false:=by simp[Ut,h];omega
   simp[C.f233,Cm,c,a,this,Al,results,Af]
 ·have c:¬(48:Int)<=(b.toNat:Int):=by omega
  have:Ut b=false:=by simp[Ut];omega
  simp[C.f233,Da,c,this,Al,results,Af]
def dL(b:UInt8):Bool:=SB b||Ut b||b.toNat==95
theorem Yu{k:Nat}{b:UInt8}{c:St}:Ab E (k+2) 190 [.int .u8 b.toNat] c=.ret (.bool (dL b),c):=by
 rw[Av (fn:=C.f190) rfl rfl rfl,Ap (by simp)];cases h:SB b with
 |true=>simp[C.f190,Oi,Da,h,dL,Al,results,Af]
 |false=>
  cases h2:Ut b with
  |true=>simp[C.f190,Oi,au,Cm,Da,h,h2,dL,Al,results,Af]
  |false=>
   have a:((b.toNat:Int)==95)=(b.toNat==95):=by rw[KZ];simp;omega
   simp[C.f190,Oi,au,Cm,h,h2,dL,Al,results,Af];exact a
def Vy(s:Bz):Bool:=match s with
 |[]=>false
 |b::l=>decide (l.length<40)&&SB b&&(b::l).all dL
theorem iX{k:Nat}{s:Bz}{st:St}(r:s.length<=100000)(e:TS)(m:e.get 0=.str s)(c:e.get 19=.int .i64 (s.length:Int))(a:e.get 20=.int .i64 ((0:Nat):Int)) :
 (Dm (Bc E (Ab E (k+2)) C.f142L0) E.k e st).to fun x=>x.2.2=st/\((x.1=.exit 0/\s.all dL=true)∨(x.1=.ret/\x.2.1.get 2=.bool false/\s.all dL=false)):=by
 refine Cy (fun (i:Nat) o d=>d=st/\i<=s.length/\o.get 0=.str s/\o.get 19=.int .i64 (s.length:Int)/\o.get 20=.int .i64 (i:Int)/\∀j (g:j<s.length),j<i->dL s[j]=true)
  (fun i=>s.length-i) ?_ _ 0 _ _ ?_ ?_
 ·rintro i o d ⟨rfl,t,m,c,a,f⟩;by_cases Bi:i<s.length
  ·have l:IQ (.str s) (.int .i64 (i:Int)) d=some (.int .u8 s[i].toNat,d):=by simp[IQ,Bg,Bi]
   cases hin:dL s[i] with
   |true=>
    simp[C.f142L0,m,c,a,Bi,l,Yu,hin,wi i];refine⟨i+1,by omega,by omega,by simp,fun j g h=>?_⟩;rcases FU j i with p|p
    ·exact f j g p
    ·have:j=i:=by omega
     subst this;exact hin
   |false=>simp[C.f142L0,m,c,a,Bi,l,Yu,hin];exact⟨s[i],BH Bi,hin⟩
  ·have:i=s.length:=by omega
   subst this;simp[C.f142L0,c,a];intro b q;obtain⟨j,g,rfl⟩:=Du q;exact f j g g
 ·exact FX (by show s.length-0<1000000;omega)
 ·exact⟨rfl,by omega,m,c,a,fun j g h=>by omega⟩
theorem Yp{k:Nat}{s:Bz}{st:St}(q:s.length<=100000):Ab E (k+3) 142 [.str s] st=.ret (.bool (Vy s),st):=by
 rw[Av (fn:=C.f142) rfl rfl rfl,Ap (by simp)];have goal:((Bc E (Ab E (k+2)) C.f142.body (TS.FK [.str s] 0 .nil) st).bind (Al C.f142.results)).to fun r=>r=(.bool (Vy s),st):=by
  cases s with
  |nil=>simp[C.f142,Da,BZ,Vt,Vy,Al,results,Af]
  |cons b l=>
   have m:¬((b::l).length:Int)<1:=by simp;omega
   have v:((b::l).length:Int)=(l.length:Int)+1:=by simp
   by_cases h40:l.length<40
   ·have a:¬(40:Int)<(l.length:Int)+1:=by omega
    have c:¬(l.length:Int)+1<1:=by omega
    have d:IQ (.str (b::l)) (.int .i64 0) st=some (.int .u8 b.toNat,st):=rfl;cases hb:SB b with
    |true=>
     have loop:=fun i u g h=>iX (k:=k) (st:=st) q i u g h;simp[C.f142,Cm,BZ,Vt,c,a,d,Oi,hb];refine M.BG (loop _ (by simp) (by simp) (by simp)) fun x t=>?_;obtain⟨e,o,p⟩:=x;obtain⟨rfl,⟨rfl,f⟩|⟨rfl,j,f⟩⟩:=t
     ·simp[Al,results,Af,Vy,h40,hb];simpa using f
     ·simp only at j f;simp[Al,results,Af,Vy,h40,hb,j];simpa using f
    |false=>simp[C.f142,Cm,BZ,Vt,c,a,d,Oi,hb,Vy,Al,results,Af]
   ·have a:(40:Int)<(l.length:Int)+1:=by omega
    have c:¬(l.length:Int)+1<1:=by omega
    simp[C.f142,Cm,Da,BZ,Vt,c,a,Vy,h40,Al,results,Af]
 obtain⟨r,m,n⟩:=goal;rw[m,n]
theorem bR{n:Nat}{v:AV}{l:List (List UInt8)}{x:List UInt8}{f:St}(h:Co v 1 (Bf l))(r:l.length<1000000) :
 Ab E (n+1) 191 [v,.str x] f=.ret (.int .i64 (idxOf l x),f):=by
 rw[Av (fn:=C.f191) rfl rfl rfl,Ap (by simp)];apply M.to_eq;simp[C.f191,h.len];refine M.BG (Df (fun (i:Nat) b a=>a=f/\i<=l.length/\b.get 0=v/\b.get 1=.str x/\b.get 7=.int .i64 l.length/\b.get 8=.int .i64 i/\∀j (h:j<l.length),j<i->¬l[j]=x)
  (fun i=>l.length-i) (fun e b a=>a=f/\((e=.exit 0/\idxOf l x=-1)∨(e=.ret/\b.get 4=.int .i64 (idxOf l x)))) ?step _ 0 _ _ ?_ ?_) ?_
 case step=>
  rintro i b a ⟨rfl,s,o,p,m,g,k⟩;by_cases Bi:i<l.length
  ·by_cases he:x=l[i]
   ·have:idxOf l x=i:=by
     have:l.findIdx? (·==x)=some i:=by rw[List.findIdx?_eq_some_iff_getElem];exact⟨Bi,by simp[he],fun j d=>by simpa using k j (by omega) d⟩
     simp[idxOf,this]
    simp[C.f191L0,o,p,m,g,Bi,h.WB Bi,he];rw[←he,this]
   ·simp[C.f191L0,o,p,m,g,Bi,h.WB Bi,Hy he,wi i];refine⟨i+1,by omega,by omega,by simp,fun j c d=>?_⟩;by_cases e:j=i
    ·subst e;exact fun h=>he h.symm
    ·exact k j c (by omega)
  ·simp[C.f191L0,m,g,Bi];have:l.findIdx? (·==x)=none:=by rw[List.findIdx?_eq_none_iff];intro y q;obtain⟨j,c,rfl⟩:=Du q;simpa using k j c (by omega)
   simp[idxOf,this]
 ·exact FX (by show _<1000000;omega)
 ·simp
 ·rintro⟨e,b,a⟩ ⟨rfl,h⟩;rcases h with⟨rfl,h⟩|⟨rfl,h⟩
  ·simp[Al,results,Af,h]
  ·simp[Al,results,Af,h]
theorem uI{l:List Bz}{x:Bz}:decide (0<=idxOf l x)=decide (x∈l):=by
 rw[KZ];simp only[Aw];unfold idxOf;split
 ·rename_i i h;rw[List.findIdx?_eq_some_iff_getElem]at h;obtain⟨c,b,_⟩:=h;have:l[i]=x:=by simpa using b
  exact⟨fun _=>this▸BH c,fun _=>by omega⟩
 ·rename_i h;rw[List.findIdx?_eq_none_iff]at h;exact⟨fun a=>by omega,fun a=>by have:=h x a;simp at this⟩
theorem di{k:Nat}{v:AV}{l:List Bz}{x:Bz}{st:St}(h:Co v 1 (Bf l))(a:l.length<1000000) :
 Ab E (k+2) 143 [v,.str x] st=.ret (.bool (decide (x∈l)),st):=by
 rw[Av (fn:=C.f143) rfl rfl rfl,Ap (by simp)];have e:=uI (l:=l) (x:=x);simp[C.f143,bR h a,Al,results,Af];simpa using e
def Ac.isLeft(g:Ac)(x:Bz):Bool:=g.AP.any fun r=>r.left==x
theorem UK.AFR{v:AV}{r:Dw}(h:UK v r):∃w a,v=.agg [.str r.left,w,a]:=by obtain⟨w,rfl,_⟩:=h;exact⟨w,_,rfl⟩
theorem uk(b:UInt8):byteOf (.int .u8 b.toNat)=some b:=by simp[byteOf]
theorem Xd:∀(x y:Bz),Op.bytesLess x y=decide (x<y)
 |[],[]=>by simp[Op.bytesLess]
 |_::_,[]=>by simp[Op.bytesLess]
 |[],_::_=>by simp[Op.bytesLess]
 |a::x,b::y=>by rw[Op.bytesLess,Xd x y];simp only[List.cons_lt_cons_iff];by_cases h1:a<b<;>by_cases h2:a=b<;>by_cases h3:x<y<;>simp[h1,h2,h3]
theorem Kv(x:Bz):¬x<x:=List.lt_irrefl x
theorem Nr{x y z:Bz}(h:x<y)(k:y<z):x<z:=List.lt_trans h k
theorem Md{x y:Bz}(h:¬x<y)(k:x≠y):y<x:=by
 rcases Decidable.em (y<x)with a|a
 ·exact a
 ·exact absurd (List.le_antisymm (as:=x) (bs:=y) (by simpa using a) (by simpa using h)) k
theorem Sd{x y:Bz}(h:x<y):¬y<x:=fun k=>Kv x (Nr h k)
def Up(l:List Bz):Prop:=l.Pairwise (·<·)
theorem vo:∀{a b:List Bz},Up a->Up b->(∀s,s∈a↔s∈b)->a=b
 |[],[],_,_,_=>rfl
 |[],y::b,_,_,h=>by have:=(h y).2 (by simp);simp at this
 |x::a,[],_,_,h=>by have:=(h x).1 (by simp);simp at this
 |x::a,y::b,m,l,h=>by
  obtain⟨c,i⟩:=Hg.1 m;obtain⟨g,j⟩:=Hg.1 l;have e:x=y:=by
   rcases BK.1 ((h x).1 (by simp))with e|f
   ·exact e
   ·rcases BK.1 ((h y).2 (by simp))with e|k
    ·exact e.symm
    ·exact absurd (g _ f) (Sd (c _ k))
  subst e;rw[vo i j fun s=>?_];constructor
  ·intro d;rcases BK.1 ((h s).1 (Cu _ d))with e|f
   ·subst e;exact absurd (c _ d) (Kv _)
   ·exact f
  ·intro d;rcases BK.1 ((h s).2 (Cu _ d))with e|f
   ·subst e;exact absurd (g _ d) (Kv _)
   ·exact f
def Vi(x:Bz):List Bz->List Bz
 |[]=>[x]
 |y::l=>if x<y then x::y::l else if x=y then y::l else y::Vi x l
theorem Yf{x s:Bz}:∀{l:List Bz},s∈Vi x l↔s=x∨s∈l
 |[]=>by simp[Vi]
 |y::l=>by
  unfold Vi;split
  ·simp
  ·split
   ·rename_i h;subst h;simp
   ·rw[BK,Yf,BK];constructor<;>(rintro (h|h|h)<;>simp[h])
theorem pU{x:Bz}:∀{l:List Bz},Up l->Up (Vi x l)
 |[],_=>by simp[Vi,Up]
 |y::l,h=>by
  obtain⟨c,f⟩:=Hg.1 h;unfold Vi;split
  ·rename_i b;refine Hg.2 ⟨fun s a=>?_,h⟩;rcases BK.1 a with e|a
   ·subst e;exact b
   ·exact Nr b (c s a)
  ·split
   ·exact h
   ·rename_i b d;refine Hg.2 ⟨fun s a=>?_,pU f⟩;rcases Yf.1 a with e|a
    ·subst e;exact Md b d
    ·exact c s a
def Qi(l:List Bz):List Bz:=l.foldr Vi []
theorem rD(l:List Bz):Up (Qi l):=by
 induction l with
 |nil=>simp[Qi,Up]
 |cons x l a=>exact pU a
theorem nA{l:List Bz}{s:Bz}:s∈Qi l↔s∈l:=by
 induction l with
 |nil=>simp[Qi]
 |cons x l a=>show s∈Vi x (Qi l)↔_;rw[Yf,a,BK]
def Ac.Km(g:Ac):List Bz:=Qi (g.AP.map (·.left))
theorem Ac.Mj{g:Ac}{s:Bz}:s∈g.Km↔g.isLeft s=true:=by unfold Ac.Km Ac.isLeft;rw[nA];simp
theorem Ac.Xr(g:Ac):Up g.Km:=rD _
theorem Up.nodup{l:List Bz}(h:Up l):l.Nodup:=by refine List.Pairwise.imp ?_ h;intro a b c e;subst e;exact Kv _ c
def Pb(f:Nat->Int):Nat->Int
 |0=>0
 |n+1=>if Pb f n=0 then f n else Pb f n
theorem PQ{f:Nat->Int}:∀{n:Nat},(∀j,j<n->f j=0)->Pb f n=0
 |0,_=>rfl
 |n+1,h=>by rw[Pb,PQ fun j a=>h j (by omega),AX rfl];exact h n (by omega)
theorem WI{f:Nat->Int}{i:Nat}(h:∀j,j<i->f j=0)(a:f i≠0):∀{n:Nat},i<n->Pb f n=f i
 |0,b=>absurd b (by omega)
 |n+1,b=>by
  rw[Pb];by_cases e:i=n
  ·subst e;rw[PQ h,AX rfl]
  ·rw[WI h a (show i<n by omega),AJ a]
theorem Qy{f:Nat->Int}:∀{n:Nat},Pb f n=0->∀j,j<n->f j=0
 |0,_=>fun j b=>absurd b (by omega)
 |n+1,h=>by
  rw[Pb]at h;split at h
  ·rename_i a;intro j b;by_cases e:j=n
   ·subst e;exact h
   ·exact Qy a j (by omega)
  ·rename_i a;exact absurd h a
def Rx(l:List Bz)(i:Nat):Int:=if Vy (l.getD i [])=false then 5 else if 0<i/\¬l.getD (i-1) []<l.getD i [] then 7 else 0
def pY(a b:Dw):Bool:=decide (a.left=b.left/\a.right=b.right)
def TT(g:Ac)(i:Nat):Int:=
 if Vy (g.AP.getD i default).left=false then 5
 else if (g.AP.getD i default).left∈g.Ae then 13
 else if 20<(g.AP.getD i default).right.length then 2
 else if ¬(0<=(g.AP.getD i default).level/\(g.AP.getD i default).level<=99) then 1
 else if ∃j,j<i/\pY (g.AP.getD j default) (g.AP.getD i default)=true then 6 else 0
def Ac.sym(g:Ac)(s:Bz):Bool:=decide (s∈g.Ae)||g.isLeft s
def Ac.JR(g:Ac):Int:=Pb (Rx g.Ae) g.Ae.length
def Ac.Qh(g:Ac):Int:=Pb (TT g) g.AP.length
def Ac.UT(g:Ac):Bool:=g.AP.all fun r=>r.right.all g.sym
def Ac.fault(g:Ac):Int:=
 if g.JR≠0 then g.JR else if g.AP.length=0 then 8 else if g.Qh≠0 then g.Qh
 else if g.UT=false then 8 else if g.isLeft g.Ai=false then 8 else 0
structure Ac.Ok (g:Ac):Prop where
 up:Up g.Ae
 apart:∀s,s∈g.Ae->s∉g.Km
 syms:∀r∈g.AP,∀s∈r.right,s∈g.Ae∨s∈g.Km
 Ai:g.Ai∈g.Km
theorem lM{l:List Bz}(h:∀i,0<i->i<l.length->l.getD (i-1) []<l.getD i []):Up l:=by
 induction l with
 |nil=>simp[Up]
 |cons x l f=>
  have b:Up l:=f fun i g d=>by have:=h (i+1) (by omega) (by simpa using d);obtain⟨i,rfl⟩:∃k,i=k+1:=⟨i-1,by omega⟩;simpa using this
  refine Hg.2 ⟨?_,b⟩;cases l with
  |nil=>simp
  |cons y l=>
   have a:x<y:=by simpa using h 1 (by omega) (by simp)
   intro s c;rcases BK.1 c with e|c
   ·subst e;exact a
   ·exact Nr a ((Hg.1 b).1 s c)
theorem Ac.ok{g:Ac}(h:g.fault=0):g.Ok:=by
 unfold Ac.fault at h;split at h
 ·rename_i b;exact absurd h b
 rename_i b;split at h
 ·cases h
 split at h
 ·rename_i b;exact absurd h b
 rename_i k;split at h
 ·cases h
 rename_i n;split at h
 ·cases h
 rename_i p;simp only[ne_eq,Decidable.not_not]at b k;refine⟨lM fun i m d=>?_,fun s j l=>?_,fun r f s j=>?_,Ac.Mj.2 (by simpa using p)⟩
 ·have:=Qy b i d;unfold Rx at this;split at this
  ·cases this
  split at this
  ·cases this
  rename_i q;exact Decidable.not_not.1 fun o=>q ⟨m,o⟩
 ·have a:=Ac.Mj.1 l;unfold Ac.isLeft at a;simp only[QS,IJ]at a;obtain⟨r,f,rfl⟩:=a;obtain⟨i,d,rfl⟩:=Du f;have:=Qy k i d;unfold TT at this;have e:g.AP.getD i default=g.AP[i]:=by simp[List.getD,d]
  rw[e]at this;split at this
  ·cases this
  first
   |cases this
   |(rw[AX j]at this;cases this)
 ·have c:g.UT=true:=by simpa using n
  unfold Ac.UT at c;have:=Fj.1 (Fj.1 c r f) s j;unfold Ac.sym at this;simp only[FO,Aw]at this;rcases this with h|h
  ·exact .inl h
  ·exact .inr (Ac.Mj.2 h)
theorem Ac.gX{g:Ac}(h:g.Ok):0<g.AP.length:=by have:=Ac.Mj.1 h.Ai;unfold Ac.isLeft at this;simp only[QS]at this;obtain⟨r,a,_⟩:=this;exact List.length_pos_of_mem a
inductive kY (base:Bz->Prop) (g:Ac):Bz->Prop
 |base {s:Bz} (h:base s):kY base g s
 |FJ {r:Dw} (hr:r∈g.AP) (h:∀x∈r.right,kY base g x):kY base g r.left
inductive Reach (g:Ac):Bz->Prop
 |Ai:Reach g g.Ai
 |step {r:Dw} {x:Bz} (hr:r∈g.AP) (h:Reach g r.left) (hx:x∈r.right):Reach g x
def VT(g:Ac):Bz->Prop:=kY (fun _=>False) g
def AB2(g:Ac)(s x:Bz):Prop:=∃r∈g.AP,r.left=s/\∃a b,r.right=a++x::b/\(∀y∈a,VT g y)/\∀y∈b,VT g y
inductive eu (g:Ac) (s:Bz):Bz->Prop
 |one {x:Bz} (h:AB2 g s x):eu g s x
 |more {x y:Bz} (h:eu g s x) (k:AB2 g x y):eu g s y
end Go.Am
