/- A part of the proof of beginningsTold (merged by a program). -/
import Derived.Test.YtehhlchbbdaipaaGreatDoorW5
namespace Go.Am
open Go
section
variable {E:Env}{call:Nat->List AV->St->M (AV × St)}{s d q i:Nat}{b:Bool}{k:AK}{args:List II}{l:List (Nat × Cj × List Nat)}{ts:TS}{st:St}
theorem KL (h:ts.get q=.bool b):Dp E call s ((i,⟨some d,some (q,b),k,args⟩,[])::l) [] ts st=Dp E call s ((i,⟨some d,none,k,args⟩,[])::l) [] ts st:=by
 rw[bE,h]; simp
theorem Jp (h:ts.get q=.bool (!b)):Dp E call s ((i,⟨some d,some (q,b),k,args⟩,[])::l) [] ts st=Dp E call s l [] (ts.set d .undef) st:=by
 rw[bE,h]; simp
end
structure Ra (id:Nat)(st st':St):Prop where
 c:st'.c=st.c
 lo:st'.lo=st.lo
 hb:HB st->HB st'
 fr:∀p,p≠id->AA st'.h p=AA st.h p
theorem Ra.refl {id:Nat}{st:St}:Ra id st st:=⟨rfl,rfl,fun h=>h,fun _ _=>rfl⟩
theorem Ra.Ab {id:Nat}{st st':St}{x y:Ai}(H:Ra id st st')(hf:AA st'.h id=some x):Ra id st { st' with h:=Ab st'.h id y }:=
 ⟨H.c,H.lo,fun hb=>(H.hb hb).Ab,fun p hp=>by rw[← H.fr p hp]; show AA (Am.Ab st'.h id y) p=_; rw[AR hf,if_neg (Ne.symm hp)]⟩
theorem Oi (L:List Aj)(j:Nat)(x:Aj):(strs L).set j (.str x)=strs (L.set j x):=by simp[strs,List.map_set]
theorem strs_get? (L:List Aj)(j:Nat)(h:j<L.length):(strs L)[j]?=some (.str (L.getD j [])):=by simp[strs,List.getD,h]
theorem HZ {L:List Aj}{i:Nat}{a:Aj}(h:i<L.length)(p:Nat):(L.set i a).getD p []=if p=i then a else L.getD p []:=by
 simp only[List.getD,List.getElem?_set]
 by_cases e:p=i
 ·subst e; simp[h]
 ·rw[if_neg (Ne.symm e),if_neg e]
theorem Mo {L:List Aj}{s:Aj}:s∈L↔∃p,p<L.length/\L.getD p []=s:=by
 constructor
 ·intro h
  obtain⟨p,hp,rfl⟩:=List.getElem_of_mem h
  exact⟨p,hp,by simp[List.getD,hp]⟩
 ·rintro⟨p,hp,rfl⟩
  simp only[List.getD,List.getElem?_eq_getElem hp,Option.getD_some]
  exact List.getElem_mem hp
theorem Gc {st:St}{id n i ty:Nat}{cap:Option Nat}{cs:List AV}{ext:Bool}(hf:AA st.h id=some (.cells ty 1 cs ext))(hi:i<n):Aa 1 (.AQ id 0 n cap) (.int .i64 (i:Int)) st=some (.AO id i,st):=by
 simp[Aa,Bb,hf,blt_eq,hi,beq_eq]
theorem mD {k:Nat}{a b:Aj}{st:St}:AU E (k+2) 181 [.str a,.str b] st=.ret (.bool (decide (a<b)),st):=by
 have hnan:∀x:Aj,AU E (k+1) 201 [.str x] st=.ret (.bool false,st):=fun x=>by
  rw[Ap (fn:=C.f201) rfl rfl rfl,Ad (by simp)]
  simp[C.f201,leave,results,AY]
 rw[Ap (fn:=C.f181) rfl rfl rfl,Ad (by simp)]
 simp[C.f181,hnan,Az,Av,Nf,leave,results,AY]
def cK (L:List Aj)(i:Nat):Prop:=∀p q,p<q->q<i->¬L.getD q []<L.getD p []
def Qc (L:List Aj)(i j:Nat):Prop:=∀p q,p<q->q<=i->q≠j->¬L.getD q []<L.getD p []
theorem VQ {x y z:Aj}(h:¬y<x)(k:¬z<y):¬z<x:=by
 intro hzx
 by_cases e:y=x
 ·subst e; exact k hzx
 ·have:=Iy h e
  exact k (Ku hzx this)
theorem Qc.fin {L:List Aj}{i j:Nat}(H:Qc L i j)(h:j=0∨¬L.getD j []<L.getD (j-1) []):cK L (i+1):=by
 intro p q hpq hq
 by_cases e:q=j
 ·subst e
  rcases h with h|h
  ·omega
  ·by_cases e2:p=q-1
   ·subst e2; exact h
   ·exact VQ (H p (q-1) (by omega) (by omega) (by omega)) h
 ·exact H p q hpq (by omega) e
def kW (L:List Aj)(j:Nat):List Aj:=(L.set j (L.getD (j-1) [])).set (j-1) (L.getD j [])
theorem ZG (L:List Aj)(j:Nat):(kW L j).length=L.length:=by simp[kW]
theorem NQ {L:List Aj}{j:Nat}(h0:0<j)(h:j<L.length)(p:Nat):(kW L j).getD p []=if p=j-1 then L.getD j [] else if p=j then L.getD (j-1) [] else L.getD p []:=by
 unfold kW
 rw[HZ (by simp; omega),HZ h]
theorem lJ {L:List Aj}{j:Nat}(h0:0<j)(h:j<L.length)(s:Aj):s∈kW L j↔s∈L:=by
 rw[Mo,Mo,ZG]
 constructor
 ·rintro⟨p,hp,e⟩
  rw[NQ h0 h] at e
  split at e
  ·exact⟨j,h,e⟩
  split at e
  ·exact⟨j-1,by omega,e⟩
  ·exact⟨p,hp,e⟩
 ·rintro⟨p,hp,e⟩
  by_cases e1:p=j
  ·exact⟨j-1,by omega,by rw[NQ h0 h,if_pos rfl,← e1]; exact e⟩
  ·by_cases e2:p=j-1
   ·exact⟨j,h,by rw[NQ h0 h,if_neg (by omega),if_pos rfl,← e2]; exact e⟩
   ·exact⟨p,hp,by rw[NQ h0 h,if_neg e2,if_neg e1]; exact e⟩
theorem Qc.kW {L:List Aj}{i j:Nat}(H:Qc L i j)(h0:0<j)(hj:j<L.length)(hji:j<=i)(Au:L.getD j []<L.getD (j-1) []):Qc (kW L j) i (j-1):=by
 intro p q hpq hq hne
 rw[NQ h0 hj,NQ h0 hj,if_neg hne]
 by_cases e:q=j
 ·subst e
  rw[if_pos rfl]
  by_cases e2:p=q-1
  ·rw[if_pos e2]; exact NR Au
  ·rw[if_neg e2,if_neg (by omega)]
   exact H p (q-1) (by omega) (by omega) (by omega)
 ·rw[if_neg e]
  by_cases e2:p=j-1
  ·rw[if_pos e2]; exact H j q (by omega) hq e
  ·rw[if_neg e2]
   by_cases e3:p=j
   ·rw[if_pos e3]; exact H (j-1) q (by omega) hq e
   ·rw[if_neg e3]; exact H p q hpq hq e
structure Po (id:Nat)(ext:Bool)(L0:List Aj)(st0:St)(L:List Aj)(st:St):Prop where
 at_:AA st.h id=some (.cells 9 1 (strs L) ext)
 len:L.length=L0.length
 mem:∀s,s∈L↔s∈L0
 only:Ra id st0 st
section
variable {id:Nat}{ext:Bool}{cap:Option Nat}{L0:List Aj}{st0:St}
theorem ZK {k i:Nat}(hlo:st0.lo<=id)(hi:i<L0.length)(hn:L0.length<=1000)(ts0:TS)(st:St)(L:List Aj)(H:Po id ext L0 st0 L st)(hs:cK L i)(h0:ts0.get 0=.AQ id 0 L0.length cap)(h1:ts0.get 1=.int .i64 0)(h2:ts0.get 2=.int .i64 (L0.length:Int))(h6:ts0.get 6=.int .i64 (i:Int))(h7:ts0.get 7=.int .i64 (i:Int)) :
 (CJ (Ar E (AU E (k+2)) C.f175L1) E.k ts0 st).to fun x=>x.1=.exit 2/\x.2.1.get 0=.AQ id 0 L0.length cap/\x.2.1.get 1=.int .i64 0/\x.2.1.get 2=.int .i64 (L0.length:Int)/\x.2.1.get 6=.int .i64 (i:Int)/\∃L,Po id ext L0 st0 L x.2.2/\cK L (i+1):=by
 refine Be (fun (j:Nat) ts st=>j<=i/\ts.get 0=.AQ id 0 L0.length cap/\ts.get 1=.int .i64 0/\ts.get 2=.int .i64 (L0.length:Int)/\ts.get 6=.int .i64 (i:Int)/\ts.get 7=.int .i64 (j:Int)/\∃L,Po id ext L0 st0 L st/\Qc L i j)
  (fun j=>j) ?_ _ i _ _ ?_ ?_
 ·rintro j ts st ⟨hji,h0,h1,h2,h6,h7,L,H,hs⟩
  have hlen:=H.len
  by_cases hj0:0<j
  ·have hcast:((j:Int)-1)=((j-1:Nat):Int):=by omega
   have rd:∀p,p<L0.length->AP st.h (.AO id p)=some (.str (L.getD p [])):=fun p hp=>by rw[AB H.at_,strs_get? _ _ (by omega)]
   obtain⟨a,ha⟩:∃a,L.getD j []=a:=⟨_,rfl⟩
   obtain⟨b,hb⟩:∃b,L.getD (j-1) []=b:=⟨_,rfl⟩
   have rda:=rd j (by omega)
   have rdb:=rd (j-1) (by omega)
   rw[ha] at rda
   rw[hb] at rdb
   have hless:=mD (k:=k) (a:=a) (b:=b) (st:=st)
   by_cases Au:a<b
   ·have hsw:kW L j=(L.set j b).set (j-1) a:=by unfold kW; rw[ha,hb]
    have s1:=BX (st:=st) (off:=j) (v:=.str b) H.at_ (by rw[H.only.lo]; exact hlo) (by simp; omega) rfl rfl
    rw[Oi] at s1
    have f1:AA (Ab st.h id (.cells 9 1 (strs (L.set j b)) ext)) id=some (.cells 9 1 (strs (L.set j b)) ext):=by rw[AR H.at_,if_pos rfl]
    have s2:=BX (st:={ st with h:=Ab st.h id (.cells 9 1 (strs (L.set j b)) ext) }) (off:=j-1) (v:=.str a) f1 (by show st.lo<=id; rw[H.only.lo]; exact hlo) (by simp; omega) rfl rfl
    rw[Oi] at s2
    have i1:Aa 1 (.AQ id 0 L0.length cap) (.int .i64 ((j-1:Nat):Int)) { st with h:=Ab st.h id (.cells 9 1 (strs (L.set j b)) ext) }=some (.AO id (j-1),{ st with h:=Ab st.h id (.cells 9 1 (strs (L.set j b)) ext) }):=Gc f1 (by omega)
    simp only[decide_eq_true Au] at hless
    simp[C.f175L1,KL,h0,h1,h2,h6,h7,hj0,Gc H.at_ (show j<L0.length by omega),Gc H.at_ (show j-1<L0.length by omega),hcast,wrap64 (n:=((j-1:Nat):Int)) (by omega) (by omega),rda,rdb,hless,s1,i1,s2]
    refine⟨j-1,by omega,by omega,rfl,(L.set j b).set (j-1) a,⟨?_,by simpa using hlen,fun s=>(hsw ▸ (lJ hj0 (by omega) s).trans (H.mem s)),?_⟩,hsw ▸ hs.kW hj0 (by omega) hji (by rw[ha,hb]; exact Au)⟩
    ·show AA (Ab _ _ _) _=_
     rw[AR f1,if_pos rfl]
    ·exact (H.only.Ab H.at_).Ab f1
   ·simp only[decide_eq_false Au] at hless
    simp[C.f175L1,KL,h0,h1,h2,h6,h7,hj0,Gc H.at_ (show j<L0.length by omega),Gc H.at_ (show j-1<L0.length by omega),hcast,wrap64 (n:=((j-1:Nat):Int)) (by omega) (by omega),rda,rdb,hless]
    exact⟨L,H,hs.fin (.inr (by rw[ha,hb]; exact Au))⟩
  ·have:j=0:=by omega
   subst this
   simp[C.f175L1,Jp,h0,h1,h2,h6,h7]
   exact⟨L,H,hs.fin (.inl rfl)⟩
 ·show i<1000000; omega
 ·exact⟨by omega,h0,h1,h2,h6,h7,L,H,fun p q hpq hq hne=>hs p q hpq (by omega)⟩
theorem ZJ {k:Nat}(hlo:st0.lo<=id)(hn:L0.length<=1000)(ts0:TS)(st:St)(H:Po id ext L0 st0 L0 st)(h0:ts0.get 0=.AQ id 0 L0.length cap)(h1:ts0.get 1=.int .i64 0)(h2:ts0.get 2=.int .i64 (L0.length:Int))(h6:ts0.get 6=.int .i64 ((1:Nat):Int)) :
 (CJ (Ar E (AU E (k+2)) C.f175L0) E.k ts0 st).to fun x=>x.1=.exit 0/\∃L,Po id ext L0 st0 L x.2.2/\cK L L0.length:=by
 refine Be (fun (i:Nat) ts st=>1<=i/\ts.get 0=.AQ id 0 L0.length cap/\ts.get 1=.int .i64 0/\ts.get 2=.int .i64 (L0.length:Int)/\ts.get 6=.int .i64 (i:Int)/\(i<=L0.length∨i=1)/\∃L,Po id ext L0 st0 L st/\cK L i)
  (fun i=>L0.length+1-i) ?_ _ 1 _ _ ?_ ?_
 ·rintro i ts st ⟨h1i,h0,h1,h2,h6,hi,L,H,hs⟩
  by_cases Au:i<L0.length
  ·have loop:=fun ts0 z0 z1 z2 z6 z7=>ZK (k:=k) (cap:=cap) hlo Au hn ts0 st L H hs z0 z1 z2 z6 z7
   simp[C.f175L0,h0,h1,h2,h6,Au]
   refine M.Al (loop _ (by simp[h0]) (by simp[h1]) (by simp[h2]) (by simp[h6]) (by simp)) fun x hx=>?_
   obtain⟨e,ts1,st1⟩:=x
   obtain⟨h,g0,g1,g2,g6,L',H',hs'⟩:=hx
   simp only at h g0 g1 g2 g6 H'
   subst h
   simp[g0,g1,g2,g6,wi i]
   exact⟨i+1,by omega,by omega,by simp,by omega,L',H',hs'⟩
  ·simp[C.f175L0,h0,h1,h2,h6,Au]
   exact⟨L,H,fun p q hpq hq=>hs p q hpq (by omega)⟩
 ·show L0.length+1-1<1000000; omega
 ·exact⟨by omega,h0,h1,h2,h6,.inr rfl,L0,H,fun p q hpq hq=>by omega⟩
end
def VS:List UInt8:=[0,1,2,2,3,3,3,3,4,4,4,4,4,4,4,4,5,5,5,5,5,5,5,5,5,5,5,5,5,5,5,5,6,6,6,6,6,6,6,6,6,6,6,6,6,6,6,6,6,6,6,6,6,6,6,6,6,6,6,6,6,6,6,6,7,7,7,7,7,7,7,7,7,7,7,7,7,7,7,7,7,7,7,7,7,7,7,7,7,7,7,7,7,7,7,7,7,7,7,7,7,7,7,7,7,7,7,7,7,7,7,7,7,7,7,7,7,7,7,7,7,7,7,7,7,7,7,7,8,8,8,8,8,8,8,8,8,8,8,8,8,8,8,8,8,8,8,8,8,8,8,8,8,8,8,8,8,8,8,8,8,8,8,8,8,8,8,8,8,8,8,8,8,8,8,8,8,8,8,8,8,8,8,8,8,8,8,8,8,8,8,8,8,8,8,8,8,8,8,8,8,8,8,8,8,8,8,8,8,8,8,8,8,8,8,8,8,8,8,8,8,8,8,8,8,8,8,8,8,8,8,8,8,8,8,8,8,8,8,8,8,8,8,8,8,8,8,8,8,8,8,8,8,8,8,8]
def bJ (T:II)(x y z:Int):Ag:=C.S (C.R 0 [C.o 2 .move [C.i 0]]) (C.S (C.S (C.R 0 [C.m 3 0,C.o 4 (.bin .geq) [C.t 3,.val (.int .u64 x)]]) (C.C (C.t 4) (C.S (C.R 0 [C.m 5 0,C.o 6 (.bin .shr) [C.t 5,.val (.int .u64 32)],C.m 0 6]) (C.R 0 [C.o 2 .move [C.i 32]])) .skip)) (C.S (C.S (C.R 0 [C.m 7 0,C.o 8 (.bin .geq) [C.t 7,.val (.int .u64 y)]]) (C.C (C.t 8) (C.S (C.R 0 [C.m 9 0,C.o 10 (.bin .shr) [C.t 9,.val (.int .u64 16)],C.m 0 10]) (C.R 0 [C.m 11 2,C.o 12 (.bin .add) [C.t 11,C.i 16],C.m 2 12])) .skip)) (C.S (C.S (C.R 0 [C.m 13 0,C.o 14 (.bin .geq) [C.t 13,.val (.int .u64 z)]]) (C.C (C.t 14) (C.S (C.R 0 [C.m 15 0,C.o 16 (.bin .shr) [C.t 15,.val (.int .u64 8)],C.m 0 16]) (C.R 0 [C.m 17 2,C.o 18 (.bin .add) [C.t 17,C.i 8],C.m 2 18])) .skip)) (C.S (C.R 0 [C.m 19 2,C.m 20 0,C.o 21 (.CG .u8) [C.t 20],C.o 22 .Co [T,C.t 21],C.o 23 (.CG .i64) [C.t 22],C.o 24 (.bin .add) [C.t 19,C.t 23],C.m 2 24]) .ret))))
set_option maxRecDepth 100000 in
theorem jJ:C.f185=⟨[.tmp 2],.BG,bJ (.val (.str VS)) 4294967296 65536 256⟩:=rfl
set_option maxRecDepth 100000 in
theorem qF {k n:Nat}(hn:n<=12)(st:St):∃v,AU E (k+2) 125 [.int .u64 (n:Int)] st=.ret (v,st):=by
 have g:∀m:Int,256<=m->bin .geq (.int .u64 (n:Int)) (.int .u64 m)=some (.bool false):=fun m hm=>by
  show some (AV.bool (decide (m<=(n:Int))))=_
  rw[decide_eq_false (by omega)]
 have hconv:IntKind.u8.wrap (n:Int)=(n:Int):=by
  have:n=0∨n=1∨n=2∨n=3∨n=4∨n=5∨n=6∨n=7∨n=8∨n=9∨n=10∨n=11∨n=12:=by omega
  rcases this with rfl|rfl|rfl|rfl|rfl|rfl|rfl|rfl|rfl|rfl|rfl|rfl|rfl <;> rfl
 have hix:∀l:List UInt8,13<=l.length->∃b:UInt8,DC (.str l) (.int .u8 (n:Int)) st=some (.int .u8 b.toNat,st):=fun l hl=>by
  have h:n<l.length:=by omega
  refine⟨l[n],?_⟩
  have:asNat (.int .u8 (n:Int))=some n:=rfl
  simp[DC,this,h]
 have main:∃v,AU E (k+1) 185 [.int .u64 (n:Int)] st=.ret (v,st):=by
  rw[Ap (fn:=C.f185) rfl rfl rfl,jJ,Ad (by simp)]
  obtain⟨b,hb⟩:=hix VS (by
   obtain⟨rest,h⟩:∃rest,VS=0::1::2::2::3::3::3::3::4::4::4::4::4::rest:=⟨_,rfl⟩
   rw[h]; simp only[List.length_cons]; omega)
  generalize VS=tbl at hb
  have gx:=g 4294967296 (by omega)
  have gy:=g 65536 (by omega)
  have gz:=g 256 (by omega)
  generalize (4294967296:Int)=x at gx
  generalize (65536:Int)=y at gy
  generalize (256:Int)=z at gz
  simp[bJ,gx,gy,gz,hconv,hb,leave,results,AY]
 obtain⟨v,hv⟩:=main
 refine⟨v,?_⟩
 rw[Ap (fn:=C.f125) rfl rfl rfl,Ad (by simp)]
 simp[C.f125,hv,leave,results,AY]
theorem WW {k id:Nat}{ext:Bool}{cap:Option Nat}{L:List Aj}{st:St}(hf:AA st.h id=some (.cells 9 1 (strs L) ext))(hlo:st.lo<=id)(hn:L.length<=12) :
 (AU E (k+5) 55 [.AQ id 0 L.length cap] st).to fun x=>∃L',Po id ext L st L' x.2/\cK L' L.length:=by
 have H0:Po id ext L st L st:=⟨hf,rfl,fun _=>.rfl,.refl⟩
 have ins:(AU E (k+3) 175 [.AQ id 0 L.length cap,.int .i64 0,.int .i64 (L.length:Int)] st).to fun x=>x.1=.tuple []/\∃L',Po id ext L st L' x.2/\cK L' L.length:=by
  rw[Ap (fn:=C.f175) rfl rfl rfl,Ad (by simp)]
  simp[C.f175]
  refine M.Al (ZJ (k:=k) (cap:=cap) hlo (by omega) _ st H0 (by simp) (by simp) (by simp) (by simp; rfl)) fun x hx=>?_
  obtain⟨e,ts1,st1⟩:=x
  obtain⟨h,L',H',hs'⟩:=hx
  simp only at h H'
  subst h
  simp[leave,results,AY]
  exact⟨L',H',hs'⟩
 have pdq:∀v,(AU E (k+4) 124 [.AQ id 0 L.length cap,.int .i64 0,.int .i64 (L.length:Int),v] st).to fun x=>x.1=.tuple []/\∃L',Po id ext L st L' x.2/\cK L' L.length:=fun v=>by
  rw[Ap (fn:=C.f124) rfl rfl rfl,Ad (by simp)]
  have h12:(L.length:Int)<=12:=by omega
  simp[C.f124]
  refine M.Al (DU (fun (_:Nat) ts st'=>st'=st/\ts.get 0=.AQ id 0 L.length cap/\ts.get 1=.int .i64 0/\ts.get 2=.int .i64 (L.length:Int)) (fun _=>0) (fun e ts st'=>e=.ret/\∃L',Po id ext L st L' st'/\cK L' L.length) ?step _ 0 _ _ ?_ ?_) ?_
  case step=>
   rintro _ ts st' ⟨rfl,h0,h1,h2⟩
   simp[C.f124L0,h0,h1,h2,h12,wrap64 (n:=(L.length:Int)) (by omega) (by omega)]
   refine M.Al ins fun x hx=>?_
   obtain⟨v1,st1⟩:=x
   obtain⟨h,L',H',hs'⟩:=hx
   simp only at h H'
   simp
   exact⟨L',H',hs'⟩
  ·show 0<1000000; omega
  ·simp
  ·rintro⟨e,ts,st1⟩ ⟨h,L',H',hs'⟩
   simp only at h H'
   subst h
   simp[leave,results,AY]
   exact⟨L',H',hs'⟩
 obtain⟨v,hv⟩:=qF (k:=k+2) hn st
 rw[Ap (fn:=C.f55) rfl rfl rfl,Ad (by simp)]
 have hconv:IntKind.u64.wrap (L.length:Int)=(L.length:Int):=by
  have:L.length=0∨L.length=1∨L.length=2∨L.length=3∨L.length=4∨L.length=5∨L.length=6∨L.length=7∨L.length=8∨L.length=9∨L.length=10∨L.length=11∨L.length=12:=by omega
  rcases this with e|e|e|e|e|e|e|e|e|e|e|e|e <;> (rw[e]; rfl)
 simp[C.f55,BO,Bq,hconv,hv]
 refine M.Al (pdq v) fun x hx=>?_
 obtain⟨v1,st1⟩:=x
 obtain⟨h,L',H',hs'⟩:=hx
 simp only at h H'
 simp[leave,results,AY]
 exact⟨L',H',hs'⟩
def kE (h:Af)(id:Nat)(w:AV)(U:List Aj):Prop:=∃rest ext,w=.AQ id 0 U.length none/\AA h id=some (.cells 9 1 (strs U++rest) ext)
theorem OD {st:St}{id n k off ty:Nat}{cs:List AV}{ext:Bool}(hf:AA st.h id=some (.cells ty 1 cs ext))(hk:k<=n)(hn:off+n<=cs.length) :
 CF 1 true false false [.AQ id off n none,.int .i64 (k:Int)] st=some (.AQ id (off+k) (n-k) none,st):=by
 simp[CF,Dc,Bb,Cz,hf,beq_eq,blt_eq,Du,ble_eq,hk,hn]
theorem Ol {st:St}{id n k off ty:Nat}{cs:List AV}{ext:Bool}(hf:AA st.h id=some (.cells ty 1 cs ext))(hk:off+k<=cs.length) :
 CF 1 false true false [.AQ id off n none,.int .i64 (k:Int)] st=some (.AQ id off k none,st):=by
 simp[CF,Dc,Bb,Cz,hf,beq_eq,blt_eq,Du,ble_eq,hk]
theorem Ve {st:St}{id n i ty off:Nat}{cap:Option Nat}{cs:List AV}{ext:Bool}(hf:AA st.h id=some (.cells ty 1 cs ext))(hi:i<n):Aa 1 (.AQ id off n cap) (.int .i64 (i:Int)) st=some (.AO id (off+i),st):=by
 simp[Aa,Bb,hf,blt_eq,hi,beq_eq]
theorem Ll (zero:List AV):∀n,(CQ zero n).length=n*zero.length
 |0=>by simp[CQ]
 |n+1=>by rw[CQ,List.length_append,Ll zero n,Nat.succ_mul]; omega
theorem fT {st:St}{id k n:Nat}{C:List Aj}{ext:Bool}(hf:AA st.h id=some (.cells 9 1 (strs C) ext))(hlo:st.lo<=id)(hk:k<=C.length)(hn:n=C.length-k) :
 ∃rest,Dk [.str []] (.AQ id k n none) st=some (.tuple [],{ st with h:=Ab st.h id (.cells 9 1 (strs (C.take k)++rest) ext) })∨(Dk [.str []] (.AQ id k n none) st=some (.tuple [],st)/\n=0):=by
 by_cases h0:n=0
 ·exact⟨[],.inr ⟨by simp[Dk,h0,beq_eq],h0⟩⟩
 ·have hl:=Ll [.str []] n
  simp only[List.length_cons,List.length_nil] at hl
  have hb:Nat.blt id st.lo=false:=by rw[blt_eq]; simp; omega
  refine⟨CQ [.str []] n++(strs C).drop (k+(CQ [.str []] n).length),.inl ?_⟩
  simp[Dk,beq_eq,h0,hf,Bl,hb,ble_eq,hl,BM,show k+n<=C.length by omega,strs,List.map_take]
def kR (C:List Aj)(k:Nat):Prop:=∀p q,p<q->q<k->C.getD p []<C.getD q []
theorem kR.up {C:List Aj}{k:Nat}(H:kR C k)(hk:k<=C.length):Up (C.take k):=by
 unfold Up
 rw[List.pairwise_iff_getElem]
 intro i j hi hj hij
 simp only[List.length_take] at hi hj
 have:=H i j hij (by omega)
 have e1:C.getD i []=C[i]'(by omega):=by simp[List.getD,show i<C.length by omega]
 have e2:C.getD j []=C[j]'(by omega):=by simp[List.getD,show j<C.length by omega]
 rw[e1,e2] at this
 simpa using this
theorem cK.le {L:List Aj}{n i j:Nat}(H:cK L n)(hij:i<=j)(hj:j<n):¬L.getD j []<L.getD i []:=by
 by_cases e:i=j
 ·subst e; exact Hm _
 ·exact H i j (by omega) hj
theorem le_lt_trans {x y z:Aj}(h:¬y<x)(k:y<z):x<z:=by
 by_cases e:x=y
 ·subst e; exact k
 ·exact Ku (Iy h (Ne.symm e)) k
section
variable {id:Nat}{ext:Bool}{L:List Aj}{st0:St}
structure nW (id:Nat)(ext:Bool)(L:List Aj)(st0:St)(k0 k2 k:Nat)(C:List Aj)(st:St):Prop where
 at_:AA st.h id=some (.cells 9 1 (strs C) ext)
 len:C.length=L.length
 only:Ra id st0 st
 up:kR C k
 k1:1<=k
 kk:k<=k0+k2-1
 last:C.getD (k-1) []=L.getD (k0+k2-1) []
 same:∀p,k0+k2-1<=p->C.getD p []=L.getD p []
 mem:∀s,(∃p,p<k/\C.getD p []=s)↔∃p,p<k0+k2/\L.getD p []=s
theorem UA {n k0:Nat}{E':Nat->List AV->St->M (AV × St)}(hS:cK L L.length)(hlo:st0.lo<=id)(hk0:k0<L.length)(hk1:1<=k0)(hn:L.length<=1000)(ts0:TS)(st:St)(H:nW id ext L st0 k0 1 k0 L st)(h0:ts0.get 0=.AQ id 0 L.length none)(h3:ts0.get 3=.int .i64 (k0:Int))(h4:ts0.get 4=.AQ id k0 (L.length-k0) none)(h5:ts0.get 5=.int .i64 ((1:Nat):Int)) :
 (CJ (Ar E E' C.f56L1) E.k ts0 st).to fun x=>x.1=.exit 2/\x.2.1.get 0=.AQ id 0 L.length none/\∃(k:Nat) (D:List Aj),x.2.1.get 3=.int .i64 (k:Int)/\k<=L.length/\nW id ext L st0 k0 (L.length-k0) k D x.2.2:=by
 refine Be (fun (k2:Nat) ts st=>1<=k2/\k2<=L.length-k0/\ts.get 0=.AQ id 0 L.length none/\ts.get 4=.AQ id k0 (L.length-k0) none/\ts.get 5=.int .i64 (k2:Int)/\∃(k:Nat) (D:List Aj),ts.get 3=.int .i64 (k:Int)/\nW id ext L st0 k0 k2 k D st)
  (fun k2=>L.length-k0-k2) ?_ _ 1 _ _ ?_ ?_
 ·rintro k2 ts st ⟨hk2,hk2',h0,h4,h5,k,D,h3,H⟩
  have hlen:=H.len
  have hkk:=H.kk
  have hk1':=H.k1
  by_cases Au:k2<L.length-k0
  ·have hcast:((k2:Int)-1)=((k2-1:Nat):Int):=by omega
   have hltI:(k2:Int)<((L.length-k0:Nat):Int):=by omega
   have hlenS:∀S:St,BO .slice (.AQ id k0 (L.length-k0) none) S=some (.int .i64 ((L.length-k0:Nat):Int),S):=fun S=>rfl
   obtain⟨a,ha⟩:∃a,L.getD (k0+k2) []=a:=⟨_,rfl⟩
   obtain⟨b,hb⟩:∃b,L.getD (k0+(k2-1)) []=b:=⟨_,rfl⟩
   have rda:AP st.h (.AO id (k0+k2))=some (.str a):=by rw[AB H.at_,strs_get? _ _ (by omega),H.same _ (by omega),ha]
   have rdb:AP st.h (.AO id (k0+(k2-1)))=some (.str b):=by rw[AB H.at_,strs_get? _ _ (by omega),H.same _ (by omega),hb]
   have hble:¬a<b:=by rw[← ha,← hb]; exact hS _ _ (by omega) (by omega)
   have hbl:b=L.getD (k0+k2-1) []:=by rw[← hb]; congr 1; omega
   by_cases he:a=b
   ·have hbne:(a != b)=false:=by simp[he]
    have hbe:(a==b)=true:=by simp[he]
    simp[C.f56L1,h0,h3,h4,h5,hlenS,hltI,Au,Ve H.at_ Au,Ve H.at_ (show k2-1<L.length-k0 by omega),hcast,wrap64 (n:=((k2-1:Nat):Int)) (by omega) (by omega),rda,rdb,hbe,wi k2]
    refine⟨k2+1,by omega,by omega,by omega,by simp,k,rfl,D,H.at_,H.len,H.only,H.up,H.k1,by omega,?_,fun p hp=>H.same p (by omega),fun s=>?_⟩
    ·rw[H.last,← hbl,← he,← ha]; congr 1
    ·rw[H.mem]
     constructor
     ·rintro⟨p,hp,e⟩; exact⟨p,by omega,e⟩
     ·rintro⟨p,hp,e⟩
      by_cases e2:p=k0+k2
      ·exact⟨k0+k2-1,by omega,by rw[← hbl,← he,← ha,← e2]; exact e⟩
      ·exact⟨p,by omega,e⟩
   ·have hbe:(a==b)=false:=beq_false_of_ne he
    have hab:b<a:=Iy hble he
    have s1:=BX (st:=st) (off:=k) (v:=.str a) H.at_ (by rw[H.only.lo]; exact hlo) (by simp; omega) rfl rfl
    rw[Oi] at s1
    have hkl:k<D.length:=by omega
    simp[C.f56L1,h0,h3,h4,h5,hlenS,hltI,Au,Ve H.at_ Au,Ve H.at_ (show k2-1<L.length-k0 by omega),hcast,wrap64 (n:=((k2-1:Nat):Int)) (by omega) (by omega),rda,rdb,hbe,Gc H.at_ (show k<L.length by omega),s1,wi k,wi k2]
    refine⟨k2+1,by omega,by omega,by omega,by simp,k+1,by simp,D.set k a,?_,by simpa using H.len,H.only.Ab H.at_,fun p q hpq hq=>?_,by omega,by omega,?_,fun p hp=>?_,fun s=>?_⟩
    ·show AA (Ab _ _ _) _=_
     rw[AR H.at_,if_pos rfl]
    ·rw[HZ hkl,HZ hkl,if_neg (by omega)]
     by_cases e:q=k
     ·rw[if_pos e]
      refine le_lt_trans (y:=b) ?_ hab
      rw[hbl,← H.last]
      by_cases e2:p=k-1
      ·rw[e2]; exact Hm _
      ·exact NR (H.up p (k-1) (by omega) (by omega))
     ·rw[if_neg e]; exact H.up p q hpq (by omega)
    ·rw[Nat.add_sub_cancel,HZ hkl,if_pos rfl,← ha]; congr 1
    ·rw[HZ hkl,if_neg (by omega)]; exact H.same p (by omega)
    ·constructor
     ·rintro⟨p,hp,e⟩
      rw[HZ hkl] at e
      split at e
      ·exact⟨k0+k2,by omega,by rw[ha]; exact e⟩
      ·obtain⟨p',hp',e'⟩:=(H.mem s).1 ⟨p,by omega,e⟩
       exact⟨p',by omega,e'⟩
     ·rintro⟨p,hp,e⟩
      by_cases e2:p=k0+k2
      ·exact⟨k,by omega,by rw[HZ hkl,if_pos rfl,← ha,← e2]; exact e⟩
      ·obtain⟨p',hp',e'⟩:=(H.mem s).2 ⟨p,by omega,e⟩
       exact⟨p',by omega,by rw[HZ hkl,if_neg (by omega)]; exact e'⟩
  ·have:k2=L.length-k0:=by omega
   subst this
   have hlenS:∀S:St,BO .slice (.AQ id k0 (L.length-k0) none) S=some (.int .i64 ((L.length-k0:Nat):Int),S):=fun S=>rfl
   simp[C.f56L1,h0,h3,h4,h5,hlenS]
   exact⟨k,rfl,by omega,D,H⟩
 ·show L.length-k0-1<1000000; omega
 ·exact⟨by omega,by omega,h0,h4,h5,k0,L,h3,H⟩
theorem YJ {n:Nat}(hf:AA st0.h id=some (.cells 9 1 (strs L) ext))(hS:cK L L.length)(h1:1<=L.length)(hn:L.length<=1000)(hlo:st0.lo<=id) :
 (AU E (n+1) 56 [.AQ id 0 L.length none] st0).to fun x=>Ra id st0 x.2/\∃U,kE x.2.h id x.1 U/\Up U/\∀s,s∈U↔s∈L:=by
 rw[Ap (fn:=C.f56) rfl rfl rfl,Ad (by simp)]
 have hlenS:∀S:St,BO .slice (.AQ id 0 L.length none) S=some (.int .i64 (L.length:Int),S):=fun S=>rfl
 by_cases h2:L.length<2
 ·have h2I:(L.length:Int)<2:=by omega
  simp[C.f56,hlenS,h2I,leave,results,AY]
  refine⟨.refl,L,⟨[],ext,rfl,by simpa using hf⟩,?_,fun s=>.rfl⟩
  match L,h2 with
  |[],_=>simp[Up]
  |[a],_=>simp[Up]
 ·have h2I:¬(L.length:Int)<2:=by omega
  simp[C.f56,hlenS,h2I]
  refine M.Al (DU (fun (k:Nat) ts st=>st=st0/\1<=k/\k<=L.length/\ts.get 0=.AQ id 0 L.length none/\ts.get 3=.int .i64 (k:Int)/\kR L k)
   (fun k=>L.length-k) (fun e ts st=>(e=.exit 0/\st=st0/\kR L L.length/\ts.get 0=.AQ id 0 L.length none)∨(e=.ret/\Ra id st0 st/\∃U,kE st.h id (ts.get 2) U/\Up U/\∀s,s∈U↔s∈L)) ?step _ 1 _ _ ?_ ?_) ?_
  case step=>
   rintro k ts st ⟨rfl,hk1,hkn,h0,h3,hU⟩
   by_cases Au:k<L.length
   ·have hcast:((k:Int)-1)=((k-1:Nat):Int):=by omega
    obtain⟨a,ha⟩:∃a,L.getD k []=a:=⟨_,rfl⟩
    obtain⟨b,hb⟩:∃b,L.getD (k-1) []=b:=⟨_,rfl⟩
    have rda:AP st.h (.AO id k)=some (.str a):=by rw[AB hf,strs_get? _ _ (by omega),ha]
    have rdb:AP st.h (.AO id (k-1))=some (.str b):=by rw[AB hf,strs_get? _ _ (by omega),hb]
    have hble:¬a<b:=by rw[← ha,← hb]; exact hS _ _ (by omega) (by omega)
    by_cases he:a=b
    ·have hbe:(a==b)=true:=by simp[he]
     have sf:=OD (st:=st) (k:=k) (n:=L.length) (off:=0) hf (by omega) (by simp)
     rw[Nat.zero_add] at sf
     have C0:nW id ext L st k 1 k L st:=⟨hf,rfl,.refl,hU,hk1,by omega,by show L.getD (k-1) []=L.getD k []; rw[ha,hb,he],fun _ _=>rfl,fun s=>by
      constructor
      ·rintro⟨p,hp,e⟩; exact⟨p,by omega,e⟩
      ·rintro⟨p,hp,e⟩
       by_cases e2:p=k
       ·exact⟨k-1,by omega,by rw[hb,← he,← ha,← e2]; exact e⟩
       ·exact⟨p,by omega,e⟩⟩
     have loop:=fun ts0 z0 z3 z4 z5=>UA (n:=n) (E':=AU E n) hS hlo Au hk1 hn ts0 st C0 z0 z3 z4 z5
     simp[C.f56L0,h0,h3,hlenS,Au,Gc hf Au,Gc hf (show k-1<L.length by omega),hcast,wrap64 (n:=((k-1:Nat):Int)) (by omega) (by omega),rda,rdb,hbe,sf]
     refine M.Al (loop _ (by simp[h0]) (by simp[h3]) (by simp) (by simp)) fun x hx=>?_
     obtain⟨e,ts1,st1⟩:=x
     obtain⟨h,g0,k',Cc,g3,hk'n,H⟩:=hx
     simp only at h g0 g3 H
     subst h
     have hlenC:=H.len
     have sf':=OD (st:=st1) (k:=k') (n:=L.length) (off:=0) H.at_ hk'n (by simp; omega)
     rw[Nat.zero_add] at sf'
     have hUp:=H.up.up (by omega)
     have hmem:∀s,s∈Cc.take k'↔s∈L:=fun s=>by
      rw[Mo (L:=L)]
      have e:k+(L.length-k)=L.length:=by omega
      have hm:=H.mem s
      rw[e] at hm
      rw[← hm,Mo,List.length_take,Nat.min_eq_left (by omega)]
      constructor
      ·rintro⟨p,hp,e⟩; exact⟨p,hp,by rw[← e]; simp[List.getD,List.getElem?_take,hp]⟩
      ·rintro⟨p,hp,e⟩; exact⟨p,hp,by rw[← e]; simp[List.getD,List.getElem?_take,hp]⟩
     have hlt':(Cc.take k').length=k':=by rw[List.length_take]; omega
     obtain⟨rest,hcl|⟨hcl,hn0⟩⟩:=fT (st:=st1) (k:=k') (n:=L.length-k') H.at_ (by rw[H.only.lo]; exact hlo) (by omega) (by omega)
     ·have f1:AA (Ab st1.h id (.cells 9 1 (strs (Cc.take k')++rest) ext)) id=some (.cells 9 1 (strs (Cc.take k')++rest) ext):=by rw[AR H.at_,if_pos rfl]
      have st2:=Ol (st:={ st1 with h:=Ab st1.h id (.cells 9 1 (strs (Cc.take k')++rest) ext) }) (k:=k') (n:=L.length) (off:=0) f1 (by simp; omega)
      simp[g0,g3,sf',hcl,st2]
      exact⟨H.only.Ab H.at_,Cc.take k',⟨rest,ext,by rw[hlt'],f1⟩,hUp,hmem⟩
     ·have st2:=Ol (st:=st1) (k:=k') (n:=L.length) (off:=0) H.at_ (by simp; omega)
      simp[g0,g3,sf',hcl,st2]
      refine⟨H.only,Cc.take k',⟨strs (Cc.drop k'),ext,by rw[hlt'],?_⟩,hUp,hmem⟩
      rw[H.at_]; simp[strs,← List.map_append]
    ·have hbe:(a==b)=false:=beq_false_of_ne he
     have hab:b<a:=Iy hble he
     simp[C.f56L0,h0,h3,hlenS,Au,Gc hf Au,Gc hf (show k-1<L.length by omega),hcast,wrap64 (n:=((k-1:Nat):Int)) (by omega) (by omega),rda,rdb,hbe,wi k]
     refine⟨k+1,by omega,by omega,by omega,by simp,fun p q hpq hq=>?_⟩
     by_cases e:q=k
     ·subst e
      rw[ha]
      refine le_lt_trans (y:=b) ?_ hab
      rw[← hb]; exact hS.le (by omega) (by omega)
     ·exact hU p q hpq (by omega)
   ·have:k=L.length:=by omega
    subst this
    simp[C.f56L0,h0,h3,hlenS]
    exact hU
  ·show L.length-1<1000000; omega
  ·exact⟨rfl,by omega,by omega,by simp,by simp,fun p q hpq hq=>by omega⟩
  ·rintro⟨e,ts,st1⟩ (⟨h,hst,hU,h0⟩|⟨h,hO,U,hG,hUp,hm⟩)
   ·simp only at h hst h0
    subst h hst
    have:=hU.up (Nat.le_refl _)
    rw[List.take_length] at this
    simp[h0,leave,results,AY]
    exact⟨.refl,L,⟨[],ext,rfl,by simpa using hf⟩,this,fun s=>.rfl⟩
   ·simp only at h hO hG
    subst h
    simp[leave,results,AY]
    exact⟨hO,U,hG,hUp,hm⟩
end
theorem Ao {h:Af}{c p:Nat}{x:Ai}(hp:p<c):AA ((c,x)::h) p=AA h p:=by rw[AL,if_neg (by omega)]
theorem Wv {h:Af}{c lo ty sz bytes:Nat}{w x:AV}{xs:List AV}(hb:HB ⟨h,c,lo⟩)(H:Fa h ty sz w xs)(hw:∀p,Ah w=some p->lo<=p/\p<c)(hsz:0<sz)(hbt:bytes<=1000)(hl:xs.length<=1000)(hx:x.cells.length=sz) :
 ∃h2,BU (c+1) ty sz bytes w (.AQ c 0 1 (some 1)) ⟨(c,.cells ty sz x.cells false)::h,c+2,lo⟩=some (.AQ (c+1) 0 (xs.length+1) none,⟨h2,c+2,lo⟩)/\HB ⟨h2,c+2,lo⟩ /\
  AA h2 (c+1)=some (.cells ty sz ((xs++[x]).flatMap AV.cells) true)/\∀p,p<c->Ah w≠some p->AA h2 p=AA h p:=by
 have hz:Nat.beq sz 0=false:=by rw[beq_eq]; simp; omega
 have hss:Nat.beq sz sz=true:=Nat.beq_refl sz
 have htt:Nat.beq ty ty=true:=Nat.beq_refl ty
 have hsz0:sz≠0:=by omega
 have he:AA ((c,Ai.cells ty sz x.cells false)::h) c=some (.cells ty sz x.cells false):=by rw[AL,if_pos rfl]
 have hcs:BH ((c,Ai.cells ty sz x.cells false)::h) sz 1 (.AQ c 0 1 (some 1))=some x.cells:=by
  simp[BH,he,hss,ble_eq,hx]
  rw[← hx,List.take_length]
 have hroom:(xs.length+1)*bytes<=room/\xs.length+1<=room:=by
  have:=Nat.mul_le_mul (show xs.length+1<=1001 by omega) hbt
  unfold room
  constructor <;> omega
 have hb1:HB ⟨(c,Ai.cells ty sz x.cells false)::h,c+1,lo⟩:=HB.cons (h:=h) (c:=c) (lo:=lo) hb (by omega) (by omega)
 have grow1:∀(h:Af),(∀p y,(p,y)∈h->p<c+1)->∀cs,grow (c+1) ty sz bytes xs.length 1 cs ⟨h,c+2,lo⟩=some (.AQ (c+1) 0 (xs.length+1) none,⟨(c+1,.cells ty sz cs true)::h,c+2,lo⟩):=fun h hh cs=>by
  simp[grow,ble_eq,hroom.1,hroom.2,Ac hh]
 cases H with
 |nl=>
  refine⟨(c+1,.cells ty sz x.cells true)::(c,Ai.cells ty sz x.cells false)::h,?_,HB.cons (h:=(c,Ai.cells ty sz x.cells false)::h) (c:=c+1) (lo:=lo) hb1 (by omega) (by omega),by simp[AL],fun p hp _=>by rw[Ao (by omega),Ao hp]⟩
  have:=grow1 _ hb1 x.cells
  simp only[List.length_nil] at this
  simp only[BU,lenOf,hcs,BK,hz,cond_false]
  simp only[show Nat.beq 1 0=false from rfl,cond_false]
  exact this
 |mt i2 ext hf=>
  refine⟨(c+1,.cells ty sz x.cells true)::(c,Ai.cells ty sz x.cells false)::h,?_,HB.cons (h:=(c,Ai.cells ty sz x.cells false)::h) (c:=c+1) (lo:=lo) hb1 (by omega) (by omega),by simp[AL],fun p hp _=>by rw[Ao (by omega),Ao hp]⟩
  have:=grow1 _ hb1 x.cells
  have hf':AA ((c,Ai.cells ty sz x.cells false)::h) i2=some (.cells ty sz [] ext):=by rw[Ao (hw i2 rfl).2]; exact hf
  simp only[List.length_nil] at this
  simp only[BU,lenOf,hcs,BK,hz,cond_false]
  simp only[show Nat.beq 1 0=false from rfl,cond_false,Cn,hf',htt,hss,List.length_nil,Nat.zero_mul,Nat.add_zero,Nat.zero_add,Bool.and_self,Bool.true_and,cond_true,List.drop_nil,List.take_nil,List.nil_append]
  exact this
 |ob i2 xs h0 h1 hf=>
  have hi2:=hw i2 rfl
  have hlen3:=BD h1
  have hf':AA ((c,Ai.cells ty sz x.cells false)::h) i2=some (.cells ty sz (xs.flatMap AV.cells) true):=by rw[Ao hi2.2]; exact hf
  have hbd:∀p y,(p,y)∈HY ((c,Ai.cells ty sz x.cells false)::h) i2->p<c+1:=fun p y hm=>hb1 p y (Gy hm)
  refine⟨(c+1,.cells ty sz (xs.flatMap AV.cells++x.cells) true)::HY ((c,Ai.cells ty sz x.cells false)::h) i2,?_,HB.cons (h:=HY ((c,Ai.cells ty sz x.cells false)::h) i2) (c:=c+1) (lo:=lo) hbd (by omega) (by omega),by simp[AL],fun p hp hne=>?_⟩
  ·have:=grow1 _ hbd (xs.flatMap AV.cells++x.cells)
   have hb1:Nat.ble (xs.length*sz) (xs.flatMap AV.cells).length=true:=Nat.ble_eq_true_of_le (by omega)
   have hb2:Nat.ble ((xs.length+1)*sz) (xs.flatMap AV.cells).length=false:=by rw[ble_eq,hlen3]; simp[Nat.succ_mul]; omega
   have hlo:Nat.ble lo i2=true:=Nat.ble_eq_true_of_le hi2.1
   have htk:(xs.flatMap AV.cells).take (xs.length*sz)=xs.flatMap AV.cells:=List.take_of_length_le (by omega)
   simp only[BU,lenOf,hcs,BK,hz,cond_false]
   simp only[show Nat.beq 1 0=false from rfl,cond_false,Cn,hf',htt,hss,Nat.zero_add,hb1,hb2,hlo,Bool.and_self,Bool.true_and,cond_true,List.drop_zero,htk]
   exact this
  ·have:i2≠p:=fun e=>hne (by rw[e]; rfl)
   rw[AL,if_neg (by omega),Dw,if_neg this,Ao hp]
structure Ma (st0 st:St):Prop where
 c:st0.c<=st.c
 lo:st.lo=st0.lo
 hb:HB st
 fr:∀p,p<st0.c->AA st.h p=AA st0.h p
theorem Ma.refl {st:St}(hb:HB st):Ma st st:=⟨Nat.le_refl _,rfl,hb,fun _ _=>rfl⟩
theorem Ma.trans {a b c:St}(h:Ma a b)(k:Ma b c):Ma a c:=⟨Nat.le_trans h.c k.c,k.lo.trans h.lo,k.hb,fun p hp=>(k.fr p (Nat.lt_of_lt_of_le hp h.c)).trans (h.fr p hp)⟩
theorem VT:C.f54.body=C.f9.body:=rfl
def FL (g:AX)(i:Nat):List Aj:=(g.rules.take i).map (·.left)
theorem VU {g:AX}{i:Nat}(hi:i<g.rules.length):FL g (i+1)=FL g i++[g.rules[i].left]:=by
 unfold FL; rw[List.take_succ_eq_append_getElem hi,List.map_append]; rfl
theorem Ic {g:AX}{i:Nat}(hi:i<=g.rules.length):(FL g i).length=i:=by unfold FL; simp; omega
set_option maxHeartbeats 1000000 in
theorem Zk {n:Nat}{g:AX}{rv:AV}{l:List AV}(hr:BI rv 3 l)(hrs:Bt l g.rules)(hs:g.Small)(st0:St)(hb0:HB st0)(hlo0:st0.lo<=st0.c)(ts0:TS)(h3:ts0.get 3=.AJ)(h7:ts0.get 7=rv)(h8:ts0.get 8=.int .i64 (g.rules.length:Int))(h9:ts0.get 9=.int .i64 ((0:Nat):Int)) :
 (CJ (Ar E (AU E n) C.f9L0) E.k ts0 st0).to fun x=>x.1=.exit 0/\Ma st0 x.2.2/\Fa x.2.2.h 9 1 (x.2.1.get 3) (strs (FL g g.rules.length))/\∀p,Ah (x.2.1.get 3)=some p->st0.c<=p/\p<x.2.2.c:=by
 have hln:=hrs.length
 have hmany:=hs.many
 refine Be (fun (i:Nat) ts st=>i<=g.rules.length/\ts.get 7=rv/\ts.get 8=.int .i64 (g.rules.length:Int)/\ts.get 9=.int .i64 (i:Int)/\Ma st0 st/\∃w,ts.get 3=w/\Fa st.h 9 1 w (strs (FL g i))/\∀p,Ah w=some p->st0.c<=p/\p<st.c)
  (fun i=>g.rules.length-i) ?_ _ 0 _ _ ?_ ?_
 ·rintro i ts st ⟨hi,h7,h8,h9,O,w,h3,M,hw⟩
  by_cases Au:i<g.rules.length
  ·have hil:i<l.length:=by omega
   obtain⟨w1,lv,e1⟩:=(hrs.get i Au).2.iZ
   obtain⟨h,c,lo⟩:=st
   have hOc:st0.c<=c:=O.c
   have hlo:lo=st0.lo:=O.lo
   have hb':∀p x,(p,x)∈h->p<c:=O.hb
   obtain⟨rc,hrc⟩:∃rc:List AV,rc=[.str g.rules[i].left,w1,lv]:=⟨_,rfl⟩
   obtain⟨h',hh'⟩:∃h':Af,h'=(c,Ai.cells 68 3 rc false)::h:=⟨_,rfl⟩
   have hbS:HB ⟨h',c+1,lo⟩:=hh' ▸ HB.cons (h:=h) (c:=c) (lo:=lo) O.hb (by omega) (by omega)
   have fr:∀p,p<c->AA h' p=AA h p:=fun p hp=>by rw[hh',AL,if_neg (by omega)]
   have hix:Aa 3 rv (.int .i64 (i:Int)) ⟨h,c+1,lo⟩=some (.BC l[i].cells,⟨h,c+1,lo⟩):=hr.idx hil
   have hcells:l[i].cells=rc:=by rw[e1,hrc]; rfl
   rw[hcells] at hix
   have hn:newObj c (.cells 68 3 [.str [],.AJ,.int .i64 0] false) ⟨h,c+1,lo⟩=some ⟨(c,.cells 68 3 [.str [],.AJ,.int .i64 0] false)::h,c+1,lo⟩:=Ac hb'
   have hst:=CO (h:=h) (c:=c) (c':=c+1) (lo:=lo) (ty:=68) (n:=3) (zs:=[.str [],.AJ,.int .i64 0]) (vs:=rc) (by omega) (by rw[hrc]; rfl) rfl
   rw[← hh'] at hst
   have hrd3:AZ h (.BC rc) 3=some rc:=by rw[hrc]; rfl
   have fc:AA h' c=some (.cells 68 3 rc false):=by rw[hh',AL,if_pos rfl]
   have rc0:AP h' (.AO c 0)=some (.str g.rules[i].left):=by rw[AB fc,hrc]; rfl
   have hbs:Ay (c+1) 9 1 1 [.str []] [0] [.str g.rules[i].left]=some (.AQ (c+1) 0 1 (some 1),.cells 9 1 [.str g.rules[i].left] false):=by simp[Ay,blt_eq,beq_eq,ble_eq,BB,BM,AV.isTuple,AV.cells]
   have n2:newObj (c+1) (.cells 9 1 [.str g.rules[i].left] false) ⟨h',c+1+2,lo⟩=some ⟨(c+1,.cells 9 1 [.str g.rules[i].left] false)::h',c+1+2,lo⟩:=Ac hbS
   have hw':∀p,Ah w=some p->st0.c<=p/\p<c:=hw
   have M':Fa h' 9 1 w (strs (FL g i)):=M.heap fun o ho=>fr o (hw' o ho).2
   obtain⟨h2,p1,p2,p3,p4⟩:=Wv (bytes:=16) (x:=.str g.rules[i].left) hbS M' (fun p hp=>by have:=hw' p hp; omega) (by omega) (by omega) (by simp[Ic (show i<=g.rules.length by omega)]; omega) rfl
   have hll:(strs (FL g i)).length=i:=by rw[DZ,Ic (by omega)]
   rw[hll] at p1
   have hsx:strs (FL g i)++[.str g.rules[i].left]=strs (FL g (i+1)):=by rw[VU Au]; simp[strs]
   rw[hsx,GI] at p3
   have p1':BU (c+1+1) 9 1 16 w (.AQ (c+1) 0 1 (some 1)) ⟨(c+1,.cells 9 1 [.str g.rules[i].left] false)::h',c+1+2,lo⟩=some (.AQ (c+1+1) 0 (i+1) none,⟨h2,c+1+2,lo⟩):=p1
   simp[C.f9L0,h3,h7,h8,h9,Au,hix,-Aw,hrd3,hn,hst,rc0,hbs,n2,p1',wi i]
   have hM:Fa h2 9 1 (.AQ (c+1+1) 0 (i+1) none) (strs (FL g (i+1))):=by
    have:=Fa.ob (h:=h2) (ty:=9) (sz:=1) (c+1+1) (strs (FL g (i+1))) (by rw[← hsx]; simp) (fun x hx=>by
     simp only[strs,List.mem_map] at hx
     obtain⟨s,_,rfl⟩:=hx; rfl) (by rw[GI]; exact p3)
    rw[DZ,Ic (by omega)] at this
    exact this
   exact⟨i+1,by omega,by omega,by simp,⟨by show st0.c<=c+1+2; omega,hlo,p2,fun p hp=>by rw[← O.fr p hp,← fr p (by omega)]; exact p4 p (by omega) fun e=>by have:=hw' p e; omega⟩,hM,fun p hp=>by
    simp only[Ah,Option.some.injEq] at hp; omega⟩
  ·have:i=g.rules.length:=by omega
   subst this
   simp[C.f9L0,h3,h7,h8,h9,O]
   exact⟨M,hw⟩
 ·show g.rules.length-0<1000000; omega
 ·exact⟨by omega,h7,h8,h9,.refl hb0,_,h3,.nl,fun p hp=>by cases hp⟩
theorem Po.over {id:Nat}{ext:Bool}{L0 L:List Aj}{st0 st:St}(H:Ra id st0 st)(hb:HB st0){s:St}(O:Ma s st0)(hid:s.c<=id):Ma s st:=
 ⟨by rw[H.c]; exact O.c,H.lo.trans O.lo,H.hb hb,fun p hp=>(H.fr p (by omega)).trans (O.fr p hp)⟩
set_option maxHeartbeats 1000000 in
theorem Sk {k:Nat}{v:AV}{g:AX}{st:St}(hg:BP v g)(hs:g.Small)(h0:0<g.rules.length)(hb:HB st)(hlo:st.lo<=st.c) :
 ((Ar E (AU E (k+5)) C.f9.body (TS.CY [v] 0 .nil) st).bind (leave [.tmp 2])).to fun x=>Ma st x.2/\∃id,st.c<=id/\id<x.2.c/\kE x.2.h id x.1 g.CB:=by
 obtain⟨kv,rv,l,rfl,hk,hr,hrs⟩:=hg
 have hln:=hrs.length
 have hmany:=hs.many
 obtain⟨h,c,lo⟩:=st
 have hlo':lo<=c:=hlo
 have hb':∀p x,(p,x)∈h->p<c:=hb
 have hbx:Dr c 29 3 (.agg [kv,.str g.start,rv])=some (.AO c 0,.cells 29 3 [kv,.str g.start,rv] false):=rfl
 obtain⟨h1,hh1⟩:∃h1:Af,h1=(c,Ai.cells 29 3 [kv,.str g.start,rv] false)::h:=⟨_,rfl⟩
 have n1:newObj c (.cells 29 3 [kv,.str g.start,rv] false) ⟨h,c+1,lo⟩=some ⟨h1,c+1,lo⟩:=by rw[hh1]; exact Ac hb'
 have hb1:HB ⟨h1,c+1,lo⟩:=hh1 ▸ HB.cons (h:=h) (c:=c) (lo:=lo) hb (by omega) (by omega)
 have O1:Ma ⟨h,c,lo⟩ ⟨h1,c+1,lo⟩:=⟨by show c<=c+1; omega,rfl,hb1,fun p hp=>by rw[hh1]; exact Ao hp⟩
 have f1:AA h1 c=some (.cells 29 3 [kv,.str g.start,rv] false):=by rw[hh1,AL,if_pos rfl]
 have r2:AP h1 (.AO c 2)=some rv:=by rw[AB f1]; rfl
 have hlr:∀S':St,BO .slice rv S'=some (.int .i64 (g.rules.length:Int),S'):=fun S'=>by have:=hr.len (st:=S'); rw[this,hln]
 simp[C.f9,hbx,n1,r2,hlr]
 refine M.Al (Zk hr hrs hs _ hb1 (by show lo<=c+1; omega) _ (by simp) (by simp) (by simp) (by simp)) fun x hx=>?_
 obtain⟨e,ts1,st1⟩:=x
 obtain⟨e1,O2,M,hw⟩:=hx
 simp only at e1 O2 M hw
 subst e1
 generalize hw3:ts1.get 3=w at M hw
 generalize hLL:strs (FL g g.rules.length)=LL at M
 have hlen:(FL g g.rules.length).length=g.rules.length:=Ic (Nat.le_refl _)
 have hLn:LL.length=g.rules.length:=by rw[← hLL,DZ,hlen]
 cases M with
 |nl=>simp only[List.length_nil] at hLn; omega
 |mt=>simp only[List.length_nil] at hLn; omega
 |ob id _ hne hc hf=>
  have hid:=hw id rfl
  subst hLL
  rw[GI] at hf
  rw[DZ] at hw3
  have hc1:c+1<=id:=hid.1
  have hlo1:st1.lo=lo:=O2.lo
  have sorted:=WW (k:=k) (cap:=none) hf (by omega) (by omega)
  simp[hw3]
  refine M.Al sorted fun x hx=>?_
  obtain⟨v1,st2⟩:=x
  obtain⟨L',Li,hS⟩:=hx
  simp only at Li
  have hlen':=Li.len
  rw[← hlen'] at hS
  have comp:=YJ (n:=k+4) Li.at_ hS (by omega) (by omega) (by rw[Li.only.lo]; omega)
  rw[hlen'] at comp
  simp[hw3]
  refine M.Al comp fun x hx=>?_
  obtain⟨v2,st3⟩:=x
  obtain⟨On,U,G,hU,hm⟩:=hx
  simp only at On G
  have hUl:U=g.CB:=VD hU g.WS fun s=>by
   rw[hm,Li.mem,AX.IM]
   unfold FL AX.isLeft
   rw[List.take_length]; simp
  subst hUl
  have O3:Ma ⟨h,c,lo⟩ st2:=Po.over (ext:=true) (L0:=L') (L:=L') Li.only O2.hb (O1.trans O2) (by show c<=id; omega)
  have O4:Ma ⟨h,c,lo⟩ st3:=Po.over (ext:=true) (L0:=L') (L:=L') On O3.hb O3 (by show c<=id; omega)
  simp[leave,results,AY]
  exact⟨O4,id,by omega,by rw[On.c,Li.only.c]; exact hid.2,G⟩
theorem Qs {k:Nat}{v:AV}{g:AX}{st:St}(hg:BP v g)(hs:g.Small)(h0:0<g.rules.length)(hb:HB st)(hlo:st.lo<=st.c) :
 (AU E (k+6) 9 [v] st).to fun x=>Ma st x.2/\∃id,st.c<=id/\id<x.2.c/\kE x.2.h id x.1 g.CB:=by
 rw[Ap (fn:=C.f9) rfl rfl rfl,Ad (by simp)]
 exact Sk hg hs h0 hb hlo
theorem kE.Bp {h:Af}{id c:Nat}{w:AV}{U:List Aj}(H:kE h id w U)(hc:c<=id):∃w',BI w' 1 (strs U)/\∀n,2<=n->Bp c h n w=some w':=by
 obtain⟨rest,ext,rfl,hf⟩:=H
 refine⟨.list false 1 (strs U),⟨.inr ⟨_,rfl⟩⟩,fun n hn=>?_⟩
 obtain⟨m,rfl⟩:∃m,n=m+2:=⟨n-2,by omega⟩
 have hl:(strs U).length=U.length:=DZ U
 have ht:CP (Am.Bp c h (m+1)) (((strs U++rest).drop 0).take (U.length*1))=some (strs U):=by
  rw[List.drop_zero,Nat.mul_one,← hl,List.take_left]; exact DY (Dq c U)
 rw[FN hc hf (by omega) (by simp) ht,← hl,IZ]
theorem HB.nil:HB ⟨[],0,0⟩:=fun p x h=>by cases h
theorem TE {k:Nat}{v:AV}{g:AX}{st:St}(hg:BP v g)(hs:g.Small)(h0:0<g.rules.length) :
 ∃w,AU E (k+6) 54 [v] st=.ret (w,st)/\BI w 1 (strs g.CB):=by
 have hold:=hg.Gi 0
 rw[BZ (fn:=C.f54) rfl rfl rfl (by simp[AV.CL,hold]),Ad (by simp)]
 have hb:=Sk (k:=k) (st:=⟨[],0,0⟩) hg hs h0 HB.nil (Nat.le_refl _)
 obtain⟨⟨w,st'⟩,h1,O,id,i1,i2,G⟩:=hb
 rw[VT]
 have h2:C.f54.results=[.tmp 2]:=rfl
 rw[h2,h1]
 obtain⟨w',g1,g2⟩:=G.Bp (c:=0) (Nat.zero_le _)
 exact⟨w',by simp only[M.CE,BA,Bu,g2 64 (by omega)],g1⟩
theorem kE.reads {h:Af}{id:Nat}{w:AV}{U:List Aj}(H:kE h id w U):Reads h w U:=by
 obtain⟨rest,ext,rfl,hf⟩:=H
 exact⟨rfl,fun i hi st hs=>by
  subst hs
  refine⟨.AO id i,Gc hf hi,?_⟩
  rw[AB hf,List.getElem?_append_left (by simpa using hi),strs_get? _ _ hi]
  simp[List.getD,hi]⟩
end Go.Am
