/- A part of the proof of grammarsComeBack (merged by a program). -/
import Derived.Test.YtmnlpahaihiegaaGreatDoorW4
namespace Go.Am
open Go
theorem IC {s:BB}{i:Nat}{st:St}(h:i<=s.length):CJ true false [.str s,.int .i64 (i:Int)] st=some (.str (s.drop i),st):=by
 have e:asNat (.int .i64 (i:Int))=some i:=rfl
 simp[CJ,DC,e,ble_eq,h]
theorem LQ {s:BB}{i:Nat}{st:St}(h:i<=s.length):CJ false true [.str s,.int .i64 (i:Int)] st=some (.str (s.take i),st):=by
 have e:asNat (.int .i64 (i:Int))=some i:=rfl
 simp[CJ,DC,e,ble_eq,h]
theorem Jg {s:BB}{i:Nat}{st:St}(h:i<s.length):CR (.str s) (.int .i64 (i:Int)) st=some (.int .u8 (s[i].toNat:Int),st):=by
 have e:asNat (.int .i64 (i:Int))=some i:=rfl
 simp[CR,e,h]
section
variable {E:Env}{call:Nat->List AV->St->M (AV × St)}{s d q:Nat}{b:Bool}{k:AK}{args:List Gl}{ops:List Bw}{ts:TS}{st:St}
theorem CW (h:ts.get q=.undef):HY E call s (⟨some d,some (q,b),k,args⟩::ops) ts st=HY E call s ops (ts.set d .undef) st:=by
 rw[JX,h]; rfl
end
theorem XM {k:Nat}{s:BB}{c:UInt8}{st:St}:AX E (k+1) 149 [.str s,.str [c]] st=.ret (.bool (s.head? ==some c),st):=by
 rw[Ai (fn:=C.f149) rfl rfl rfl,Af (by simp)]
 cases s with
 |nil=>simp[C.f149,Ap,Aj,CW,leave,results,AR]
 |cons b s=>
  have h1:CJ false true [.str (b::s),.int .i64 1] st=some (.str [b],st):=LQ (i:=1) (by simp)
  have h2:(1:Int)<=(s.length:Int)+1:=by omega
  simp[C.f149,Ap,Aj,CW,h1,h2,leave,results,AR]
theorem XW {k:Nat}{s:BB}{c:UInt8}{st:St}(hs:s.length<1000000):AX E (k+3) 106 [.str s,.str [c]] st=.ret (.tuple [.str (if s.head? =some c then s.tail else s),.bool (s.head? ==some c)],st):=by
 rw[Ai (fn:=C.f106) rfl rfl rfl,Af (by simp)]
 have h:AX E (k+2) 155 [.str s,.str [c]] st=.ret (.tuple [.str (if s.head? =some c then s.tail else s),.bool (s.head? ==some c)],st):=by
  rw[Ai (fn:=C.f155) rfl rfl rfl,Af (by simp)]
  have hp:=XM (k:=k) (s:=s) (c:=c) (st:=st)
  by_cases e:s.head? =some c
  ·have eb:(s.head? ==some c)=true:=by simp[e]
   rw[eb] at hp
   have h1:CJ true false [.str s,.int .i64 1] st=some (.str (s.drop 1),st):=IC (i:=1) (by cases s with|nil=>cases e|cons b s=>simp)
   simp[C.f155,hp,h1,e,leave,results,AR]
  ·have eb:(s.head? ==some c)=false:=by simpa using e
   rw[eb] at hp
   simp[C.f155,hp,e,eb,leave,results,AR]
 simp[C.f106,h,leave,results,AR]
def DW (n:Int):BB->Option Int
 |[]=>some n
 |b::s=>if KN b=true then DW (10*n+((b.toNat:Int)-48)) s else none
def Jp (s t:BB):Bool:=t.isEmpty||decide (9<t.length)||(t.head? ==some 48&&(decide (1<t.length)||s.head? ==some 45))
def FQ (s:BB):BB:=if s.head? =some 45 then s.tail else s
def numOf (s:BB):Option Int:=if Jp s (FQ s)=true then none else (DW 0 (FQ s)).map fun n=>if s.head? =some 45 then -n else n
def Kq (s:BB):AV:=.tuple [.int .i64 ((numOf s).getD 0),.bool (numOf s).isSome]
theorem Gv {b:UInt8}(h:KN b=true):48<=b.toNat/\b.toNat<=57:=by unfold KN at h; simpa using h
theorem Wt (s:BB):(FQ s).length<=s.length:=by unfold FQ; split <;> simp
theorem iZ {a b:Int}:bin .sub (.int .u8 a) (.int .u8 b)=some (.int .u8 (IntKind.u8.wrap (a-b))):=rfl
set_option maxHeartbeats 1000000 in
theorem RX {k:Nat}{s:BB}{st:St}(hs:s.length<1000000):AX E (k+4) 62 [.str s,.int .i64 9] st=.ret (Kq s,st):=by
 rw[Ai (fn:=C.f62) rfl rfl rfl,Af (by simp)]
 apply M.to_eq
 have hc:=XW (k:=k) (s:=s) (c:=45) (st:=st) hs
 obtain⟨t,ht⟩:∃t,t=FQ s:=⟨_,rfl⟩
 have ht':(if s.head? =some 45 then s.tail else s)=t:=ht.symm
 rw[ht'] at hc
 have htl:t.length<=s.length:=ht ▸ Wt s
 by_cases hbad:Jp s t=true
 ·have hv:Kq s=.tuple [.int .i64 0,.bool false]:=by unfold Kq numOf; rw[← ht,if_pos hbad]; rfl
  rw[hv]
  cases t with
  |nil=>simp[C.f62,hc,Ap,Aj,CW,leave,results,AR]
  |cons b t=>
   by_cases h9:9<(b::t).length
   ·have h9':(9:Int)<(t.length:Int)+1:=by simp at h9; omega
    simp[C.f62,hc,Ap,Aj,CW,h9',leave,results,AR]
   ·have h9':¬(9:Int)<(t.length:Int)+1:=by simp at h9; omega
    have hix:CR (.str (b::t)) (.int .i64 0) st=some (.int .u8 (b.toNat:Int),st):=Jg (i:=0) (by simp)
    unfold Jp at hbad
    simp only[List.isEmpty_cons,Bool.false_or,h9,decide_false,List.head?_cons,Bool.and_eq_true,beq_iff_eq,Option.some.injEq,Bool.or_eq_true,decide_eq_true_eq] at hbad
    obtain⟨rfl,h2⟩:=hbad
    by_cases h1:1<((48:UInt8)::t).length
    ·have h1':(1:Int)<(t.length:Int)+1:=by simp at h1; omega
     simp[C.f62,hc,Ap,Aj,CW,h9',hix,h1',leave,results,AR]
    ·have h1':¬(1:Int)<(t.length:Int)+1:=by
      have:((48:UInt8)::t).length=t.length+1:=rfl
      omega
     have hm:s.head? =some 45:=h2.resolve_left h1
     simp[C.f62,hc,Ap,Aj,CW,h9',hix,h1',hm,leave,results,AR]
 ·have hbad':Jp s t=false:=by simpa using hbad
  have hlen9:t.length<=9:=by
   unfold Jp at hbad'
   simp only[Bool.or_eq_false_iff,decide_eq_false_iff_not] at hbad'
   omega
  have hne:t≠[]:=by
   intro e; subst e; simp[Jp] at hbad'
  obtain⟨b0,t0,rfl⟩:∃b0 t0,t=b0::t0:=by
   cases t with
   |nil=>exact absurd rfl hne
   |cons b t=>exact⟨b,t,rfl⟩
  have h9':¬(9:Int)<(t0.length:Int)+1:=by simp at hlen9; omega
  have hix:CR (.str (b0::t0)) (.int .i64 0) st=some (.int .u8 (b0.toNat:Int),st):=Jg (i:=0) (by simp)
  have loop:∀(ts0:TS),ts0.get 6=.str (b0::t0)->ts0.get 7=.bool (s.head? ==some 45)->ts0.get 8=.int .i64 0->ts0.get 37=.int .i64 (((b0::t0).length:Nat):Int)->ts0.get 38=.int .i64 ((0:Nat):Int) ->
   (Dh (BF E (AX E (k+3)) C.f62L0) E.k ts0 st).to fun x=>x.2.2=st/\((x.1=.exit 0/\x.2.1.get 7=.bool (s.head? ==some 45)/\∃m:Int,0<=m/\m<1000000000/\x.2.1.get 8=.int .i64 m/\DW 0 (b0::t0)=some m)∨(x.1=.ret/\x.2.1.get 4=.int .i64 0/\x.2.1.get 5=.bool false/\DW 0 (b0::t0)=none)):=by
   intro ts0 y6 y7 y8 y37 y38
   generalize b0::t0=t at *
   refine DI (fun (i:Nat) ts st'=>st'=st/\i<=t.length/\ts.get 6=.str t/\ts.get 7=.bool (s.head? ==some 45)/\ts.get 37=.int .i64 (t.length:Int)/\ts.get 38=.int .i64 (i:Int)/\∃m:Int,ts.get 8=.int .i64 m/\0<=m/\m<10 ^ i/\DW m (t.drop i)=DW 0 t)
    (fun i=>t.length-i) ?_ _ 0 _ _ ?_ ?_
   ·rintro i ts st' ⟨rfl,hi,y6,y7,y37,y38,m,y8,hm0,hm1,hd⟩
    have hp:(10:Int) ^ i<=10 ^ 9:=by
     have:(10:Nat) ^ i<=10 ^ 9:=Nat.pow_le_pow_right (by omega) (by omega)
     exact_mod_cast this
    by_cases Bc:i<t.length
    ·have hp2:(10:Int) ^ (i+1)<=10 ^ 9:=by
      have:(10:Nat) ^ (i+1)<=10 ^ 9:=Nat.pow_le_pow_right (by omega) (by omega)
      exact_mod_cast this
     have hp3:(10:Int) ^ (i+1)=10*10 ^ i:=by rw[Int.pow_succ,Int.mul_comm]
     have ix:=Jg (st:=st') Bc
     have hdg:=MF (k:=k+2) (b:=t[i]) (st:=st')
     rw[List.drop_eq_getElem_cons Bc,DW] at hd
     cases hb:KN t[i] with
     |false=>
      rw[hb] at hdg hd
      simp[C.f62L0,y6,y7,y8,y37,y38,Bc,ix,hdg]
      rw[← hd]; simp
     |true=>
      rw[hb] at hdg hd
      obtain⟨b1,b2⟩:=Gv hb
      have w1:IntKind.u8.wrap ((t[i].toNat:Int)-48)=(t[i].toNat:Int)-48:=by
       show ((t[i].toNat:Int)-48) % 256=_
       exact Int.emod_eq_of_lt (by omega) (by omega)
      have w2:IntKind.i64.wrap (10*m)=10*m:=wrap64 (by omega) (by omega)
      have w3:IntKind.i64.wrap ((t[i].toNat:Int)-48)=(t[i].toNat:Int)-48:=wrap64 (by omega) (by omega)
      have w4:IntKind.i64.wrap (10*m+((t[i].toNat:Int)-48))=10*m+((t[i].toNat:Int)-48):=wrap64 (by omega) (by omega)
      simp[C.f62L0,y6,y7,y8,y37,y38,Bc,ix,hdg,iZ,w1,w2,w3,w4,wi i]
      refine⟨i+1,by omega,by omega,by simp,by omega,by omega,?_⟩
      rw[← hd]; simp
    ·have:i=t.length:=by omega
     subst this
     rw[List.drop_length] at hd
     simp[C.f62L0,y6,y7,y8,y37,y38]
     exact⟨m,hm0,by omega,rfl,by rw[← hd]; rfl⟩
   ·show t.length-0<1000000; omega
   ·exact⟨rfl,by omega,y6,y7,y37,y38,0,y8,by omega,by simp,by simp⟩
  have hpick:((b0::t0).head? ==some 48&&(decide (1<(b0::t0).length)||s.head? ==some 45))=false:=by
   unfold Jp at hbad'
   simp only[Bool.or_eq_false_iff] at hbad'
   exact hbad'.2
  simp only[List.head?_cons,Bool.and_eq_false_iff,Bool.or_eq_false_iff,decide_eq_false_iff_not,beq_eq_false_iff_ne,ne_eq,Option.some.injEq] at hpick
  have hfr:b0≠48∨(b0=48/\t0=[]/\(s.head? ==some 45)=false):=by
   rcases hpick with h|⟨h1,h2⟩
   ·exact .inl h
   ·by_cases e:b0=48
    ·refine .inr ⟨e,?_,by simpa using h2⟩
     cases t0 with
     |nil=>rfl
     |cons a t=>simp at h1
    ·exact .inl e
  rcases hfr with hb|⟨rfl,rfl,hm⟩
  ·have hb':((b0.toNat:Int)==48)=false:=by
    simp only[beq_eq_false_iff_ne]
    intro e
    exact hb (UInt8.toNat_inj.mp (by simpa using (by exact_mod_cast e:b0.toNat=48)))
   simp[C.f62,hc,Ap,Aj,CW,h9',hix,hb',-M.bind_assoc]
   simp only[M.bind_assoc]
   refine M.BX (loop _ (by simp) (by simp) (by simp) (by simp) (by simp)) fun x hx=>?_
   obtain⟨e,ts1,st1⟩:=x
   obtain⟨es,h⟩:=hx
   simp only at es h
   subst es
   rcases h with⟨rfl,h7,m,m0,m1,h8,hd⟩|⟨rfl,h4,h5,hd⟩
   ·have hn:numOf s=some (if s.head? =some 45 then -m else m):=by unfold numOf; rw[← ht,if_neg hbad,hd]; rfl
    by_cases e:s.head? =some 45
    ·have w:IntKind.i64.wrap (0-m)=0-m:=wrap64 (by omega) (by omega)
     have w':IntKind.i64.wrap (-m)=-m:=wrap64 (by omega) (by omega)
     simp[h7,h8,hn,e,w,w',leave,results,AR,Kq]
    ·have eb:(s.head? ==some 45)=false:=by simpa using e
     rw[eb] at h7
     simp[h7,h8,hn,e,leave,results,AR,Kq]
   ·have hn:numOf s=none:=by unfold numOf; rw[← ht,if_neg hbad,hd]; rfl
    simp[h4,h5,hn,leave,results,AR,Kq]
  ·simp[C.f62,hc,Ap,Aj,CW,hix,hm,-M.bind_assoc]
   simp only[M.bind_assoc]
   refine M.BX (loop _ (by simp) (by simp; simpa using hm) (by simp) (by simp) (by simp)) fun x hx=>?_
   obtain⟨e,ts1,st1⟩:=x
   obtain⟨es,h⟩:=hx
   simp only at es h
   subst es
   rcases h with⟨rfl,h7,m,m0,m1,h8,hd⟩|⟨rfl,h4,h5,hd⟩
   ·have hn:numOf s=some (if s.head? =some 45 then -m else m):=by unfold numOf; rw[← ht,if_neg hbad,hd]; rfl
    by_cases e:s.head? =some 45
    ·have w:IntKind.i64.wrap (0-m)=0-m:=wrap64 (by omega) (by omega)
     have w':IntKind.i64.wrap (-m)=-m:=wrap64 (by omega) (by omega)
     exact absurd e (by simpa using hm)
    ·have eb:(s.head? ==some 45)=false:=by simpa using e
     rw[eb] at h7
     simp[h7,h8,hn,e,leave,results,AR,Kq]
   ·have hn:numOf s=none:=by unfold numOf; rw[← ht,if_neg hbad,hd]; rfl
    simp[h4,h5,hn,leave,results,AR,Kq]
def top:Heap->Nat
 |[]=>0
 |(p,_)::h=>max (p+1) (top h)
theorem OD {h:Heap}{n:Nat}:top h<=n↔∀p x,(p,x)∈h->p<n:=by
 induction h with
 |nil=>simp[top]
 |cons q h ih=>
  obtain⟨p,x⟩:=q
  simp only[top,Nat.max_le,ih,List.mem_cons,Prod.mk.injEq]
  constructor
  ·rintro⟨h1,h2⟩ a b (⟨rfl,rfl⟩|h)
   ·omega
   ·exact h2 a b h
  ·intro h
   exact⟨h p x (.inl ⟨rfl,rfl⟩),fun a b hm=>h a b (.inr hm)⟩
theorem HB.top {h:Heap}{c lo:Nat}(H:HB ⟨h,c,lo⟩):top h<=c:=OD.2 H
theorem ig {h:Heap}{c lo:Nat}(H:top h<=c):HB ⟨h,c,lo⟩:=OD.1 H
theorem BD {p n:Nat}{x:Al}{h:Heap}:top ((p,x)::h)<=n↔p<n/\top h<=n:=by simp only[top,Nat.max_le]; omega
theorem Gm {h:Heap}{o:Nat}{y:Al}:top (Aa h o y)=top h:=by
 induction h with
 |nil=>rfl
 |cons q h ih=>
  obtain⟨p,x⟩:=q
  simp only[Aa]
  cases Nat.beq p o <;> simp[top,ih]
theorem UA {h:Heap}{o:Nat}:top (GL h o)<=top h:=by
 induction h with
 |nil=>exact Nat.le_refl _
 |cons q h ih=>
  obtain⟨p,x⟩:=q
  simp only[GL]
  cases Nat.beq p o <;> simp only[cond_true,cond_false,top] <;> omega
theorem BP {o c lo:Nat}{y:Al}{h:Heap}(H:top h<=o):newObj o y ⟨h,c,lo⟩=some ⟨(o,y)::h,c,lo⟩:=Ao (OD.1 H)
theorem Bv {p q:Nat}{x:Al}{h:Heap}(e:p=q):AA ((p,x)::h) q=some x:=by rw[AJ,if_pos e]
theorem Bb {p q:Nat}{x:Al}{h:Heap}(e:p≠q):AA ((p,x)::h) q=AA h q:=by rw[AJ,if_neg e]
theorem TK {p q:Nat}{x y:Al}{h:Heap}(e:p=q):Aa ((p,x)::h) q y=(p,y)::h:=by subst e; simp[Aa,beq_eq]
theorem Xz {p q:Nat}{x y:Al}{h:Heap}(e:p≠q):Aa ((p,x)::h) q y=(p,x)::Aa h q y:=by simp[Aa,beq_eq,e]
theorem OE {p q:Nat}{y:Al}{h:Heap}(e:p=q):AA (Aa h p y) q=(AA h q).map fun _=>y:=by
 subst e
 cases hf:AA h p with
 |some x=>rw[AY hf,if_pos rfl]; rfl
 |none=>
  induction h with
  |nil=>rfl
  |cons r h ih=>
   obtain⟨i,z⟩:=r
   rw[AJ] at hf
   by_cases e:i=p
   ·rw[if_pos e] at hf; cases hf
   ·rw[if_neg e] at hf; rw[Xz e,AJ,if_neg e]; exact ih hf
theorem Jh {p q:Nat}{y:Al}{h:Heap}(e:p≠q):AA (Aa h p y) q=AA h q:=by
 induction h with
 |nil=>rfl
 |cons r h ih=>
  obtain⟨i,z⟩:=r
  by_cases e2:i=p
  ·rw[TK e2,AJ,AJ,if_neg (by omega),if_neg (by omega)]
  ·rw[Xz e2,AJ,AJ,ih]
def cellAt (x:Option Al)(off:Nat):Option AV:=match x with
 |some (.cells _ _ cs _)=>cs[off]?
 |_=>none
@[simp] theorem gI {ty sz off:Nat}{cs:List AV}{ext:Bool}:cellAt (some (.cells ty sz cs ext)) off=cs[off]?:=rfl
theorem Hf {h:Heap}{o off:Nat}:AP h (.AO o off)=cellAt (AA h o) off:=by
 simp only[AP,cellAt]; split <;> simp_all
def Td (x:Option Al)(off n:Nat):Option (List AV):=match x with
 |some (.cells _ _ cs _)=>if off+n<=cs.length then some ((cs.drop off).take n) else none
 |_=>none
@[simp] theorem Rk {ty sz off n:Nat}{cs:List AV}{ext:Bool}:Td (some (.cells ty sz cs ext)) off n=if off+n<=cs.length then some ((cs.drop off).take n) else none:=rfl
theorem DN {h:Heap}{o off n:Nat}:Ac h (.AO o off) n=Td (AA h o) off n:=by
 simp only[Ac,Td,ble_eq,cond_eq_ite,decide_eq_true_eq]; split <;> simp_all
def putAt (x:Option Al)(o off:Nat)(vs:List AV)(h:Heap)(c lo:Nat):R:=match x with
 |some (.cells ty sz cs ext)=>if lo<=o/\off+vs.length<=cs.length then some (.undef,⟨Aa h o (.cells ty sz (BS cs off vs) ext),c,lo⟩) else none
 |_=>none
@[simp] theorem Db {o off ty sz c lo:Nat}{cs vs:List AV}{ext:Bool}{h:Heap}:putAt (some (.cells ty sz cs ext)) o off vs h c lo=if lo<=o/\off+vs.length<=cs.length then some (.undef,⟨Aa h o (.cells ty sz (BS cs off vs) ext),c,lo⟩) else none:=rfl
theorem Fs {n o off c lo:Nat}{v:AV}{h:Heap}:BJ n (.AO o off) v ⟨h,c,lo⟩=if v.isTuple=false/\v.cells.length=n then putAt (AA h o) o off v.cells h c lo else none:=by
 simp only[BJ,putAt,BI,beq_eq,blt_eq,ble_eq]
 cases v.isTuple
 ·by_cases hn:v.cells.length=n
  ·simp only[hn,Bool.false_or,decide_true,Bool.not_true,cond_false,and_self,if_true]
   by_cases hl:o<lo
   ·simp only[hl,decide_true,cond_true]
    split
    ·rw[if_neg (by omega)]; rfl
    ·rfl
   ·simp only[hl,decide_false,cond_false]
    split
    ·rename_i ty sz cs ext heq
     rw[heq]
     by_cases hb:off+n<=cs.length
     ·simp[hb,show lo<=o by omega]
     ·simp[hb]; rfl
    ·rename_i h1
     split
     ·rename_i h2; exact absurd h2 (h1 _ _ _ _)
     ·rfl
  ·simp[hn]
 ·simp
@[simp] theorem mF {a x:AV}{l:List AV}:BS (a::l) 0 [x]=x::l:=by simp[BS]
@[simp] theorem mD {a b x:AV}{l:List AV}:BS (a::b::l) 1 [x]=a::x::l:=by simp[BS]
@[simp] theorem lu {a b c x:AV}{l:List AV}:BS (a::b::c::l) 2 [x]=a::b::x::l:=by simp[BS]
@[simp] theorem kr {a b c x y z:AV}{l:List AV}:BS (a::b::c::l) 0 [x,y,z]=x::y::z::l:=by simp[BS]
@[simp] theorem nP {o ty sz:Nat}{cs:List AV}:Gy o ty sz (.agg cs)=some (.AO o 0,.cells ty sz cs false):=rfl
@[simp] theorem oP {o ty sz:Nat}{f:Fn}{a b:List AV}:Gy o ty sz (.fn f a b)=some (.AO o 0,.cells ty sz [.fn f a b] false):=rfl
@[simp] theorem nO {o ty sz:Nat}{s:BB}:Gy o ty sz (.str s)=some (.AO o 0,.cells ty sz [.str s] false):=rfl
def Has (ts:TS):List (Nat × AV)->Prop
 |[]=>True
 |(i,v)::l=>ts.get i=v/\Has ts l
@[simp] theorem MB {ts:TS}:Has ts []=True:=rfl
@[simp] theorem KQ {ts:TS}{i:Nat}{v:AV}{l:List (Nat × AV)}:Has ts ((i,v)::l)=(ts.get i=v/\Has ts l):=rfl
def mapOf (K:List BB):Al:=.map (strs K) (List.replicate K.length (.bool true)) (List.range K.length) K.length
theorem map_set {h:Heap}{m:Nat}{K:List BB}(H:AA h m=some (mapOf K)):DL h m K:=⟨_,_,H⟩
theorem KP {h:Heap}{p:Nat}{x:Al}(H:AA h p=some x):p<top h:=by
 rcases Nat.lt_or_ge p (top h) with h1|h1
 ·exact h1
 ·rw[Js (OD.1 (Nat.le_refl _)) h1] at H; cases H
inductive Acc (h:Heap) (ty:Nat):AV->List AV->Prop
 |nl:Acc h ty .AB []
 |ob (id:Nat) (V:List AV) (cap:Option Nat) (ext:Bool) (hf:AA h id=some (.cells ty 1 V ext)) (hc:(cap=none/\ext=true)∨cap=some V.length):Acc h ty (.AU id 0 V.length cap) V
theorem Acc.heap {h h':Heap}{ty:Nat}{w:AV}{V:List AV}(H:Acc h ty w V)(e:∀p,BR w=some p->AA h' p=AA h p):Acc h' ty w V:=by
 cases H with
 |nl=>exact .nl
 |ob id V cap ext hf hc=>exact .ob id V cap ext ((e id rfl).trans hf) hc
theorem Acc.len {h:Heap}{ty:Nat}{w:AV}{V:List AV}(H:Acc h ty w V):Bu w=some V.length:=by cases H <;> rfl
theorem Acc.mM {h:Heap}{ty:Nat}{w:AV}{V:List AV}(H:Acc h ty w V):lenOf w=some V.length:=by cases H <;> rfl
theorem Acc.cells {h:Heap}{ty:Nat}{w:AV}{V:List AV}(H:Acc h ty w V):Au h 1 V.length w=some V:=by
 cases H with
 |nl=>rfl
 |ob id V cap ext hf hc=>simp[Au,hf,beq_eq,ble_eq]
theorem Acc.lt {h:Heap}{ty:Nat}{w:AV}{V:List AV}(H:Acc h ty w V){p:Nat}(e:BR w=some p):p<top h:=by
 cases H with
 |nl=>cases e
 |ob id V cap ext hf hc=>
  cases e
  exact KP hf
theorem Pq {h:Heap}{c lo o ty bytes:Nat}{w:AV}{V N:List AV}(H:Acc h ty w V)(ht:top h<=o)(hlo:∀p,BR w=some p->lo<=p)(hl:V.length+N.length<=2 ^ 20)(hb:bytes<=16) :
 ∃w' h',BV o ty 1 bytes w N.length N ⟨h,c,lo⟩=some (w',⟨h',c,lo⟩)/\Acc h' ty w' (V++N)/\top h'<=o+1/\(∀p,p<o->BR w≠some p->AA h' p=AA h p)/\(∀p,BR w'=some p->p=o∨BR w=some p):=by
 by_cases hN:N=[]
 ·subst hN
  refine⟨w,h,?_,by rw[List.append_nil]; exact H,by omega,fun _ _ _=>rfl,fun _=>.inr⟩
  cases H <;> simp[BV,beq_eq]
 have hN0:N.length≠0:=fun e=>hN (List.eq_nil_of_length_eq_zero e)
 have hroom:(V.length+N.length)*bytes<=room/\V.length+N.length<=room:=by
  have:=Nat.mul_le_mul hl hb
  unfold room
  constructor <;> omega
 have ob:∀h',Acc ((o,Al.cells ty 1 (V++N) true)::h') ty (.AU o 0 (V.length+N.length) none) (V++N):=fun h'=>by
  rw[← List.length_append]; exact .ob o (V++N) none true (Bv rfl) (.inl ⟨rfl,rfl⟩)
 cases H with
 |nl=>
  simp only[List.length_nil,Nat.zero_add] at hroom
  refine⟨.AU o 0 (0+N.length) none,(o,.cells ty 1 N true)::h,?_,ob h,by rw[BD]; omega,fun p hp _=>Bb (by omega),fun p e=>.inl (by simpa [BR] using e.symm)⟩
  simp[BV,beq_eq,hN0,grow,ble_eq,hroom.1,hroom.2,BP ht]
 |ob id V cap ext hf hc=>
  have hi:id<top h:=KP hf
  rcases hc with⟨rfl,rfl⟩|rfl
  ·have hd:top (GL h id)<=o:=Nat.le_trans UA ht
   have hlo':=hlo id rfl
   have hle:¬V.length+N.length<=V.length:=by omega
   refine⟨.AU o 0 (V.length+N.length) none,(o,.cells ty 1 (V++N) true)::GL h id,?_,ob _,by rw[BD]; omega,fun p hp hne=>?_,fun p e=>.inl (by simpa [BR] using e.symm)⟩
   ·simp[BV,beq_eq,hN0,Dr,hf,ble_eq,hle,hlo',grow,hroom.1,hroom.2,BP hd]
   ·rw[Bb (by omega),Dz,if_neg fun e=>hne (by rw[e]; rfl)]
  ·have hle:¬V.length+N.length<=V.length:=by omega
   refine⟨.AU o 0 (V.length+N.length) none,(o,.cells ty 1 (V++N) true)::h,?_,ob _,by rw[BD]; omega,fun p hp hne=>Bb (by omega),fun p e=>.inl (by simpa [BR] using e.symm)⟩
   simp[BV,beq_eq,hN0,Dr,hf,ble_eq,hle,grow,hroom.1,hroom.2,BP ht]
theorem DJ {a b:BB}(h:a.length+b.length<=4611686018427387904):bin .add (.str a) (.str b)=some (.str (a++b)):=by show (if a.length+b.length<=2 ^ 62 then _ else _)=_; rw[if_pos h]
@[simp] theorem qM {o:Nat}{a:BB}:Ar o 9 1 1 [.str []] [0] [.str a]=some (.AU o 0 1 (some 1),.cells 9 1 [.str a] false):=rfl
@[simp] theorem qL {o:Nat}{a b:BB}:Ar o 9 1 2 [.str [],.str []] [0,1] [.str a,.str b]=some (.AU o 0 2 (some 2),.cells 9 1 [.str a,.str b] false):=rfl
theorem JQ {o ty bytes:Nat}{w y:AV}{st:St}{N:List AV}(h1:lenOf y=some N.length)(h2:Au st.h 1 N.length y=some N):Bq o ty 1 bytes w y st=BV o ty 1 bytes w N.length N st:=by
 cases y <;> simp_all [Bq]
 all_goals simp[Au] at h2
theorem Ci.bz {v:AV}{l:List BB}{h:Heap}(H:Ci v 1 (strs l)):lenOf v=some (strs l).length/\Au h 1 (strs l).length v=some (strs l):=by
 rcases H.out with⟨rfl,e⟩|⟨t,rfl⟩
 ·rw[e]; exact⟨rfl,rfl⟩
 ·refine⟨rfl,?_⟩
  simp[Au,beq_eq,ble_eq]
  rw[List.take_of_length_le (by simp),OI]
theorem Oo:∀l:List BB,strsOf (strs l)=some l
 |[]=>rfl
 |s::l=>by
  show strsOf (.str s::strs l)=_
  rw[strsOf,Oo l]
theorem KM {k:Nat}{w:AV}{l:List BB}{sep:BB}{st:St}{ty:Nat}(H:Acc st.h ty w (strs l))(h1:l.length<=1000000)(h2:(joined sep l).length<=1000000):AX E (k+1) 24 [w,.str sep] st=.ret (.str (joined sep l),st):=by
 refine JY (g:=hJoinM) rfl ?_
 have e1:=H.len
 have e2:=H.cells
 simp only[hJoinM,e1,e2,Oo]
 simp[ble_eq,h1,h2]
theorem Ce {sep a:BB}{l:List BB}(h:l≠[]):joined sep (a::l)=a++(sep++joined sep l):=by
 cases l with
 |nil=>exact absurd rfl h
 |cons b l=>rfl
theorem MR {sep:BB}:∀{l m:List BB},l≠[]->m≠[]->joined sep (l++m)=joined sep l++(sep++joined sep m)
 |[],_,h,_=>absurd rfl h
 |[a],m,_,hm=>by rw[List.singleton_append,Ce hm]; rfl
 |a::b::l,m,_,hm=>by
  have ih:=MR (sep:=sep) (l:=b::l) (m:=m) (by simp) hm
  rw[List.cons_append,Ce (by simp),ih,Ce (l:=b::l) (by simp)]
  simp only[List.append_assoc]
theorem Ht {sep:BB}{B:Nat}(hs:sep.length<=1):∀{l:List BB},(∀s∈l,s.length<=B)->(joined sep l).length<=l.length*(B+1)
 |[],_=>by simp[joined]
 |[a],h=>by have:=h a (by simp); simp[joined]; omega
 |a::b::l,h=>by
  have ih:=Ht hs (l:=b::l) fun s hm=>h s (List.mem_cons_of_mem _ hm)
  have:=h a (by simp)
  rw[Ce (by simp)]
  simp only[List.length_append,List.length_cons] at ih ⊢
  rw[Nat.succ_mul]
  omega
def Aw (r:Bf):List BB:=r.left::[61]::r.right
def BG (n:Int):List BB:=if n=0 then [] else [[47],Lib.itoa n]
def BL (r:Bf):BB:=joined [32] (Aw r++BG r.level)++[10]
def Cz (g:Ak):BB:=joined [32] ([116,111,107,101,110,115]::g.kinds)++[10,115,116,97,114,116,32]++g.start++[10]
def Bh (g:Ak):BB:=Cz g++g.rules.flatMap BL
theorem Uu {k:Nat}{n:Int}{st:St}(h0:-9223372036854775808<=n)(h1:n<9223372036854775808):AX E (k+3) 48 [.int .i64 n] st=.ret (.str (Lib.itoa n),st):=by
 rw[Ai (fn:=C.f48) rfl rfl rfl,Af (by simp)]
 have e1:AX E (k+2) 93 [.int .i64 n] st=.ret (.str (Lib.itoa n),st):=by
  rw[Ai (fn:=C.f93) rfl rfl rfl,Af (by simp)]
  have e2:AX E (k+1) 146 [.int .i64 n,.int .i64 10] st=.ret (.str (Lib.itoa n),st):=by
   refine JY (g:=fun _=>hItoa) rfl ?_
   have:-9223372036854775808<=n/\n<=9223372036854775807:=⟨h0,by omega⟩
   simp[hItoa,this]
  simp[C.f93,e2,leave,results,AR]
 simp[C.f48,e1,leave,results,AR]
theorem Qc {n:Int}(h0:-9223372036854775808<=n)(h1:n<9223372036854775808):(Lib.itoa n).length<=21:=Lib.itoa_length_le n h0 (by omega)
theorem RB {h:Heap}{c lo o:Nat}{w y:AV}{V N:List BB}(H:Acc h 9 w (strs V))(ht:top h<=o)(hlo:∀p,BR w=some p->lo<=p)(hy:Ci y 1 (strs N))(hl:V.length+N.length<=1000) :
 ∃w' h',Bq o 9 1 16 w y ⟨h,c,lo⟩=some (w',⟨h',c,lo⟩)/\Acc h' 9 w' (strs (V++N))/\top h'<=o+1/\(∀p,p<o->BR w≠some p->AA h' p=AA h p)/\(∀p,BR w'=some p->p=o∨BR w=some p):=by
 obtain⟨w',h',e1,e2,e3,e4,e5⟩:=Pq (c:=c) (lo:=lo) (bytes:=16) (N:=strs N) H ht hlo (by simp; omega) (by omega)
 refine⟨w',h',?_,by rw[show strs (V++N)=strs V++strs N by simp[strs]]; exact e2,e3,e4,e5⟩
 rw[JQ (hy.bz (h:=h)).1 (hy.bz (h:=h)).2]; exact e1
theorem gN {h:Heap}{c lo o:Nat}{w y:AV}{V N:List BB}(H:Acc h 9 w (strs V))(ht:top h<=o)(hlo:∀p,BR w=some p->lo<=p)(hy:Acc h 9 y (strs N))(hl:V.length+N.length<=1000) :
 ∃w' h',Bq o 9 1 16 w y ⟨h,c,lo⟩=some (w',⟨h',c,lo⟩)/\Acc h' 9 w' (strs (V++N))/\top h'<=o+1/\(∀p,p<o->BR w≠some p->AA h' p=AA h p)/\(∀p,BR w'=some p->p=o∨BR w=some p):=by
 obtain⟨w',h',e1,e2,e3,e4,e5⟩:=Pq (c:=c) (lo:=lo) (bytes:=16) (N:=strs N) H ht hlo (by simp; omega) (by omega)
 refine⟨w',h',?_,by rw[show strs (V++N)=strs V++strs N by simp[strs]]; exact e2,e3,e4,e5⟩
 rw[JQ hy.mM hy.cells]; exact e1
theorem FK {r:Bf}(h:r.Small):(Aw r++BG r.level).length<=34/\∀s∈Aw r++BG r.level,s.length<=50:=by
 have h1:=h.right
 have h2:=h.left
 have h3:=h.names
 have h4:=Qc h.level.1 h.level.2
 unfold Aw BG
 split
 ·refine⟨by simp; omega,fun s hs=>?_⟩
  simp only[List.append_nil,List.mem_cons] at hs
  rcases hs with rfl|rfl|hs
  ·exact h2
  ·decide
  ·exact h3 s hs
 ·refine⟨by simp; omega,fun s hs=>?_⟩
  simp only[List.cons_append,List.mem_cons,List.mem_append,List.not_mem_nil,or_false] at hs
  rcases hs with rfl|rfl|hs|rfl|rfl
  ·exact h2
  ·decide
  ·exact h3 s hs
  ·decide
  ·omega
theorem Fp {r:Bf}(h:r.Small):(joined [32] (Aw r++BG r.level)).length<=1734:=by
 have ⟨h1,h2⟩:=FK h
 have:=Ht (sep:=[32]) (by decide) h2
 have:=Nat.mul_le_mul h1 (Nat.le_refl 51)
 omega
set_option maxHeartbeats 2000000 in
theorem XA {k:Nat}{rv:AV}{l:List AV}{rs:List Bf}(hr:Ci rv 3 l)(hrs:Bo l rs)(hsm:∀r∈rs,r.Small)(hn:rs.length<=1000){out:BB}(hout:out.length<=1000000){S0:St}(tp0:top S0.h<=S0.c)(hl0:S0.lo=0)(ts0:TS)(z3:ts0.get 3=.str out)(z18:ts0.get 18=rv)(z19:ts0.get 19=.int .i64 (rs.length:Int))(z20:ts0.get 20=.int .i64 ((0:Nat):Int)) :
 (Dh (BF E (AX E (k+3)) C.f18L0) E.k ts0 S0).to fun x=>x.1=.exit 0/\x.2.1.get 3=.str (out++rs.flatMap BL):=by
 have hln:=hrs.length
 refine DI (fun (i:Nat) ts st=>i<=rs.length/\(out++(rs.take i).flatMap BL).length<=1000000+i*1735/\top st.h<=st.c/\st.lo=0/\Has ts [(3,.str (out++(rs.take i).flatMap BL)),(18,rv),(19,.int .i64 (rs.length:Int)),(20,.int .i64 (i:Int))])
  (fun i=>rs.length-i) ?_ _ 0 _ _ ?_ ?_
 ·clear z3 z18 z19 z20
  rintro i ts ⟨h,c,lo⟩ ⟨hi,hol,tp,hlo,hts⟩
  simp only[KQ,MB,and_true] at hts
  obtain⟨z3,z18,z19,z20⟩:=hts
  have hlo':lo=0:=hlo
  subst hlo'
  have tp:top h<=c:=tp
  by_cases Bc:i<rs.length
  ·have hil:i<l.length:=by omega
   obtain⟨w,e1,e2⟩:=(hrs.get i Bc).2
   have hS:=hsm _ (List.getElem_mem Bc)
   have hrl:=hS.right
   obtain⟨r,hr0⟩:∃r,r=rs[i]:=⟨_,rfl⟩
   rw[← hr0] at e1 e2 hS hrl
   obtain⟨lv,hlv⟩:∃lv,lv=r.level:=⟨_,rfl⟩
   rw[← hlv] at e1
   have hix:Ad 3 rv (.int .i64 (i:Int)) ⟨h,c+1,0⟩=some (.BN [.str r.left,w,.int .i64 lv],⟨h,c+1,0⟩):=by
    have:=hr.idx (st:=⟨h,c+1,0⟩) hil
    rw[e1] at this; exact this
   have hn:newObj c (.cells 47 3 [.str [],.AB,.int .i64 0] false) ⟨h,c+1,0⟩=some ⟨(c,.cells 47 3 [.str [],.AB,.int .i64 0] false)::h,c+1,0⟩:=BP tp
   have hst:=DY (h:=h) (c:=c) (c':=c+1) (lo:=0) (ty:=47) (n:=3) (zs:=[.str [],.AB,.int .i64 0]) (vs:=[.str r.left,w,.int .i64 lv]) (by omega) rfl rfl
   obtain⟨h1,hh1⟩:∃h1:Heap,h1=(c,Al.cells 47 3 [.str r.left,w,.int .i64 lv] false)::h:=⟨_,rfl⟩
   rw[← hh1] at hst
   have tp1:top h1<=c+1:=by rw[hh1,BD]; omega
   have f1:AA h1 c=some (.cells 47 3 [.str r.left,w,.int .i64 lv] false):=by rw[hh1,Bv rfl]
   have rd:∀{h':Heap},AA h' c=some (.cells 47 3 [.str r.left,w,.int .i64 lv] false)->AP h' (.AO c 0)=some (.str r.left)/\AP h' (.AO c 1)=some w/\AP h' (.AO c 2)=some (.int .i64 lv):=fun hf=>by
    refine⟨?_,?_,?_⟩ <;> rw[AL hf] <;> rfl
   obtain⟨ra0,ra1,ra2⟩:=rd f1
   have hn2:newObj (c+1) (.cells 9 1 [.str r.left,.str [61]] false) ⟨h1,c+1+2,0⟩=some ⟨(c+1,.cells 9 1 [.str r.left,.str [61]] false)::h1,c+1+2,0⟩:=BP tp1
   obtain⟨h2,hh2⟩:∃h2:Heap,h2=(c+1,Al.cells 9 1 [.str r.left,.str [61]] false)::h1:=⟨_,rfl⟩
   rw[← hh2] at hn2
   have tp2:top h2<=c+1+1:=by rw[hh2,BD]; omega
   have f2:AA h2 c=some (.cells 47 3 [.str r.left,w,.int .i64 lv] false):=by rw[hh2,Bb (by omega)]; exact f1
   obtain⟨rb0,rb1,rb2⟩:=rd f2
   have A2:Acc h2 9 (.AU (c+1) 0 2 (some 2)) (strs [r.left,[61]]):=.ob (c+1) [.str r.left,.str [61]] (some 2) false (by rw[hh2,Bv rfl]) (.inr rfl)
   obtain⟨w3,h3,ap3,A3,tp3,fr3,id3⟩:=RB (c:=c+1+2) (lo:=0) A2 tp2 (fun p _=>Nat.zero_le p) e2 (by simp; omega)
   have f3:AA h3 c=some (.cells 47 3 [.str r.left,w,.int .i64 lv] false):=by rw[fr3 c (by omega) (by simp[BR])]; exact f2
   obtain⟨rc0,rc1,rc2⟩:=rd f3
   have id3':∀p,BR w3=some p->p=c+2∨p=c+1:=fun p hp=>(id3 p hp).imp (fun h=>by omega) fun h=>by simpa [BR] using h.symm
   have hRW:strs ([r.left,[61]]++r.right)=strs (Aw r):=rfl
   rw[hRW] at A3
   have hwi:=wi i (by omega)
   have hjl:=Fp hS
   have hbig:=Nat.mul_le_mul (show i<=1000 by omega) (Nat.le_refl 1735)
   obtain⟨O,hO⟩:∃O,O=out++(rs.take i).flatMap BL:=⟨_,rfl⟩
   rw[← hO] at z3 hol
   have htk:(rs.take (i+1)).flatMap BL=(rs.take i).flatMap BL++BL r:=by
    rw[List.take_succ_eq_append_getElem Bc,List.flatMap_append,← hr0]; simp
   have hfin:out++(rs.take (i+1)).flatMap BL=O++BL r:=by rw[htk,hO,List.append_assoc]
   have hlen:(O++BL r).length<=1000000+(i+1)*1735:=by
    rw[List.length_append]; unfold BL; rw[List.length_append,Nat.succ_mul]; simp only[List.length_cons,List.length_nil]; omega
   have hlen':=hlen
   rw[← hfin] at hlen'
   by_cases hz:lv=0
   ·subst hz
    have hlw:Aw r++BG r.level=Aw r:=by unfold BG; rw[if_pos hlv.symm,List.append_nil]
    have hj:=KM (k:=k+2) (sep:=[32]) (st:=⟨h3,c+1+2,0⟩) A3 (by have:=(FK hS).1; rw[hlw] at this; omega) (by have:=Fp hS; rw[hlw] at this; omega)
    have hrl:BL r=joined [32] (Aw r)++[10]:=by unfold BL; rw[hlw]
    have s1:=DJ (a:=joined [32] (Aw r)) (b:=[10]) (by rw[hlw] at hjl; simp; omega)
    have s2:=DJ (a:=O) (b:=joined [32] (Aw r)++[10]) (by rw[hlw] at hjl; simp; omega)
    have hrd3:Ac h (.BN [.str r.left,w,.int .i64 0]) 3=some [.str r.left,w,.int .i64 0]:=rfl
    simp[C.f18L0,z3,z18,z19,z20,Bc,hix,-Bp,hrd3,hn,hst,ra0,ra1,ra2,hn2,rb0,rb1,rb2,ap3,rc0,rc1,rc2,hj,s1,s2,hwi]
    rw[← hrl]
    exact⟨i+1,by omega,by omega,by simpa using hlen',tp3,by rw[hfin],by simp⟩
   ·have hrd3:Ac h (.BN [.str r.left,w,.int .i64 lv]) 3=some [.str r.left,w,.int .i64 lv]:=rfl
    have hz':¬r.level=0:=hlv ▸ hz
    have hlw:BG r.level=[[47],Lib.itoa lv]:=by unfold BG; rw[if_neg hz',hlv]
    have hz2:(lv !=0)=true:=by simpa using hz
    have hit:=Uu (k:=k) (n:=lv) (st:=⟨h3,c+1+2+2,0⟩) (hlv ▸ hS.level.1) (hlv ▸ hS.level.2)
    have hn4:newObj (c+1+2) (.cells 9 1 [.str [47],.str (Lib.itoa lv)] false) ⟨h3,c+1+2+2,0⟩=some ⟨(c+1+2,.cells 9 1 [.str [47],.str (Lib.itoa lv)] false)::h3,c+1+2+2,0⟩:=BP (by omega)
    obtain⟨h4,hh4⟩:∃h4:Heap,h4=(c+1+2,Al.cells 9 1 [.str [47],.str (Lib.itoa lv)] false)::h3:=⟨_,rfl⟩
    rw[← hh4] at hn4
    have tp4:top h4<=c+1+2+1:=by rw[hh4,BD]; omega
    have A4:Acc h4 9 w3 (strs (Aw r)):=A3.heap fun p hp=>by rw[hh4,Bb (by have:=A3.lt hp; omega)]
    have B4:Acc h4 9 (.AU (c+1+2) 0 2 (some 2)) (strs [[47],Lib.itoa lv]):=.ob (c+1+2) [.str [47],.str (Lib.itoa lv)] (some 2) false (by rw[hh4,Bv rfl]) (.inr rfl)
    obtain⟨w5,h5,ap5,A5,tp5,fr5,id5⟩:=gN (c:=c+1+2+2) (lo:=0) A4 tp4 (fun p _=>Nat.zero_le p) B4 (by have:=(FK hS).1; simp at this ⊢; omega)
    rw[← hlw] at A5
    have hj:=KM (k:=k+2) (sep:=[32]) (st:=⟨h5,c+1+2+2,0⟩) A5 (by have:=(FK hS).1; omega) (by have:=Fp hS; omega)
    have hrl:BL r=joined [32] (Aw r++BG r.level)++[10]:=rfl
    have s1:=DJ (a:=joined [32] (Aw r++BG r.level)) (b:=[10]) (by simp; omega)
    have s2:=DJ (a:=O) (b:=joined [32] (Aw r++BG r.level)++[10]) (by simp; omega)
    simp[C.f18L0,z3,z18,z19,z20,Bc,hix,-Bp,hrd3,hn,hst,ra0,ra1,ra2,hn2,rb0,rb1,rb2,ap3,rc0,rc1,rc2,hz2,hit,hn4,ap5,hj,s1,s2,hwi]
    rw[← hrl]
    exact⟨i+1,by omega,by omega,by simpa using hlen',tp5,by rw[hfin],by simp⟩
  ·have:i=rs.length:=by omega
   subst this
   simp[C.f18L0,z3,z19,z20]
 ·show rs.length-0<1000000; omega
 ·exact⟨by omega,by simp; omega,tp0,hl0,by simp[z3,z18,z19,z20]⟩
theorem OU {g:Ak}(hs:g.Small):(joined [32] ([116,111,107,101,110,115]::g.kinds)).length<=561:=by
 have:=Ht (sep:=[32]) (B:=50) (by decide) (l:=[116,111,107,101,110,115]::g.kinds) fun s hm=>by
  rcases List.mem_cons.1 hm with rfl|h
  ·decide
  ·exact hs.names s h
 have h2:=hs.kinds
 have:=Nat.mul_le_mul (show ([116,111,107,101,110,115]::g.kinds).length<=11 by simp; omega) (Nat.le_refl 51)
 omega
theorem Qj {g:Ak}(hs:g.Small):(Cz g).length<=619:=by
 have:=OU hs
 have:=hs.start
 unfold Cz
 simp only[List.length_append,List.length_cons,List.length_nil]
 omega
theorem Qm {α:Type}{f:α->BB}{n:Nat}:∀{l:List α},(∀x∈l,(f x).length<=n)->(l.flatMap f).length<=l.length*n
 |[],_=>by simp
 |a::l,h=>by
  have ih:=Qm (f:=f) (n:=n) (l:=l) fun x hx=>h x (List.mem_cons_of_mem _ hx)
  have:=h a (by simp)
  simp only[List.flatMap_cons,List.length_append,List.length_cons,Nat.succ_mul]
  omega
theorem aL {g:Ak}(hs:g.Small):(Bh g).length<=100000:=by
 have h1:=Qj hs
 have h2:=Qm (f:=BL) (n:=1735) (l:=g.rules) fun r hr=>by
  have:=Fp (hs.rules r hr)
  unfold BL; rw[List.length_append]; simp only[List.length_cons,List.length_nil]; omega
 have h3:=Nat.mul_le_mul hs.many (Nat.le_refl 1735)
 unfold Bh
 rw[List.length_append]
 omega
set_option maxHeartbeats 1000000 in
theorem Rb {k:Nat}{v:AV}{g:Ak}{st:St}(hg:Bl v g)(hs:g.Small):AX E (k+4) 18 [v] st=.ret (.str (Bh g),st):=by
 have hold:=hg.LD 0
 obtain⟨kv,rv,l,rfl,hk,hr,hrs⟩:=hg
 have hln:=hrs.length
 have hmany:=hs.many
 have hkn:=hs.kinds
 have hst:=hs.start
 rw[DK (fn:=C.f18) rfl rfl rfl (by simp[AV.Cx,hold]),Af (by simp)]
 have goal:((BF E (AX E (k+3)) C.f18.body (TS.Cm [.agg [kv,.str g.start,rv]] 0 .nil) ⟨[],0,0⟩).bind (leave C.f18.results)).to fun r=>r.1=.str (Bh g):=by
  have hbx:Gy 0 29 3 (.agg [kv,.str g.start,rv])=some (.AO 0 0,.cells 29 3 [kv,.str g.start,rv] false):=rfl
  obtain⟨h0,hh0⟩:∃h:Heap,h=[(0,.cells 29 3 [kv,.str g.start,rv] false)]:=⟨_,rfl⟩
  have hn:newObj 0 (.cells 29 3 [kv,.str g.start,rv] false) ⟨[],1,0⟩=some ⟨h0,1,0⟩:=by rw[hh0]; rfl
  have f0:AA h0 0=some (.cells 29 3 [kv,.str g.start,rv] false):=by rw[hh0]; rfl
  have tp0:top h0<=1:=by rw[hh0]; simp[top]
  have rd:∀{h:Heap},AA h 0=some (.cells 29 3 [kv,.str g.start,rv] false)->AP h (.AO 0 0)=some kv/\AP h (.AO 0 1)=some (.str g.start)/\AP h (.AO 0 2)=some rv:=fun hf=>by
   refine⟨?_,?_,?_⟩ <;> rw[AL hf] <;> rfl
  have hn1:newObj 1 (.cells 9 1 [.str [116,111,107,101,110,115]] false) ⟨h0,3,0⟩=some ⟨(1,.cells 9 1 [.str [116,111,107,101,110,115]] false)::h0,3,0⟩:=BP tp0
  obtain⟨h1,hh1⟩:∃h1:Heap,h1=(1,Al.cells 9 1 [.str [116,111,107,101,110,115]] false)::h0:=⟨_,rfl⟩
  rw[← hh1] at hn1
  have tp1:top h1<=2:=by rw[hh1,BD]; omega
  have f1:AA h1 0=some (.cells 29 3 [kv,.str g.start,rv] false):=by rw[hh1,Bb (by omega)]; exact f0
  have A1:Acc h1 9 (.AU 1 0 1 (some 1)) (strs [[116,111,107,101,110,115]]):=.ob 1 [.str [116,111,107,101,110,115]] (some 1) false (by rw[hh1,Bv rfl]) (.inr rfl)
  obtain⟨w2,h2,ap2,A2,tp2,fr2,id2⟩:=RB (c:=3) (lo:=0) A1 tp1 (fun p _=>Nat.zero_le p) hk (by simp; omega)
  have f2:AA h2 0=some (.cells 29 3 [kv,.str g.start,rv] false):=by rw[fr2 0 (by omega) (by simp[BR])]; exact f1
  have hkl:=OU hs
  have hj:=KM (k:=k+2) (sep:=[32]) (st:=⟨h2,3,0⟩) A2 (by simp; omega) (by show (joined [32] ([116,111,107,101,110,115]::g.kinds)).length<=_; omega)
  obtain⟨J,hJ⟩:∃J,J=joined [32] ([116,111,107,101,110,115]::g.kinds):=⟨_,rfl⟩
  rw[show [[116,111,107,101,110,115]]++g.kinds=[116,111,107,101,110,115]::g.kinds from rfl,← hJ] at hj
  rw[← hJ] at hkl
  have s1:=DJ (a:=J) (b:=[10,115,116,97,114,116,32]) (by simp; omega)
  have s2:=DJ (a:=J++[10,115,116,97,114,116,32]) (b:=g.start) (by simp; omega)
  have s3:=DJ (a:=J++[10,115,116,97,114,116,32]++g.start) (b:=[10]) (by simp; omega)
  have hH:J++[10,115,116,97,114,116,32]++g.start++[10]=Cz g:=by rw[hJ]; rfl
  rw[hH] at s3
  simp only[List.append_assoc,List.cons_append,List.nil_append] at s3
  have hlr:∀S':St,Be .slice rv S'=some (.int .i64 (g.rules.length:Int),S'):=fun S'=>by have:=hr.len (st:=S'); rw[this,hln]
  have loop:=fun ts0 z3 z18 z19 z20=>XA (k:=k) (rv:=rv) (l:=l) (rs:=g.rules) (out:=Cz g) (S0:=⟨h2,3,0⟩) hr hrs hs.rules (by omega) (by have:=Qj hs; omega) tp2 rfl ts0 z3 z18 z19 z20
  simp[C.f18,hbx,hn,Gz,Dw,Da,Fj,hn1,(rd f0).1,(rd f1).1,(rd f1).2.1,ap2,(rd f2).2.1,(rd f2).2.2,hj,s1,s2,s3,hlr,AV.Fe]
  refine M.BX (loop _ (by simp) (by simp) (by simp) (by simp)) fun x hx=>?_
  obtain⟨e,ts1,st1⟩:=x
  obtain⟨rfl,h3⟩:=hx
  simp only at h3
  simp[h3,leave,results,AR,Bh]
 obtain⟨⟨v,st'⟩,h1,h2⟩:=goal
 simp only at h2
 subst h2
 rw[h1]
 exact RU
end Go.Am
