/- A part of the proof of grammarTexts (merged by a program). -/
import Derived.Test.YtehhlchbbdaipaaGreatDoorW4
namespace Go.Am
open Go
theorem GA {s:Ay}{i:Nat}{st:St}(h:i<=s.length):Bp true false [.str s,.int .i64 (i:Int)] st=some (.str (s.drop i),st):=by
 have e:asNat (.int .i64 (i:Int))=some i:=rfl
 simp[Bp,Cx,e,ble_eq,h]
theorem Kv {s:Ay}{i:Nat}{st:St}(h:i<=s.length):Bp false true [.str s,.int .i64 (i:Int)] st=some (.str (s.take i),st):=by
 have e:asNat (.int .i64 (i:Int))=some i:=rfl
 simp[Bp,Cx,e,ble_eq,h]
theorem FW {s:Ay}{i:Nat}{st:St}(h:i<s.length):Bq (.str s) (.int .i64 (i:Int)) st=some (.int .u8 (s[i].toNat:Int),st):=by
 have e:asNat (.int .i64 (i:Int))=some i:=rfl
 simp[Bq,e,h]
section
variable {E:Env}{call:Nat->List AV->St->M (AV × St)}{s d q:Nat}{b:Bool}{k:AK}{args:List Gx}{ops:List CV}{ts:TS}{st:St}
theorem BG (h:ts.get q=.undef):Gl E call s (⟨some d,some (q,b),k,args⟩::ops) ts st=Gl E call s ops (ts.set d .undef) st:=by
 rw[JJ,h]; rfl
end
theorem QQ {k:Nat}{s:Ay}{c:UInt8}{st:St}:AR E (k+1) 172 [.str s,.str [c]] st=.ret (.bool (s.head? ==some c),st):=by
 rw[Af (fn:=C.f172) rfl rfl rfl,Ab (by simp)]
 cases s with
 |nil=>simp[C.f172,Ag,AZ,BG,leave,results,AP]
 |cons b s=>
  have h1:Bp false true [.str (b::s),.int .i64 1] st=some (.str [b],st):=Kv (i:=1) (by simp)
  have h2:(1:Int)<=(s.length:Int)+1:=by omega
  simp[C.f172,Ag,AZ,BG,h1,h2,leave,results,AP]
theorem Wd {k:Nat}{s:Ay}{c:UInt8}{st:St}(hs:s.length<1000000):AR E (k+3) 216 [.str s,.str [c]] st=.ret (.tuple [.str (if s.head? =some c then s.tail else s),.bool (s.head? ==some c)],st):=by
 rw[Af (fn:=C.f216) rfl rfl rfl,Ab (by simp)]
 have h:AR E (k+2) 256 [.str s,.str [c]] st=.ret (.tuple [.str (if s.head? =some c then s.tail else s),.bool (s.head? ==some c)],st):=by
  rw[Af (fn:=C.f256) rfl rfl rfl,Ab (by simp)]
  have hp:=QQ (k:=k) (s:=s) (c:=c) (st:=st)
  by_cases e:s.head? =some c
  ·have eb:(s.head? ==some c)=true:=by simp[e]
   rw[eb] at hp
   have h1:Bp true false [.str s,.int .i64 1] st=some (.str (s.drop 1),st):=GA (i:=1) (by cases s with|nil=>cases e|cons b s=>simp)
   simp[C.f256,hp,h1,e,leave,results,AP]
  ·have eb:(s.head? ==some c)=false:=by simpa using e
   rw[eb] at hp
   simp[C.f256,hp,e,eb,leave,results,AP]
 simp[C.f216,h,leave,results,AP]
theorem TQ {k:Nat}{s:Ay}{c:UInt8}{st:St}(hs:s.length<1000000):AR E (k+3) 219 [.str s,.str [c]] st=.ret (.str (if s.head? =some c then s.tail else s),st):=by
 rw[Af (fn:=C.f219) rfl rfl rfl,Ab (by simp)]
 have h:AR E (k+2) 260 [.str s,.str [c]] st=.ret (.str (if s.head? =some c then s.tail else s),st):=by
  rw[Af (fn:=C.f260) rfl rfl rfl,Ab (by simp)]
  have hp:=QQ (k:=k) (s:=s) (c:=c) (st:=st)
  by_cases e:s.head? =some c
  ·have eb:(s.head? ==some c)=true:=by simp[e]
   rw[eb] at hp
   have h1:Bp true false [.str s,.int .i64 1] st=some (.str (s.drop 1),st):=GA (i:=1) (by cases s with|nil=>cases e|cons b s=>simp)
   simp[C.f260,hp,h1,e,leave,results,AP]
  ·have eb:(s.head? ==some c)=false:=by simpa using e
   rw[eb] at hp
   simp[C.f260,hp,e,leave,results,AP]
 simp[C.f219,h,leave,results,AP]
def FN (n:Int):Ay->Option Int
 |[]=>some n
 |b::s=>if IL b=true then FN (10*n+((b.toNat:Int)-48)) s else none
def GQ (s t:Ay):Bool:=t.isEmpty||decide (9<t.length)||(t.head? ==some 48&&(decide (1<t.length)||s.head? ==some 45))
def Du (s:Ay):Ay:=if s.head? =some 45 then s.tail else s
def numOf (s:Ay):Option Int:=if GQ s (Du s)=true then none else (FN 0 (Du s)).map fun n=>if s.head? =some 45 then -n else n
def FM (s:Ay):AV:=.tuple [.int .i64 ((numOf s).getD 0),.bool (numOf s).isSome]
theorem QL {b:UInt8}(h:IL b=true):48<=b.toNat/\b.toNat<=57:=by unfold IL at h; simpa using h
theorem PE (s:Ay):(Du s).length<=s.length:=by unfold Du; split <;> simp
theorem fZ {a b:Int}:bin .sub (.int .u8 a) (.int .u8 b)=some (.int .u8 (IntKind.u8.wrap (a-b))):=rfl
set_option maxHeartbeats 1000000 in
theorem Qs {k:Nat}{s:Ay}{st:St}(hs:s.length<1000000):AR E (k+4) 166 [.str s,.int .i64 9] st=.ret (FM s,st):=by
 rw[Af (fn:=C.f166) rfl rfl rfl,Ab (by simp)]
 apply M.to_eq
 have hc:=Wd (k:=k) (s:=s) (c:=45) (st:=st) hs
 obtain⟨t,ht⟩:∃t,t=Du s:=⟨_,rfl⟩
 have ht':(if s.head? =some 45 then s.tail else s)=t:=ht.symm
 rw[ht'] at hc
 have htl:t.length<=s.length:=ht ▸ PE s
 by_cases hbad:GQ s t=true
 ·have hv:FM s=.tuple [.int .i64 0,.bool false]:=by unfold FM numOf; rw[← ht,if_pos hbad]; rfl
  rw[hv]
  cases t with
  |nil=>simp[C.f166,hc,Ag,AZ,BG,leave,results,AP]
  |cons b t=>
   by_cases h9:9<(b::t).length
   ·have h9':(9:Int)<(t.length:Int)+1:=by simp at h9; omega
    simp[C.f166,hc,Ag,AZ,BG,h9',leave,results,AP]
   ·have h9':¬(9:Int)<(t.length:Int)+1:=by simp at h9; omega
    have hix:Bq (.str (b::t)) (.int .i64 0) st=some (.int .u8 (b.toNat:Int),st):=FW (i:=0) (by simp)
    unfold GQ at hbad
    simp only[List.isEmpty_cons,Bool.false_or,h9,decide_false,List.head?_cons,Bool.and_eq_true,beq_iff_eq,Option.some.injEq,Bool.or_eq_true,decide_eq_true_eq] at hbad
    obtain⟨rfl,h2⟩:=hbad
    by_cases h1:1<((48:UInt8)::t).length
    ·have h1':(1:Int)<(t.length:Int)+1:=by simp at h1; omega
     simp[C.f166,hc,Ag,AZ,BG,h9',hix,h1',leave,results,AP]
    ·have h1':¬(1:Int)<(t.length:Int)+1:=by
      have:((48:UInt8)::t).length=t.length+1:=rfl
      omega
     have hm:s.head? =some 45:=h2.resolve_left h1
     simp[C.f166,hc,Ag,AZ,BG,h9',hix,h1',hm,leave,results,AP]
 ·have hbad':GQ s t=false:=by simpa using hbad
  have hlen9:t.length<=9:=by
   unfold GQ at hbad'
   simp only[Bool.or_eq_false_iff,decide_eq_false_iff_not] at hbad'
   omega
  have hne:t≠[]:=by
   intro e; subst e; simp[GQ] at hbad'
  obtain⟨b0,t0,rfl⟩:∃b0 t0,t=b0::t0:=by
   cases t with
   |nil=>exact absurd rfl hne
   |cons b t=>exact⟨b,t,rfl⟩
  have h9':¬(9:Int)<(t0.length:Int)+1:=by simp at hlen9; omega
  have hix:Bq (.str (b0::t0)) (.int .i64 0) st=some (.int .u8 (b0.toNat:Int),st):=FW (i:=0) (by simp)
  have loop:∀(ts0:TS),ts0.get 6=.str (b0::t0)->ts0.get 7=.bool (s.head? ==some 45)->ts0.get 8=.int .i64 0->ts0.get 37=.int .i64 (((b0::t0).length:Nat):Int)->ts0.get 38=.int .i64 ((0:Nat):Int) ->
   (DN (BB E (AR E (k+3)) C.f166L0) E.k ts0 st).to fun x=>x.2.2=st/\((x.1=.exit 0/\x.2.1.get 7=.bool (s.head? ==some 45)/\∃m:Int,0<=m/\m<1000000000/\x.2.1.get 8=.int .i64 m/\FN 0 (b0::t0)=some m)∨(x.1=.ret/\x.2.1.get 4=.int .i64 0/\x.2.1.get 5=.bool false/\FN 0 (b0::t0)=none)):=by
   intro ts0 y6 y7 y8 y37 y38
   generalize b0::t0=t at *
   refine Ct (fun (i:Nat) ts st'=>st'=st/\i<=t.length/\ts.get 6=.str t/\ts.get 7=.bool (s.head? ==some 45)/\ts.get 37=.int .i64 (t.length:Int)/\ts.get 38=.int .i64 (i:Int)/\∃m:Int,ts.get 8=.int .i64 m/\0<=m/\m<10 ^ i/\FN m (t.drop i)=FN 0 t)
    (fun i=>t.length-i) ?_ _ 0 _ _ ?_ ?_
   ·rintro i ts st' ⟨rfl,hi,y6,y7,y37,y38,m,y8,hm0,hm1,hd⟩
    have hp:(10:Int) ^ i<=10 ^ 9:=by
     have:(10:Nat) ^ i<=10 ^ 9:=Nat.pow_le_pow_right (by omega) (by omega)
     exact_mod_cast this
    by_cases BQ:i<t.length
    ·have hp2:(10:Int) ^ (i+1)<=10 ^ 9:=by
      have:(10:Nat) ^ (i+1)<=10 ^ 9:=Nat.pow_le_pow_right (by omega) (by omega)
      exact_mod_cast this
     have hp3:(10:Int) ^ (i+1)=10*10 ^ i:=by rw[Int.pow_succ,Int.mul_comm]
     have ix:=FW (st:=st') BQ
     have hdg:=Lh (k:=k+2) (b:=t[i]) (st:=st')
     rw[List.drop_eq_getElem_cons BQ,FN] at hd
     cases hb:IL t[i] with
     |false=>
      rw[hb] at hdg hd
      simp[C.f166L0,y6,y7,y8,y37,y38,BQ,ix,hdg]
      rw[← hd]; simp
     |true=>
      rw[hb] at hdg hd
      obtain⟨b1,b2⟩:=QL hb
      have w1:IntKind.u8.wrap ((t[i].toNat:Int)-48)=(t[i].toNat:Int)-48:=by
       show ((t[i].toNat:Int)-48) % 256=_
       exact Int.emod_eq_of_lt (by omega) (by omega)
      have w2:IntKind.i64.wrap (10*m)=10*m:=wrap64 (by omega) (by omega)
      have w3:IntKind.i64.wrap ((t[i].toNat:Int)-48)=(t[i].toNat:Int)-48:=wrap64 (by omega) (by omega)
      have w4:IntKind.i64.wrap (10*m+((t[i].toNat:Int)-48))=10*m+((t[i].toNat:Int)-48):=wrap64 (by omega) (by omega)
      simp[C.f166L0,y6,y7,y8,y37,y38,BQ,ix,hdg,fZ,w1,w2,w3,w4,wi i]
      refine⟨i+1,by omega,by omega,by simp,by omega,by omega,?_⟩
      rw[← hd]; simp
    ·have:i=t.length:=by omega
     subst this
     rw[List.drop_length] at hd
     simp[C.f166L0,y6,y7,y8,y37,y38]
     exact⟨m,hm0,by omega,rfl,by rw[← hd]; rfl⟩
   ·show t.length-0<1000000; omega
   ·exact⟨rfl,by omega,y6,y7,y37,y38,0,y8,by omega,by simp,by simp⟩
  have hpick:((b0::t0).head? ==some 48&&(decide (1<(b0::t0).length)||s.head? ==some 45))=false:=by
   unfold GQ at hbad'
   simp only[Bool.or_eq_false_iff] at hbad'
   exact hbad'.2
  simp only[List.head?_cons,Bool.and_eq_false_iff,Bool.or_eq_false_iff,decide_eq_false_iff_not,beq_eq_false_iff_ne,ne_eq,Option.some.injEq] at hpick
  have hfr:b0≠48∨(b0=48/\t0=[]/\(s.head? ==some 45)=false):=by
   rcases hpick with h|⟨h1,h2⟩
   ·exact .inl h
   ·by_cases e:b0=48
    ·refine .inr ⟨e,?_,by simpa using h2⟩
     cases t0 with
     |nil=>rfl
     |cons a t=>simp at h1
    ·exact .inl e
  rcases hfr with hb|⟨rfl,rfl,hm⟩
  ·have hb':((b0.toNat:Int)==48)=false:=by
    simp only[beq_eq_false_iff_ne]
    intro e
    exact hb (UInt8.toNat_inj.mp (by simpa using (by exact_mod_cast e:b0.toNat=48)))
   simp[C.f166,hc,Ag,AZ,BG,h9',hix,hb',-M.bind_assoc]
   simp only[M.bind_assoc]
   refine M.BN (loop _ (by simp) (by simp) (by simp) (by simp) (by simp)) fun x hx=>?_
   obtain⟨e,ts1,st1⟩:=x
   obtain⟨es,h⟩:=hx
   simp only at es h
   subst es
   rcases h with⟨rfl,h7,m,m0,m1,h8,hd⟩|⟨rfl,h4,h5,hd⟩
   ·have hn:numOf s=some (if s.head? =some 45 then -m else m):=by unfold numOf; rw[← ht,if_neg hbad,hd]; rfl
    by_cases e:s.head? =some 45
    ·have w:IntKind.i64.wrap (0-m)=0-m:=wrap64 (by omega) (by omega)
     have w':IntKind.i64.wrap (-m)=-m:=wrap64 (by omega) (by omega)
     simp[h7,h8,hn,e,w,w',leave,results,AP,FM]
    ·have eb:(s.head? ==some 45)=false:=by simpa using e
     rw[eb] at h7
     simp[h7,h8,hn,e,leave,results,AP,FM]
   ·have hn:numOf s=none:=by unfold numOf; rw[← ht,if_neg hbad,hd]; rfl
    simp[h4,h5,hn,leave,results,AP,FM]
  ·simp[C.f166,hc,Ag,AZ,BG,hix,hm,-M.bind_assoc]
   simp only[M.bind_assoc]
   refine M.BN (loop _ (by simp) (by simp; simpa using hm) (by simp) (by simp) (by simp)) fun x hx=>?_
   obtain⟨e,ts1,st1⟩:=x
   obtain⟨es,h⟩:=hx
   simp only at es h
   subst es
   rcases h with⟨rfl,h7,m,m0,m1,h8,hd⟩|⟨rfl,h4,h5,hd⟩
   ·have hn:numOf s=some (if s.head? =some 45 then -m else m):=by unfold numOf; rw[← ht,if_neg hbad,hd]; rfl
    by_cases e:s.head? =some 45
    ·have w:IntKind.i64.wrap (0-m)=0-m:=wrap64 (by omega) (by omega)
     have w':IntKind.i64.wrap (-m)=-m:=wrap64 (by omega) (by omega)
     exact absurd e (by simpa using hm)
    ·have eb:(s.head? ==some 45)=false:=by simpa using e
     rw[eb] at h7
     simp[h7,h8,hn,e,leave,results,AP,FM]
   ·have hn:numOf s=none:=by unfold numOf; rw[← ht,if_neg hbad,hd]; rfl
    simp[h4,h5,hn,leave,results,AP,FM]
def kV:Ay:=[48,49,50,51,52,53,54,55,56,57]
theorem aN (b:UInt8):Qv kV b=if IL b=true then (b.toNat:Int)-48 else -1:=by
 have:=Wx (p:=fun b=>Qv kV b==if IL b=true then (b.toNat:Int)-48 else -1) (by decide +kernel) b
 simpa using this
theorem dQ {k:Nat}{b:UInt8}{st:St}:AR E (k+2) 121 [.str [48,49,50,51,52,53,54,55,56,57],.int .u8 b.toNat] st=.ret (.int .i64 (if IL b=true then (b.toNat:Int)-48 else -1),st):=by
 rw[← aN]; exact Jd JA
theorem Vz {s:Ay}(h:Du s≠[]):(decide (((Du s).length:Int)<(s.length:Int)))=(s.head? ==some 45):=by
 unfold Du at *
 by_cases e:s.head? =some 45
 ·rw[if_pos e]
  cases s with
  |nil=>cases e
  |cons b s=>rw[e,beq_self_eq_true,decide_eq_true_eq]; show ((s.length:Nat):Int)<((s.length+1:Nat):Int); omega
 ·rw[if_neg e]; simp[e]
set_option maxHeartbeats 1000000 in
theorem Qm {k:Nat}{s:Ay}{st:St}(hs:s.length<1000000):AR E (k+4) 168 [.str s,.int .i64 9] st=.ret (FM s,st):=by
 rw[Af (fn:=C.f168) rfl rfl rfl,Ab (by simp)]
 apply M.to_eq
 have hc:=TQ (k:=k) (s:=s) (c:=45) (st:=st) hs
 obtain⟨t,ht⟩:∃t,t=Du s:=⟨_,rfl⟩
 have ht':(if s.head? =some 45 then s.tail else s)=t:=ht.symm
 rw[ht'] at hc
 have htl:t.length<=s.length:=ht ▸ PE s
 have h0s:∀t0,t=48::t0->((s=[48])↔(t0=[]/\(s.head? ==some 45)=false)):=by
  intro t0 e
  rw[e] at ht'
  by_cases h:s.head? =some 45
  ·rw[if_pos h] at ht'
   simp only[h,beq_self_eq_true,reduceCtorEq,and_false,iff_false]
   intro e2; rw[e2] at h; simp at h
  ·rw[if_neg h] at ht'
   subst ht'
   simp
 by_cases hbad:GQ s t=true
 ·have hv:FM s=.tuple [.int .i64 0,.bool false]:=by unfold FM numOf; rw[← ht,if_pos hbad]; rfl
  rw[hv]
  cases t with
  |nil=>simp[C.f168,hc,Ag,AZ,BG,leave,results,AP]
  |cons b t=>
   by_cases h9:9<(b::t).length
   ·have h9':(9:Int)<(t.length:Int)+1:=by simp at h9; omega
    simp[C.f168,hc,Ag,AZ,BG,h9',leave,results,AP]
   ·have h9':¬(9:Int)<(t.length:Int)+1:=by simp at h9; omega
    have hix:Bq (.str (b::t)) (.int .i64 0) st=some (.int .u8 (b.toNat:Int),st):=FW (i:=0) (by simp)
    unfold GQ at hbad
    simp only[List.isEmpty_cons,Bool.false_or,h9,decide_false,List.head?_cons,Bool.and_eq_true,beq_iff_eq,Option.some.injEq,Bool.or_eq_true,decide_eq_true_eq] at hbad
    obtain⟨rfl,h2⟩:=hbad
    have hne:¬s=[48]:=by
     rw[h0s t rfl]
     rintro⟨rfl,e⟩
     rcases h2 with h2|h2
     ·simp at h2
     ·simp[h2] at e
    have hne':(s==[48])=false:=by simpa using hne
    simp[C.f168,hc,Ag,AZ,BG,h9',hix,hne,hne',leave,results,AP]
 ·have hbad':GQ s t=false:=by simpa using hbad
  have hlen9:t.length<=9:=by
   unfold GQ at hbad'
   simp only[Bool.or_eq_false_iff,decide_eq_false_iff_not] at hbad'
   omega
  have hne:t≠[]:=by
   intro e; subst e; simp[GQ] at hbad'
  have hlts:(decide ((t.length:Int)<(s.length:Int)))=(s.head? ==some 45):=by
   rw[ht]; exact Vz (ht ▸ hne)
  obtain⟨b0,t0,rfl⟩:∃b0 t0,t=b0::t0:=by
   cases t with
   |nil=>exact absurd rfl hne
   |cons b t=>exact⟨b,t,rfl⟩
  have h9':¬(9:Int)<(t0.length:Int)+1:=by simp at hlen9; omega
  have hix:Bq (.str (b0::t0)) (.int .i64 0) st=some (.int .u8 (b0.toNat:Int),st):=FW (i:=0) (by simp)
  have loop:∀(ts0:TS),ts0.get 6=.str (b0::t0)->ts0.get 0=.str s->ts0.get 7=.int .i64 0->ts0.get 30=.int .i64 (((b0::t0).length:Nat):Int)->ts0.get 31=.int .i64 ((0:Nat):Int) ->
   (DN (BB E (AR E (k+3)) C.f168L0) E.k ts0 st).to fun x=>x.2.2=st/\((x.1=.exit 0/\x.2.1.get 6=.str (b0::t0)/\x.2.1.get 0=.str s/\∃m:Int,0<=m/\m<1000000000/\x.2.1.get 7=.int .i64 m/\FN 0 (b0::t0)=some m)∨(x.1=.ret/\x.2.1.get 4=.int .i64 0/\x.2.1.get 5=.bool false/\FN 0 (b0::t0)=none)):=by
   intro ts0 y6 y0 y7 y30 y31
   generalize b0::t0=t at *
   refine Ct (fun (i:Nat) ts st'=>st'=st/\i<=t.length/\ts.get 6=.str t/\ts.get 0=.str s/\ts.get 30=.int .i64 (t.length:Int)/\ts.get 31=.int .i64 (i:Int)/\∃m:Int,ts.get 7=.int .i64 m/\0<=m/\m<10 ^ i/\FN m (t.drop i)=FN 0 t)
    (fun i=>t.length-i) ?_ _ 0 _ _ ?_ ?_
   ·rintro i ts st' ⟨rfl,hi,y6,y0,y30,y31,m,y7,hm0,hm1,hd⟩
    have hp:(10:Int) ^ i<=10 ^ 9:=by
     have:(10:Nat) ^ i<=10 ^ 9:=Nat.pow_le_pow_right (by omega) (by omega)
     exact_mod_cast this
    by_cases BQ:i<t.length
    ·have hp2:(10:Int) ^ (i+1)<=10 ^ 9:=by
      have:(10:Nat) ^ (i+1)<=10 ^ 9:=Nat.pow_le_pow_right (by omega) (by omega)
      exact_mod_cast this
     have hp3:(10:Int) ^ (i+1)=10*10 ^ i:=by rw[Int.pow_succ,Int.mul_comm]
     have ix:=FW (st:=st') BQ
     have hdg:=dQ (k:=k+1) (b:=t[i]) (st:=st')
     rw[List.drop_eq_getElem_cons BQ,FN] at hd
     cases hb:IL t[i] with
     |false=>
      rw[hb,if_neg (by decide)] at hdg hd
      simp[C.f168L0,y6,y7,y0,y30,y31,BQ,ix,hdg]
      rw[← hd]
     |true=>
      rw[hb,if_pos rfl] at hdg hd
      obtain⟨b1,b2⟩:=QL hb
      have w0:¬(t[i].toNat:Int)-48<0:=by omega
      have w2:IntKind.i64.wrap (10*m)=10*m:=wrap64 (by omega) (by omega)
      have w4:IntKind.i64.wrap (10*m+((t[i].toNat:Int)-48))=10*m+((t[i].toNat:Int)-48):=wrap64 (by omega) (by omega)
      simp[C.f168L0,y6,y7,y0,y30,y31,BQ,ix,hdg,w0,w2,w4,wi i]
      refine⟨i+1,by omega,by omega,by simp,by omega,by omega,?_⟩
      rw[← hd]
    ·have:i=t.length:=by omega
     subst this
     rw[List.drop_length] at hd
     simp[C.f168L0,y6,y7,y0,y30,y31]
     exact⟨m,hm0,by omega,rfl,by rw[← hd]; rfl⟩
   ·show t.length-0<1000000; omega
   ·exact⟨rfl,by omega,y6,y0,y30,y31,0,y7,by omega,by simp,by simp⟩
  have hpick:((b0::t0).head? ==some 48&&(decide (1<(b0::t0).length)||s.head? ==some 45))=false:=by
   unfold GQ at hbad'
   simp only[Bool.or_eq_false_iff] at hbad'
   exact hbad'.2
  simp only[List.head?_cons,Bool.and_eq_false_iff,Bool.or_eq_false_iff,decide_eq_false_iff_not,beq_eq_false_iff_ne,ne_eq,Option.some.injEq] at hpick
  have hfr:b0≠48∨(b0=48/\s=[48]):=by
   rcases hpick with h|⟨h1,h2⟩
   ·exact .inl h
   ·by_cases e:b0=48
    ·refine .inr ⟨e,?_⟩
     subst e
     refine (h0s t0 rfl).2 ⟨?_,by simpa using h2⟩
     cases t0 with
     |nil=>rfl
     |cons a t=>simp at h1
    ·exact .inl e
  have tail:∀x:JL × TS × St,(x.2.2=st/\((x.1=.exit 0/\x.2.1.get 6=.str (b0::t0)/\x.2.1.get 0=.str s/\∃m:Int,0<=m/\m<1000000000/\x.2.1.get 7=.int .i64 m/\FN 0 (b0::t0)=some m)∨(x.1=.ret/\x.2.1.get 4=.int .i64 0/\x.2.1.get 5=.bool false/\FN 0 (b0::t0)=none)))->True:=fun _ _=>trivial
  rcases hfr with hb|⟨rfl,rfl⟩
  ·have hb':((b0.toNat:Int)==48)=false:=by
    simp only[beq_eq_false_iff_ne]
    intro e
    exact hb (UInt8.toNat_inj.mp (by simpa using (by exact_mod_cast e:b0.toNat=48)))
   simp[C.f168,hc,Ag,AZ,BG,h9',hix,hb',-M.bind_assoc]
   simp only[M.bind_assoc]
   refine M.BN (loop _ (by simp) (by simp) (by simp) (by simp) (by simp)) fun x hx=>?_
   obtain⟨e,ts1,st1⟩:=x
   obtain⟨es,h⟩:=hx
   simp only at es h
   subst es
   rcases h with⟨rfl,h6,h0,m,m0,m1,h8,hd⟩|⟨rfl,h4,h5,hd⟩
   ·have hn:numOf s=some (if s.head? =some 45 then -m else m):=by unfold numOf; rw[← ht,if_neg hbad,hd]; rfl
    by_cases e:s.head? =some 45
    ·have w:IntKind.i64.wrap (0-m)=0-m:=wrap64 (by omega) (by omega)
     have w':IntKind.i64.wrap (-m)=-m:=wrap64 (by omega) (by omega)
     have hl:((t0.length:Int)+1<(s.length:Int)):=by
      have:decide ((((b0::t0).length:Nat):Int)<(s.length:Int))=true:=by rw[hlts]; simp[e]
      simpa using this
     simp[h6,h0,h8,hn,e,hl,w,w',leave,results,AP,FM]
    ·have eb:(s.head? ==some 45)=false:=by simpa using e
     have hl:¬((t0.length:Int)+1<(s.length:Int)):=by
      have:decide ((((b0::t0).length:Nat):Int)<(s.length:Int))=false:=by rw[hlts]; exact eb
      simpa using this
     simp[h6,h0,h8,hn,e,hl,leave,results,AP,FM]
   ·have hn:numOf s=none:=by unfold numOf; rw[← ht,if_neg hbad,hd]; rfl
    simp[h4,h5,hn,leave,results,AP,FM]
  ·have e48:t0=[]:=((h0s t0 rfl).1 rfl).1
   subst e48
   simp[C.f168,hc,Ag,AZ,BG,hix,-M.bind_assoc]
   simp only[M.bind_assoc]
   refine M.BN (loop _ (by simp) (by simp) (by simp) (by simp) (by simp)) fun x hx=>?_
   obtain⟨e,ts1,st1⟩:=x
   obtain⟨es,h⟩:=hx
   simp only at es h
   subst es
   rcases h with⟨rfl,h6,h0,m,m0,m1,h8,hd⟩|⟨rfl,h4,h5,hd⟩
   ·have hn:numOf [48]=some m:=by unfold numOf; rw[← ht,if_neg hbad,hd]; rfl
    simp[h6,h0,h8,hn,leave,results,AP,FM]
   ·have hn:numOf [48]=none:=by unfold numOf; rw[← ht,if_neg hbad,hd]; rfl
    simp[h4,h5,hn,leave,results,AP,FM]
def top:Heap->Nat
 |[]=>0
 |(p,_)::h=>max (p+1) (top h)
theorem KO {h:Heap}{n:Nat}:top h<=n↔∀p x,(p,x)∈h->p<n:=by
 induction h with
 |nil=>simp[top]
 |cons q h ih=>
  obtain⟨p,x⟩:=q
  simp only[top,Nat.max_le,ih,List.mem_cons,Prod.mk.injEq]
  constructor
  ·rintro⟨h1,h2⟩ a b (⟨rfl,rfl⟩|h)
   ·omega
   ·exact h2 a b h
  ·intro h
   exact⟨h p x (.inl ⟨rfl,rfl⟩),fun a b hm=>h a b (.inr hm)⟩
theorem HB.top {h:Heap}{c lo:Nat}(H:HB ⟨h,c,lo⟩):top h<=c:=KO.2 H
theorem fo {h:Heap}{c lo:Nat}(H:top h<=c):HB ⟨h,c,lo⟩:=KO.1 H
theorem Av {p n:Nat}{x:Ai}{h:Heap}:top ((p,x)::h)<=n↔p<n/\top h<=n:=by simp only[top,Nat.max_le]; omega
theorem FB {h:Heap}{o:Nat}{y:Ai}:top (Aa h o y)=top h:=by
 induction h with
 |nil=>rfl
 |cons q h ih=>
  obtain⟨p,x⟩:=q
  simp only[Aa]
  cases Nat.beq p o <;> simp[top,ih]
theorem TR {h:Heap}{o:Nat}:top (GH h o)<=top h:=by
 induction h with
 |nil=>exact Nat.le_refl _
 |cons q h ih=>
  obtain⟨p,x⟩:=q
  simp only[GH]
  cases Nat.beq p o <;> simp only[cond_true,cond_false,top] <;> omega
theorem BC {o c lo:Nat}{y:Ai}{h:Heap}(H:top h<=o):newObj o y ⟨h,c,lo⟩=some ⟨(o,y)::h,c,lo⟩:=Ak (KO.1 H)
theorem BZ {p q:Nat}{x:Ai}{h:Heap}(e:p=q):AA ((p,x)::h) q=some x:=by rw[AJ,if_pos e]
theorem BP {p q:Nat}{x:Ai}{h:Heap}(e:p≠q):AA ((p,x)::h) q=AA h q:=by rw[AJ,if_neg e]
theorem Ld {p q:Nat}{x y:Ai}{h:Heap}(e:p=q):Aa ((p,x)::h) q y=(p,y)::h:=by subst e; simp[Aa,beq_eq]
theorem XK {p q:Nat}{x y:Ai}{h:Heap}(e:p≠q):Aa ((p,x)::h) q y=(p,x)::Aa h q y:=by simp[Aa,beq_eq,e]
theorem Ki {p q:Nat}{y:Ai}{h:Heap}(e:p=q):AA (Aa h p y) q=(AA h q).map fun _=>y:=by
 subst e
 cases hf:AA h p with
 |some x=>rw[AX hf,if_pos rfl]; rfl
 |none=>
  induction h with
  |nil=>rfl
  |cons r h ih=>
   obtain⟨i,z⟩:=r
   rw[AJ] at hf
   by_cases e:i=p
   ·rw[if_pos e] at hf; cases hf
   ·rw[if_neg e] at hf; rw[XK e,AJ,if_neg e]; exact ih hf
theorem HZ {p q:Nat}{y:Ai}{h:Heap}(e:p≠q):AA (Aa h p y) q=AA h q:=by
 induction h with
 |nil=>rfl
 |cons r h ih=>
  obtain⟨i,z⟩:=r
  by_cases e2:i=p
  ·rw[Ld e2,AJ,AJ,if_neg (by omega),if_neg (by omega)]
  ·rw[XK e2,AJ,AJ,ih]
def cellAt (x:Option Ai)(off:Nat):Option AV:=match x with
 |some (.cells _ _ cs _)=>cs[off]?
 |_=>none
@[simp] theorem dY {ty sz off:Nat}{cs:List AV}{ext:Bool}:cellAt (some (.cells ty sz cs ext)) off=cs[off]?:=rfl
theorem GM {h:Heap}{o off:Nat}:AQ h (.AO o off)=cellAt (AA h o) off:=by
 simp only[AQ,cellAt]; split <;> simp_all
def Sz (x:Option Ai)(off n:Nat):Option (List AV):=match x with
 |some (.cells _ _ cs _)=>if off+n<=cs.length then some ((cs.drop off).take n) else none
 |_=>none
@[simp] theorem RD {ty sz off n:Nat}{cs:List AV}{ext:Bool}:Sz (some (.cells ty sz cs ext)) off n=if off+n<=cs.length then some ((cs.drop off).take n) else none:=rfl
theorem CR {h:Heap}{o off n:Nat}:Ac h (.AO o off) n=Sz (AA h o) off n:=by
 simp only[Ac,Sz,ble_eq,cond_eq_ite,decide_eq_true_eq]; split <;> simp_all
def putAt (x:Option Ai)(o off:Nat)(vs:List AV)(h:Heap)(c lo:Nat):R:=match x with
 |some (.cells ty sz cs ext)=>if lo<=o/\off+vs.length<=cs.length then some (.undef,⟨Aa h o (.cells ty sz (BM cs off vs) ext),c,lo⟩) else none
 |_=>none
@[simp] theorem CB {o off ty sz c lo:Nat}{cs vs:List AV}{ext:Bool}{h:Heap}:putAt (some (.cells ty sz cs ext)) o off vs h c lo=if lo<=o/\off+vs.length<=cs.length then some (.undef,⟨Aa h o (.cells ty sz (BM cs off vs) ext),c,lo⟩) else none:=rfl
theorem Ci {n o off c lo:Nat}{v:AV}{h:Heap}:BH n (.AO o off) v ⟨h,c,lo⟩=if v.isTuple=false/\v.cells.length=n then putAt (AA h o) o off v.cells h c lo else none:=by
 simp only[BH,putAt,Be,beq_eq,blt_eq,ble_eq]
 cases v.isTuple
 ·by_cases hn:v.cells.length=n
  ·simp only[hn,Bool.false_or,decide_true,Bool.not_true,cond_false,and_self,if_true]
   by_cases hl:o<lo
   ·simp only[hl,decide_true,cond_true]
    split
    ·rw[if_neg (by omega)]; rfl
    ·rfl
   ·simp only[hl,decide_false,cond_false]
    split
    ·rename_i ty sz cs ext heq
     rw[heq]
     by_cases hb:off+n<=cs.length
     ·simp[hb,show lo<=o by omega]
     ·simp[hb]; rfl
    ·rename_i h1
     split
     ·rename_i h2; exact absurd h2 (h1 _ _ _ _)
     ·rfl
  ·simp[hn]
 ·simp
@[simp] theorem jo {a x:AV}{l:List AV}:BM (a::l) 0 [x]=x::l:=by simp[BM]
@[simp] theorem jm {a b x:AV}{l:List AV}:BM (a::b::l) 1 [x]=a::x::l:=by simp[BM]
@[simp] theorem jl {a b c x:AV}{l:List AV}:BM (a::b::c::l) 2 [x]=a::b::x::l:=by simp[BM]
@[simp] theorem jI {a b c x y z:AV}{l:List AV}:BM (a::b::c::l) 0 [x,y,z]=x::y::z::l:=by simp[BM]
@[simp] theorem lF {o ty sz:Nat}{cs:List AV}:Gy o ty sz (.agg cs)=some (.AO o 0,.cells ty sz cs false):=rfl
@[simp] theorem mK {o ty sz:Nat}{f:Fn}{a b:List AV}:Gy o ty sz (.fn f a b)=some (.AO o 0,.cells ty sz [.fn f a b] false):=rfl
@[simp] theorem lD {o ty sz:Nat}{s:Ay}:Gy o ty sz (.str s)=some (.AO o 0,.cells ty sz [.str s] false):=rfl
def Has (ts:TS):List (Nat × AV)->Prop
 |[]=>True
 |(i,v)::l=>ts.get i=v/\Has ts l
@[simp] theorem IY {ts:TS}:Has ts []=True:=rfl
@[simp] theorem Gs {ts:TS}{i:Nat}{v:AV}{l:List (Nat × AV)}:Has ts ((i,v)::l)=(ts.get i=v/\Has ts l):=rfl
def mapOf (K:List Ay):Ai:=.map (strs K) (List.replicate K.length (.bool true)) (List.range K.length) K.length
theorem map_set {h:Heap}{m:Nat}{K:List Ay}(H:AA h m=some (mapOf K)):DD h m K:=⟨_,_,H⟩
theorem Jv {h:Heap}{p:Nat}{x:Ai}(H:AA h p=some x):p<top h:=by
 rcases Nat.lt_or_ge p (top h) with h1|h1
 ·exact h1
 ·rw[IB (KO.1 (Nat.le_refl _)) h1] at H; cases H
inductive Acc (h:Heap) (ty:Nat):AV->List AV->Prop
 |nl:Acc h ty .AB []
 |ob (id:Nat) (V:List AV) (cap:Option Nat) (ext:Bool) (hf:AA h id=some (.cells ty 1 V ext)) (hc:(cap=none/\ext=true)∨cap=some V.length):Acc h ty (.AY id 0 V.length cap) V
theorem Acc.heap {h h':Heap}{ty:Nat}{w:AV}{V:List AV}(H:Acc h ty w V)(e:∀p,BR w=some p->AA h' p=AA h p):Acc h' ty w V:=by
 cases H with
 |nl=>exact .nl
 |ob id V cap ext hf hc=>exact .ob id V cap ext ((e id rfl).trans hf) hc
theorem Acc.len {h:Heap}{ty:Nat}{w:AV}{V:List AV}(H:Acc h ty w V):Bl w=some V.length:=by cases H <;> rfl
theorem Acc.kC {h:Heap}{ty:Nat}{w:AV}{V:List AV}(H:Acc h ty w V):lenOf w=some V.length:=by cases H <;> rfl
theorem Acc.cells {h:Heap}{ty:Nat}{w:AV}{V:List AV}(H:Acc h ty w V):Al h 1 V.length w=some V:=by
 cases H with
 |nl=>rfl
 |ob id V cap ext hf hc=>simp[Al,hf,beq_eq,ble_eq]
theorem Acc.lt {h:Heap}{ty:Nat}{w:AV}{V:List AV}(H:Acc h ty w V){p:Nat}(e:BR w=some p):p<top h:=by
 cases H with
 |nl=>cases e
 |ob id V cap ext hf hc=>
  cases e
  exact Jv hf
theorem PX {h:Heap}{c lo o ty bytes:Nat}{w:AV}{V N:List AV}(H:Acc h ty w V)(ht:top h<=o)(hlo:∀p,BR w=some p->lo<=p)(hl:V.length+N.length<=2 ^ 20)(hb:bytes<=16) :
 ∃w' h',BU o ty 1 bytes w N.length N ⟨h,c,lo⟩=some (w',⟨h',c,lo⟩)/\Acc h' ty w' (V++N)/\top h'<=o+1/\(∀p,p<o->BR w≠some p->AA h' p=AA h p)/\(∀p,BR w'=some p->p=o∨BR w=some p):=by
 by_cases hN:N=[]
 ·subst hN
  refine⟨w,h,?_,by rw[List.append_nil]; exact H,by omega,fun _ _ _=>rfl,fun _=>.inr⟩
  cases H <;> simp[BU,beq_eq]
 have hN0:N.length≠0:=fun e=>hN (List.eq_nil_of_length_eq_zero e)
 have hroom:(V.length+N.length)*bytes<=room/\V.length+N.length<=room:=by
  have:=Nat.mul_le_mul hl hb
  unfold room
  constructor <;> omega
 have ob:∀h',Acc ((o,Ai.cells ty 1 (V++N) true)::h') ty (.AY o 0 (V.length+N.length) none) (V++N):=fun h'=>by
  rw[← List.length_append]; exact .ob o (V++N) none true (BZ rfl) (.inl ⟨rfl,rfl⟩)
 cases H with
 |nl=>
  simp only[List.length_nil,Nat.zero_add] at hroom
  refine⟨.AY o 0 (0+N.length) none,(o,.cells ty 1 N true)::h,?_,ob h,by rw[Av]; omega,fun p hp _=>BP (by omega),fun p e=>.inl (by simpa [BR] using e.symm)⟩
  simp[BU,beq_eq,hN0,grow,ble_eq,hroom.1,hroom.2,BC ht]
 |ob id V cap ext hf hc=>
  have hi:id<top h:=Jv hf
  rcases hc with⟨rfl,rfl⟩|rfl
  ·have hd:top (GH h id)<=o:=Nat.le_trans TR ht
   have hlo':=hlo id rfl
   have hle:¬V.length+N.length<=V.length:=by omega
   refine⟨.AY o 0 (V.length+N.length) none,(o,.cells ty 1 (V++N) true)::GH h id,?_,ob _,by rw[Av]; omega,fun p hp hne=>?_,fun p e=>.inl (by simpa [BR] using e.symm)⟩
   ·simp[BU,beq_eq,hN0,Dk,hf,ble_eq,hle,hlo',grow,hroom.1,hroom.2,BC hd]
   ·rw[BP (by omega),Dw,if_neg fun e=>hne (by rw[e]; rfl)]
  ·have hle:¬V.length+N.length<=V.length:=by omega
   refine⟨.AY o 0 (V.length+N.length) none,(o,.cells ty 1 (V++N) true)::h,?_,ob _,by rw[Av]; omega,fun p hp hne=>BP (by omega),fun p e=>.inl (by simpa [BR] using e.symm)⟩
   simp[BU,beq_eq,hN0,Dk,hf,ble_eq,hle,grow,hroom.1,hroom.2,BC ht]
theorem Db {a b:Ay}(h:a.length+b.length<=4611686018427387904):bin .add (.str a) (.str b)=some (.str (a++b)):=by show (if a.length+b.length<=2 ^ 62 then _ else _)=_; rw[if_pos h]
@[simp] theorem nW {o:Nat}{a:Ay}:Aw o 9 1 1 [.str []] [0] [.str a]=some (.AY o 0 1 (some 1),.cells 9 1 [.str a] false):=rfl
@[simp] theorem nV {o:Nat}{a b:Ay}:Aw o 9 1 2 [.str [],.str []] [0,1] [.str a,.str b]=some (.AY o 0 2 (some 2),.cells 9 1 [.str a,.str b] false):=rfl
theorem JB {o ty bytes:Nat}{w y:AV}{st:St}{N:List AV}(h1:lenOf y=some N.length)(h2:Al st.h 1 N.length y=some N):Bi o ty 1 bytes w y st=BU o ty 1 bytes w N.length N st:=by
 cases y <;> simp_all [Bi]
 all_goals simp[Al] at h2
theorem Ce.aS {v:AV}{l:List Ay}{h:Heap}(H:Ce v 1 (strs l)):lenOf v=some (strs l).length/\Al h 1 (strs l).length v=some (strs l):=by
 rcases H.out with⟨rfl,e⟩|⟨t,rfl⟩
 ·rw[e]; exact⟨rfl,rfl⟩
 ·refine⟨rfl,?_⟩
  simp[Al,beq_eq,ble_eq]
  rw[List.take_of_length_le (by simp),Nl]
theorem OV:∀l:List Ay,strsOf (strs l)=some l
 |[]=>rfl
 |s::l=>by
  show strsOf (.str s::strs l)=_
  rw[strsOf,OV l]
theorem LA {k:Nat}{w:AV}{l:List Ay}{sep:Ay}{st:St}{ty:Nat}(H:Acc st.h ty w (strs l))(h1:l.length<=1000000)(h2:(joined sep l).length<=1000000):AR E (k+1) 102 [w,.str sep] st=.ret (.str (joined sep l),st):=by
 refine JK (g:=hJoinM) rfl ?_
 have e1:=H.len
 have e2:=H.cells
 simp only[hJoinM,e1,e2,OV]
 simp[ble_eq,h1,h2]
theorem Gf {sep a:Ay}{l:List Ay}(h:l≠[]):joined sep (a::l)=a++(sep++joined sep l):=by
 cases l with
 |nil=>exact absurd rfl h
 |cons b l=>rfl
theorem Lx {sep:Ay}:∀{l m:List Ay},l≠[]->m≠[]->joined sep (l++m)=joined sep l++(sep++joined sep m)
 |[],_,h,_=>absurd rfl h
 |[a],m,_,hm=>by rw[List.singleton_append,Gf hm]; rfl
 |a::b::l,m,_,hm=>by
  have ih:=Lx (sep:=sep) (l:=b::l) (m:=m) (by simp) hm
  rw[List.cons_append,Gf (by simp),ih,Gf (l:=b::l) (by simp)]
  simp only[List.append_assoc]
theorem JD {sep:Ay}{B:Nat}(hs:sep.length<=1):∀{l:List Ay},(∀s∈l,s.length<=B)->(joined sep l).length<=l.length*(B+1)
 |[],_=>by simp[joined]
 |[a],h=>by have:=h a (by simp); simp[joined]; omega
 |a::b::l,h=>by
  have ih:=JD hs (l:=b::l) fun s hm=>h s (List.mem_cons_of_mem _ hm)
  have:=h a (by simp)
  rw[Gf (by simp)]
  simp only[List.length_append,List.length_cons] at ih ⊢
  rw[Nat.succ_mul]
  omega
def BI (r:Bw):List Ay:=r.left::[61]::r.right
def Bj (n:Int):List Ay:=if n=0 then [] else [[47],Lib.itoa n]
def BS (r:Bw):Ay:=joined [32] (BI r++Bj r.level)++[10]
def GI (g:Aj):Ay:=joined [32] ([116,111,107,101,110,115]::g.kinds)++[10,115,116,97,114,116,32]++g.start++[10]
def CE (g:Aj):Ay:=GI g++g.rules.flatMap BS
theorem UR {k:Nat}{n:Int}{st:St}(h0:-9223372036854775808<=n)(h1:n<9223372036854775808):AR E (k+3) 107 [.int .i64 n] st=.ret (.str (Lib.itoa n),st):=by
 rw[Af (fn:=C.f107) rfl rfl rfl,Ab (by simp)]
 have e1:AR E (k+2) 163 [.int .i64 n] st=.ret (.str (Lib.itoa n),st):=by
  rw[Af (fn:=C.f163) rfl rfl rfl,Ab (by simp)]
  have e2:AR E (k+1) 214 [.int .i64 n,.int .i64 10] st=.ret (.str (Lib.itoa n),st):=by
   refine JK (g:=fun _=>hItoa) rfl ?_
   have:-9223372036854775808<=n/\n<=9223372036854775807:=⟨h0,by omega⟩
   simp[hItoa,this]
  simp[C.f163,e2,leave,results,AP]
 simp[C.f107,e1,leave,results,AP]
theorem QG {n:Int}(h0:-9223372036854775808<=n)(h1:n<9223372036854775808):(Lib.itoa n).length<=21:=Lib.itoa_length_le n h0 (by omega)
theorem TB {h:Heap}{c lo o:Nat}{w y:AV}{V N:List Ay}(H:Acc h 9 w (strs V))(ht:top h<=o)(hlo:∀p,BR w=some p->lo<=p)(hy:Ce y 1 (strs N))(hl:V.length+N.length<=1000) :
 ∃w' h',Bi o 9 1 16 w y ⟨h,c,lo⟩=some (w',⟨h',c,lo⟩)/\Acc h' 9 w' (strs (V++N))/\top h'<=o+1/\(∀p,p<o->BR w≠some p->AA h' p=AA h p)/\(∀p,BR w'=some p->p=o∨BR w=some p):=by
 obtain⟨w',h',e1,e2,e3,e4,e5⟩:=PX (c:=c) (lo:=lo) (bytes:=16) (N:=strs N) H ht hlo (by simp; omega) (by omega)
 refine⟨w',h',?_,by rw[show strs (V++N)=strs V++strs N by simp[strs]]; exact e2,e3,e4,e5⟩
 rw[JB (hy.aS (h:=h)).1 (hy.aS (h:=h)).2]; exact e1
theorem dm {h:Heap}{c lo o:Nat}{w y:AV}{V N:List Ay}(H:Acc h 9 w (strs V))(ht:top h<=o)(hlo:∀p,BR w=some p->lo<=p)(hy:Acc h 9 y (strs N))(hl:V.length+N.length<=1000) :
 ∃w' h',Bi o 9 1 16 w y ⟨h,c,lo⟩=some (w',⟨h',c,lo⟩)/\Acc h' 9 w' (strs (V++N))/\top h'<=o+1/\(∀p,p<o->BR w≠some p->AA h' p=AA h p)/\(∀p,BR w'=some p->p=o∨BR w=some p):=by
 obtain⟨w',h',e1,e2,e3,e4,e5⟩:=PX (c:=c) (lo:=lo) (bytes:=16) (N:=strs N) H ht hlo (by simp; omega) (by omega)
 refine⟨w',h',?_,by rw[show strs (V++N)=strs V++strs N by simp[strs]]; exact e2,e3,e4,e5⟩
 rw[JB hy.kC hy.cells]; exact e1
theorem FI {r:Bw}(h:r.Small):(BI r++Bj r.level).length<=34/\∀s∈BI r++Bj r.level,s.length<=50:=by
 have h1:=h.right
 have h2:=h.left
 have h3:=h.names
 have h4:=QG h.level.1 h.level.2
 unfold BI Bj
 split
 ·refine⟨by simp; omega,fun s hs=>?_⟩
  simp only[List.append_nil,List.mem_cons] at hs
  rcases hs with rfl|rfl|hs
  ·exact h2
  ·decide
  ·exact h3 s hs
 ·refine⟨by simp; omega,fun s hs=>?_⟩
  simp only[List.cons_append,List.mem_cons,List.mem_append,List.not_mem_nil,or_false] at hs
  rcases hs with rfl|rfl|hs|rfl|rfl
  ·exact h2
  ·decide
  ·exact h3 s hs
  ·decide
  ·omega
theorem Fj {r:Bw}(h:r.Small):(joined [32] (BI r++Bj r.level)).length<=1734:=by
 have ⟨h1,h2⟩:=FI h
 have:=JD (sep:=[32]) (by decide) h2
 have:=Nat.mul_le_mul h1 (Nat.le_refl 51)
 omega
set_option maxHeartbeats 2000000 in
theorem WJ {k:Nat}{rv:AV}{l:List AV}{rs:List Bw}(hr:Ce rv 3 l)(hrs:Bg l rs)(hsm:∀r∈rs,r.Small)(hn:rs.length<=1000){out:Ay}(hout:out.length<=1000000){S0:St}(tp0:top S0.h<=S0.c)(hl0:S0.lo=0)(ts0:TS)(z3:ts0.get 3=.str out)(z18:ts0.get 18=rv)(z19:ts0.get 19=.int .i64 (rs.length:Int))(z20:ts0.get 20=.int .i64 ((0:Nat):Int)) :
 (DN (BB E (AR E (k+3)) C.f37L0) E.k ts0 S0).to fun x=>x.1=.exit 0/\x.2.1.get 3=.str (out++rs.flatMap BS):=by
 have hln:=hrs.length
 refine Ct (fun (i:Nat) ts st=>i<=rs.length/\(out++(rs.take i).flatMap BS).length<=1000000+i*1735/\top st.h<=st.c/\st.lo=0/\Has ts [(3,.str (out++(rs.take i).flatMap BS)),(18,rv),(19,.int .i64 (rs.length:Int)),(20,.int .i64 (i:Int))])
  (fun i=>rs.length-i) ?_ _ 0 _ _ ?_ ?_
 ·clear z3 z18 z19 z20
  rintro i ts ⟨h,c,lo⟩ ⟨hi,hol,tp,hlo,hts⟩
  simp only[Gs,IY,and_true] at hts
  obtain⟨z3,z18,z19,z20⟩:=hts
  have hlo':lo=0:=hlo
  subst hlo'
  have tp:top h<=c:=tp
  by_cases BQ:i<rs.length
  ·have hil:i<l.length:=by omega
   obtain⟨w,e1,e2⟩:=(hrs.get i BQ).2
   have hS:=hsm _ (List.getElem_mem BQ)
   have hrl:=hS.right
   obtain⟨r,hr0⟩:∃r,r=rs[i]:=⟨_,rfl⟩
   rw[← hr0] at e1 e2 hS hrl
   obtain⟨lv,hlv⟩:∃lv,lv=r.level:=⟨_,rfl⟩
   rw[← hlv] at e1
   have hix:AU 3 rv (.int .i64 (i:Int)) ⟨h,c+1,0⟩=some (.BA [.str r.left,w,.int .i64 lv],⟨h,c+1,0⟩):=by
    have:=hr.idx (st:=⟨h,c+1,0⟩) hil
    rw[e1] at this; exact this
   have hn:newObj c (.cells 68 3 [.str [],.AB,.int .i64 0] false) ⟨h,c+1,0⟩=some ⟨(c,.cells 68 3 [.str [],.AB,.int .i64 0] false)::h,c+1,0⟩:=BC tp
   have hst:=DK (h:=h) (c:=c) (c':=c+1) (lo:=0) (ty:=68) (n:=3) (zs:=[.str [],.AB,.int .i64 0]) (vs:=[.str r.left,w,.int .i64 lv]) (by omega) rfl rfl
   obtain⟨h1,hh1⟩:∃h1:Heap,h1=(c,Ai.cells 68 3 [.str r.left,w,.int .i64 lv] false)::h:=⟨_,rfl⟩
   rw[← hh1] at hst
   have tp1:top h1<=c+1:=by rw[hh1,Av]; omega
   have f1:AA h1 c=some (.cells 68 3 [.str r.left,w,.int .i64 lv] false):=by rw[hh1,BZ rfl]
   have rd:∀{h':Heap},AA h' c=some (.cells 68 3 [.str r.left,w,.int .i64 lv] false)->AQ h' (.AO c 0)=some (.str r.left)/\AQ h' (.AO c 1)=some w/\AQ h' (.AO c 2)=some (.int .i64 lv):=fun hf=>by
    refine⟨?_,?_,?_⟩ <;> rw[AL hf] <;> rfl
   obtain⟨ra0,ra1,ra2⟩:=rd f1
   have hn2:newObj (c+1) (.cells 9 1 [.str r.left,.str [61]] false) ⟨h1,c+1+2,0⟩=some ⟨(c+1,.cells 9 1 [.str r.left,.str [61]] false)::h1,c+1+2,0⟩:=BC tp1
   obtain⟨h2,hh2⟩:∃h2:Heap,h2=(c+1,Ai.cells 9 1 [.str r.left,.str [61]] false)::h1:=⟨_,rfl⟩
   rw[← hh2] at hn2
   have tp2:top h2<=c+1+1:=by rw[hh2,Av]; omega
   have f2:AA h2 c=some (.cells 68 3 [.str r.left,w,.int .i64 lv] false):=by rw[hh2,BP (by omega)]; exact f1
   obtain⟨rb0,rb1,rb2⟩:=rd f2
   have A2:Acc h2 9 (.AY (c+1) 0 2 (some 2)) (strs [r.left,[61]]):=.ob (c+1) [.str r.left,.str [61]] (some 2) false (by rw[hh2,BZ rfl]) (.inr rfl)
   obtain⟨w3,h3,ap3,A3,tp3,fr3,id3⟩:=TB (c:=c+1+2) (lo:=0) A2 tp2 (fun p _=>Nat.zero_le p) e2 (by simp; omega)
   have f3:AA h3 c=some (.cells 68 3 [.str r.left,w,.int .i64 lv] false):=by rw[fr3 c (by omega) (by simp[BR])]; exact f2
   obtain⟨rc0,rc1,rc2⟩:=rd f3
   have id3':∀p,BR w3=some p->p=c+2∨p=c+1:=fun p hp=>(id3 p hp).imp (fun h=>by omega) fun h=>by simpa [BR] using h.symm
   have hRW:strs ([r.left,[61]]++r.right)=strs (BI r):=rfl
   rw[hRW] at A3
   have hwi:=wi i (by omega)
   have hjl:=Fj hS
   have hbig:=Nat.mul_le_mul (show i<=1000 by omega) (Nat.le_refl 1735)
   obtain⟨O,hO⟩:∃O,O=out++(rs.take i).flatMap BS:=⟨_,rfl⟩
   rw[← hO] at z3 hol
   have htk:(rs.take (i+1)).flatMap BS=(rs.take i).flatMap BS++BS r:=by
    rw[List.take_succ_eq_append_getElem BQ,List.flatMap_append,← hr0]; simp
   have hfin:out++(rs.take (i+1)).flatMap BS=O++BS r:=by rw[htk,hO,List.append_assoc]
   have hlen:(O++BS r).length<=1000000+(i+1)*1735:=by
    rw[List.length_append]; unfold BS; rw[List.length_append,Nat.succ_mul]; simp only[List.length_cons,List.length_nil]; omega
   have hlen':=hlen
   rw[← hfin] at hlen'
   by_cases hz:lv=0
   ·subst hz
    have hlw:BI r++Bj r.level=BI r:=by unfold Bj; rw[if_pos hlv.symm,List.append_nil]
    have hj:=LA (k:=k+2) (sep:=[32]) (st:=⟨h3,c+1+2,0⟩) A3 (by have:=(FI hS).1; rw[hlw] at this; omega) (by have:=Fj hS; rw[hlw] at this; omega)
    have hrl:BS r=joined [32] (BI r)++[10]:=by unfold BS; rw[hlw]
    have s1:=Db (a:=joined [32] (BI r)) (b:=[10]) (by rw[hlw] at hjl; simp; omega)
    have s2:=Db (a:=O) (b:=joined [32] (BI r)++[10]) (by rw[hlw] at hjl; simp; omega)
    have hrd3:Ac h (.BA [.str r.left,w,.int .i64 0]) 3=some [.str r.left,w,.int .i64 0]:=rfl
    simp[C.f37L0,z3,z18,z19,z20,BQ,hix,-Bh,hrd3,hn,hst,ra0,ra1,ra2,hn2,rb0,rb1,rb2,ap3,rc0,rc1,rc2,hj,s1,s2,hwi]
    rw[← hrl]
    exact⟨i+1,by omega,by omega,by simpa using hlen',tp3,by rw[hfin],by simp⟩
   ·have hrd3:Ac h (.BA [.str r.left,w,.int .i64 lv]) 3=some [.str r.left,w,.int .i64 lv]:=rfl
    have hz':¬r.level=0:=hlv ▸ hz
    have hlw:Bj r.level=[[47],Lib.itoa lv]:=by unfold Bj; rw[if_neg hz',hlv]
    have hz2:(lv !=0)=true:=by simpa using hz
    have hit:=UR (k:=k) (n:=lv) (st:=⟨h3,c+1+2+2,0⟩) (hlv ▸ hS.level.1) (hlv ▸ hS.level.2)
    have hn4:newObj (c+1+2) (.cells 9 1 [.str [47],.str (Lib.itoa lv)] false) ⟨h3,c+1+2+2,0⟩=some ⟨(c+1+2,.cells 9 1 [.str [47],.str (Lib.itoa lv)] false)::h3,c+1+2+2,0⟩:=BC (by omega)
    obtain⟨h4,hh4⟩:∃h4:Heap,h4=(c+1+2,Ai.cells 9 1 [.str [47],.str (Lib.itoa lv)] false)::h3:=⟨_,rfl⟩
    rw[← hh4] at hn4
    have tp4:top h4<=c+1+2+1:=by rw[hh4,Av]; omega
    have A4:Acc h4 9 w3 (strs (BI r)):=A3.heap fun p hp=>by rw[hh4,BP (by have:=A3.lt hp; omega)]
    have B4:Acc h4 9 (.AY (c+1+2) 0 2 (some 2)) (strs [[47],Lib.itoa lv]):=.ob (c+1+2) [.str [47],.str (Lib.itoa lv)] (some 2) false (by rw[hh4,BZ rfl]) (.inr rfl)
    obtain⟨w5,h5,ap5,A5,tp5,fr5,id5⟩:=dm (c:=c+1+2+2) (lo:=0) A4 tp4 (fun p _=>Nat.zero_le p) B4 (by have:=(FI hS).1; simp at this ⊢; omega)
    rw[← hlw] at A5
    have hj:=LA (k:=k+2) (sep:=[32]) (st:=⟨h5,c+1+2+2,0⟩) A5 (by have:=(FI hS).1; omega) (by have:=Fj hS; omega)
    have hrl:BS r=joined [32] (BI r++Bj r.level)++[10]:=rfl
    have s1:=Db (a:=joined [32] (BI r++Bj r.level)) (b:=[10]) (by simp; omega)
    have s2:=Db (a:=O) (b:=joined [32] (BI r++Bj r.level)++[10]) (by simp; omega)
    simp[C.f37L0,z3,z18,z19,z20,BQ,hix,-Bh,hrd3,hn,hst,ra0,ra1,ra2,hn2,rb0,rb1,rb2,ap3,rc0,rc1,rc2,hz2,hit,hn4,ap5,hj,s1,s2,hwi]
    rw[← hrl]
    exact⟨i+1,by omega,by omega,by simpa using hlen',tp5,by rw[hfin],by simp⟩
  ·have:i=rs.length:=by omega
   subst this
   simp[C.f37L0,z3,z19,z20]
 ·show rs.length-0<1000000; omega
 ·exact⟨by omega,by simp; omega,tp0,hl0,by simp[z3,z18,z19,z20]⟩
theorem Nz {g:Aj}(hs:g.Small):(joined [32] ([116,111,107,101,110,115]::g.kinds)).length<=561:=by
 have:=JD (sep:=[32]) (B:=50) (by decide) (l:=[116,111,107,101,110,115]::g.kinds) fun s hm=>by
  rcases List.mem_cons.1 hm with rfl|h
  ·decide
  ·exact hs.names s h
 have h2:=hs.kinds
 have:=Nat.mul_le_mul (show ([116,111,107,101,110,115]::g.kinds).length<=11 by simp; omega) (Nat.le_refl 51)
 omega
theorem QP {g:Aj}(hs:g.Small):(GI g).length<=619:=by
 have:=Nz hs
 have:=hs.start
 unfold GI
 simp only[List.length_append,List.length_cons,List.length_nil]
 omega
theorem QT {α:Type}{f:α->Ay}{n:Nat}:∀{l:List α},(∀x∈l,(f x).length<=n)->(l.flatMap f).length<=l.length*n
 |[],_=>by simp
 |a::l,h=>by
  have ih:=QT (f:=f) (n:=n) (l:=l) fun x hx=>h x (List.mem_cons_of_mem _ hx)
  have:=h a (by simp)
  simp only[List.flatMap_cons,List.length_append,List.length_cons,Nat.succ_mul]
  omega
theorem ZT {g:Aj}(hs:g.Small):(CE g).length<=100000:=by
 have h1:=QP hs
 have h2:=QT (f:=BS) (n:=1735) (l:=g.rules) fun r hr=>by
  have:=Fj (hs.rules r hr)
  unfold BS; rw[List.length_append]; simp only[List.length_cons,List.length_nil]; omega
 have h3:=Nat.mul_le_mul hs.many (Nat.le_refl 1735)
 unfold CE
 rw[List.length_append]
 omega
set_option maxHeartbeats 1000000 in
theorem MC {k:Nat}{v:AV}{g:Aj}{st:St}(hg:Bo v g)(hs:g.Small):AR E (k+4) 37 [v] st=.ret (.str (CE g),st):=by
 have hold:=hg.KE 0
 obtain⟨kv,rv,l,rfl,hk,hr,hrs⟩:=hg
 have hln:=hrs.length
 have hmany:=hs.many
 have hkn:=hs.kinds
 have hst:=hs.start
 rw[Ca (fn:=C.f37) rfl rfl rfl (by simp[AV.Cq,hold]),Ab (by simp)]
 have goal:((BB E (AR E (k+3)) C.f37.body (TS.Cy [.agg [kv,.str g.start,rv]] 0 .nil) ⟨[],0,0⟩).bind (leave C.f37.results)).to fun r=>r.1=.str (CE g):=by
  have hbx:Gy 0 29 3 (.agg [kv,.str g.start,rv])=some (.AO 0 0,.cells 29 3 [kv,.str g.start,rv] false):=rfl
  obtain⟨h0,hh0⟩:∃h:Heap,h=[(0,.cells 29 3 [kv,.str g.start,rv] false)]:=⟨_,rfl⟩
  have hn:newObj 0 (.cells 29 3 [kv,.str g.start,rv] false) ⟨[],1,0⟩=some ⟨h0,1,0⟩:=by rw[hh0]; rfl
  have f0:AA h0 0=some (.cells 29 3 [kv,.str g.start,rv] false):=by rw[hh0]; rfl
  have tp0:top h0<=1:=by rw[hh0]; simp[top]
  have rd:∀{h:Heap},AA h 0=some (.cells 29 3 [kv,.str g.start,rv] false)->AQ h (.AO 0 0)=some kv/\AQ h (.AO 0 1)=some (.str g.start)/\AQ h (.AO 0 2)=some rv:=fun hf=>by
   refine⟨?_,?_,?_⟩ <;> rw[AL hf] <;> rfl
  have hn1:newObj 1 (.cells 9 1 [.str [116,111,107,101,110,115]] false) ⟨h0,3,0⟩=some ⟨(1,.cells 9 1 [.str [116,111,107,101,110,115]] false)::h0,3,0⟩:=BC tp0
  obtain⟨h1,hh1⟩:∃h1:Heap,h1=(1,Ai.cells 9 1 [.str [116,111,107,101,110,115]] false)::h0:=⟨_,rfl⟩
  rw[← hh1] at hn1
  have tp1:top h1<=2:=by rw[hh1,Av]; omega
  have f1:AA h1 0=some (.cells 29 3 [kv,.str g.start,rv] false):=by rw[hh1,BP (by omega)]; exact f0
  have A1:Acc h1 9 (.AY 1 0 1 (some 1)) (strs [[116,111,107,101,110,115]]):=.ob 1 [.str [116,111,107,101,110,115]] (some 1) false (by rw[hh1,BZ rfl]) (.inr rfl)
  obtain⟨w2,h2,ap2,A2,tp2,fr2,id2⟩:=TB (c:=3) (lo:=0) A1 tp1 (fun p _=>Nat.zero_le p) hk (by simp; omega)
  have f2:AA h2 0=some (.cells 29 3 [kv,.str g.start,rv] false):=by rw[fr2 0 (by omega) (by simp[BR])]; exact f1
  have hkl:=Nz hs
  have hj:=LA (k:=k+2) (sep:=[32]) (st:=⟨h2,3,0⟩) A2 (by simp; omega) (by show (joined [32] ([116,111,107,101,110,115]::g.kinds)).length<=_; omega)
  obtain⟨J,hJ⟩:∃J,J=joined [32] ([116,111,107,101,110,115]::g.kinds):=⟨_,rfl⟩
  rw[show [[116,111,107,101,110,115]]++g.kinds=[116,111,107,101,110,115]::g.kinds from rfl,← hJ] at hj
  rw[← hJ] at hkl
  have s1:=Db (a:=J) (b:=[10,115,116,97,114,116,32]) (by simp; omega)
  have s2:=Db (a:=J++[10,115,116,97,114,116,32]) (b:=g.start) (by simp; omega)
  have s3:=Db (a:=J++[10,115,116,97,114,116,32]++g.start) (b:=[10]) (by simp; omega)
  have hH:J++[10,115,116,97,114,116,32]++g.start++[10]=GI g:=by rw[hJ]; rfl
  rw[hH] at s3
  simp only[List.append_assoc,List.cons_append,List.nil_append] at s3
  have hlr:∀S':St,BX .slice rv S'=some (.int .i64 (g.rules.length:Int),S'):=fun S'=>by have:=hr.len (st:=S'); rw[this,hln]
  have loop:=fun ts0 z3 z18 z19 z20=>WJ (k:=k) (rv:=rv) (l:=l) (rs:=g.rules) (out:=GI g) (S0:=⟨h2,3,0⟩) hr hrs hs.rules (by omega) (by have:=QP hs; omega) tp2 rfl ts0 z3 z18 z19 z20
  simp[C.f37,hbx,hn,Gv,Dp,DV,Fh,hn1,(rd f0).1,(rd f1).1,(rd f1).2.1,ap2,(rd f2).2.1,(rd f2).2.2,hj,s1,s2,s3,hlr,AV.Fa]
  refine M.BN (loop _ (by simp) (by simp) (by simp) (by simp)) fun x hx=>?_
  obtain⟨e,ts1,st1⟩:=x
  obtain⟨rfl,h3⟩:=hx
  simp only at h3
  simp[h3,leave,results,AP,CE]
 obtain⟨⟨v,st'⟩,h1,h2⟩:=goal
 simp only at h2
 subst h2
 rw[h1]
 exact Qq
end Go.Am
