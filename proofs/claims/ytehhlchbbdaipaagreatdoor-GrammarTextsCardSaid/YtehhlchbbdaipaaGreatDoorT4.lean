/- A part of the proof of grammarTexts (merged by a program). -/
import Derived.Test.YtehhlchbbdaipaaGreatDoorT3
namespace Go.Am
open Go
theorem FZ:∀s:Ay,(Ck s).length=s.length
 |[]=>rfl
 |b::s=>by simp[Ck]
theorem Ot (a b:Ay):Ck (a++b)=Ck a++Ck b:=by simp[Ck]
theorem Acc.one {h:Heap}{ty:Nat}{w:AV}{V:List AV}(H:Acc h ty w V):w.isTuple=false/\w.cells=[w]:=by cases H <;> exact⟨rfl,rfl⟩
theorem Kl:∀s:Ay,bytesOf (Ck s)=some s
 |[]=>rfl
 |b::s=>by
  show bytesOf (.int .u8 b.toNat::Ck s)=_
  rw[bytesOf,Kl s,Rn]
structure Xl (bid:Nat)(out:Ay)(a w:AV)(st:St):Prop where
 at_:AA st.h bid=some (.cells 124 2 [a,w] false)
 nP:a=.CG∨a=.AO bid 0
 buf:Acc st.h 5 w (Ck out)
 ne:∀p,BR w=some p->p≠bid
 tp:top st.h<=st.c
 lo:st.lo=0
theorem MI {k bid:Nat}{out:Ay}{a w:AV}{h:Heap}{c:Nat}(H:Xl bid out a w ⟨h,c,0⟩) :
 ∃h',AR E (k+1) 162 [.AO bid 0] ⟨h,c,0⟩=.ret (.tuple [],⟨h',c,0⟩)/\Xl bid out (.AO bid 0) w ⟨h',c,0⟩/\∀p,p≠bid->AA h' p=AA h p:=by
 have hat:AA h bid=some (.cells 124 2 [a,w] false):=H.at_
 have r0:AQ h (.AO bid 0)=some a:=by rw[GM,hat]; rfl
 rcases H.nP with rfl|rfl
 ·have s1:BH 1 (.AO bid 0) (.AO bid 0) ⟨h,c,0⟩=some (.undef,⟨Aa h bid (.cells 124 2 [.AO bid 0,w] false),c,0⟩):=by
   rw[Ci,hat,CB]; simp[AV.isTuple,AV.cells]
  have up:JQ 124 2 (.AO bid 0) ⟨h,c,0⟩=some (.AO bid 0,⟨h,c,0⟩):=by simp[JQ,hat,beq_eq,ble_eq]
  refine⟨_,?_,⟨by show AA (Aa h bid _) bid=_; rw[Ki rfl,hat]; rfl,.inr rfl,H.buf.heap fun p hp=>HZ (Ne.symm (H.ne p hp)),H.ne,by show top (Aa _ _ _)<=c; rw[FB]; exact H.tp,rfl⟩,fun p hp=>HZ (Ne.symm hp)⟩
  rw[Af (fn:=C.f162) rfl rfl rfl,Ab (by simp)]
  simp[C.f162,CP,r0,Sq,ZG,up,Tv,FH,s1,leave,results,AP]
 ·refine⟨h,?_,H,fun p _=>rfl⟩
  rw[Af (fn:=C.f162) rfl rfl rfl,Ab (by simp)]
  simp[C.f162,CP,r0,Sq,ZG,beq_eq,leave,results,AP]
theorem GK {k bid:Nat}{out s:Ay}{a w:AV}{h:Heap}{c:Nat}(H:Xl bid out a w ⟨h,c,0⟩)(hl:out.length+s.length<=1000000) :
 ∃w' h',AR E (k+2) 101 [.AO bid 0,.str s] ⟨h,c,0⟩=.ret (.tuple [.int .i64 (s.length:Int),.DL],⟨h',c+1,0⟩)/\Xl bid (out++s) (.AO bid 0) w' ⟨h',c+1,0⟩/\∀p,p≠bid->BR w≠some p->p<c->AA h' p=AA h p:=by
 obtain⟨h1,e1,H1,fr1⟩:=MI (k:=k) H
 have hat:AA h1 bid=some (.cells 124 2 [.AO bid 0,w] false):=H1.at_
 have tp:top h1<=c:=H1.tp
 have hbc:bid<c:=Nat.lt_of_lt_of_le (Jv hat) tp
 have r1:AQ h1 (.AO bid 1)=some w:=by rw[GM,hat]; rfl
 obtain⟨w',h2,p1,p2,p3,p4,p5⟩:=PX (c:=c+1) (lo:=0) (o:=c) (bytes:=1) (N:=Ck s) H1.buf tp (fun p _=>Nat.zero_le p) (by rw[FZ,FZ]; omega) (by omega)
 rw[FZ] at p1
 rw[← Ot] at p2
 have ap:Gb c 5 w (.str s) ⟨h1,c+1,0⟩=some (w',⟨h2,c+1,0⟩):=p1
 have f2:AA h2 bid=some (.cells 124 2 [.AO bid 0,w] false):=by rw[p4 bid hbc (fun e=>H1.ne bid e rfl)]; exact hat
 have ne':∀p,BR w'=some p->p≠bid:=fun p hp=>by
  rcases p5 p hp with rfl|h
  ·omega
  ·exact H1.ne p h
 have hw':w'.isTuple=false/\w'.cells=[w']:=p2.one
 have s1:BH 1 (.AO bid 1) w' ⟨h2,c+1,0⟩=some (.undef,⟨Aa h2 bid (.cells 124 2 [.AO bid 0,w'] false),c+1,0⟩):=by
  rw[Ci,f2,CB]; simp[hw']
 refine⟨w',_,?_,⟨by show AA (Aa h2 bid _) bid=_; rw[Ki rfl,f2]; rfl,.inr rfl,p2.heap fun p hp=>HZ (Ne.symm (ne' p hp)),ne',by show top (Aa _ _ _)<=_; rw[FB]; exact p3,rfl⟩,fun p hp hw hc=>?_⟩
 ·rw[Af (fn:=C.f101) rfl rfl rfl,Ab (by simp)]
  simp[C.f101,e1,CP,r1,ap,s1,leave,results,AP]
 ·show AA (Aa h2 bid _) p=_
  rw[HZ (Ne.symm hp),p4 p hc hw]; exact fr1 p hp
theorem Ls {k bid:Nat}{out:Ay}{b:UInt8}{a w:AV}{h:Heap}{c:Nat}(H:Xl bid out a w ⟨h,c,0⟩)(hl:out.length<=1000000) :
 ∃w' h',AR E (k+2) 104 [.AO bid 0,.int .u8 b.toNat] ⟨h,c,0⟩=.ret (.DL,⟨h',c+2,0⟩)/\Xl bid (out++[b]) (.AO bid 0) w' ⟨h',c+2,0⟩/\∀p,p≠bid->BR w≠some p->p<c->AA h' p=AA h p:=by
 obtain⟨h1,e1,H1,fr1⟩:=MI (k:=k) H
 have hat:AA h1 bid=some (.cells 124 2 [.AO bid 0,w] false):=H1.at_
 have tp:top h1<=c:=H1.tp
 have hbc:bid<c:=Nat.lt_of_lt_of_le (Jv hat) tp
 have r1:AQ h1 (.AO bid 1)=some w:=by rw[GM,hat]; rfl
 have n3:newObj c (.cells 5 1 [.int .u8 b.toNat] false) ⟨h1,c+2,0⟩=some ⟨(c,.cells 5 1 [.int .u8 b.toNat] false)::h1,c+2,0⟩:=BC tp
 obtain⟨h3,hh3⟩:∃h3:Heap,h3=(c,Ai.cells 5 1 [.int .u8 b.toNat] false)::h1:=⟨_,rfl⟩
 rw[← hh3] at n3
 have tp3:top h3<=c+1:=by rw[hh3,Av]; omega
 have old3:∀p,p<c->AA h3 p=AA h1 p:=fun p hp=>by rw[hh3,BP (by omega)]
 have hbs:Aw c 5 1 1 [.int .u8 0] [0] [.int .u8 (b.toNat:Int)]=some (.AY c 0 1 (some 1),.cells 5 1 [.int .u8 b.toNat] false):=rfl
 have B3:Acc h3 5 (.AY c 0 1 (some 1)) (Ck [b]):=.ob c [.int .u8 b.toNat] (some 1) false (by rw[hh3,BZ rfl]) (.inr rfl)
 have A3:Acc h3 5 w (Ck out):=H1.buf.heap fun p hp=>old3 p (Nat.lt_of_lt_of_le (H1.buf.lt hp) tp)
 obtain⟨w',h2,p1,p2,p3,p4,p5⟩:=PX (c:=c+2) (lo:=0) (o:=c+1) (bytes:=1) (N:=Ck [b]) A3 tp3 (fun p _=>Nat.zero_le p) (by rw[FZ,FZ]; simp; omega) (by omega)
 rw[← Ot] at p2
 have ap:Bi (c+1) 5 1 1 w (.AY c 0 1 (some 1)) ⟨h3,c+2,0⟩=some (w',⟨h2,c+2,0⟩):=by
  rw[JB B3.kC B3.cells]; exact p1
 have f2:AA h2 bid=some (.cells 124 2 [.AO bid 0,w] false):=by rw[p4 bid (by omega) (fun e=>H1.ne bid e rfl),old3 bid hbc]; exact hat
 have ne':∀p,BR w'=some p->p≠bid:=fun p hp=>by
  rcases p5 p hp with rfl|h
  ·omega
  ·exact H1.ne p h
 have hw':=p2.one
 have s1:BH 1 (.AO bid 1) w' ⟨h2,c+2,0⟩=some (.undef,⟨Aa h2 bid (.cells 124 2 [.AO bid 0,w'] false),c+2,0⟩):=by
  rw[Ci,f2,CB]; simp[hw']
 refine⟨w',_,?_,⟨by show AA (Aa h2 bid _) bid=_; rw[Ki rfl,f2]; rfl,.inr rfl,p2.heap fun p hp=>HZ (Ne.symm (ne' p hp)),ne',by show top (Aa _ _ _)<=_; rw[FB]; exact p3,rfl⟩,fun p hp hw hc=>?_⟩
 ·rw[Af (fn:=C.f104) rfl rfl rfl,Ab (by simp)]
  simp[C.f104,e1,CP,r1,hbs,n3,ap,s1,leave,results,AP]
 ·show AA (Aa h2 bid _) p=_
  rw[HZ (Ne.symm hp),p4 p (by omega) hw,old3 p hc]; exact fr1 p hp
theorem aX {k bid:Nat}{out:Ay}{a w:AV}{st:St}(H:Xl bid out a w st):AR E (k+1) 105 [.AO bid 0] st=.ret (.int .i64 (out.length:Int),st):=by
 have r1:AQ st.h (.AO bid 1)=some w:=by rw[GM,H.at_]; rfl
 have hl:BX .slice w st=some (.int .i64 (out.length:Int),st):=by
  have:=H.buf.len
  rw[FZ] at this
  simp[BX,this]
 rw[Af (fn:=C.f105) rfl rfl rfl,Ab (by simp)]
 simp[C.f105,CP,r1,hl,leave,results,AP]
theorem VI {k bid:Nat}{out:Ay}{a w:AV}{h:Heap}{c:Nat}(H:Xl bid out a w ⟨h,c,0⟩)(hl:out.length<=1000000)(hne:out≠[]):∃st',AR E (k+1) 106 [.AO bid 0] ⟨h,c,0⟩=.ret (.str out,st'):=by
 have hat:AA h bid=some (.cells 124 2 [a,w] false):=H.at_
 have r1:AQ h (.AO bid 1)=some w:=by rw[GM,hat]; rfl
 have B:Acc h 5 w (Ck out):=H.buf
 have hlen:(Ck out).length=out.length:=FZ out
 have hpos:0<out.length:=List.length_pos_iff.2 hne
 have hb:=Kl out
 obtain⟨V,hV⟩:∃V,V=Ck out:=⟨_,rfl⟩
 rw[← hV] at B hlen hb
 rw[Af (fn:=C.f106) rfl rfl rfl,Ab (by simp)]
 cases B with
 |nl=>simp at hlen; omega
 |ob id V cap ext hf hc=>
  have u1:GD (.AY id 0 V.length cap) ⟨h,c,0⟩=some (.AO id 0,⟨h,c,0⟩):=by simp[GD,blt_eq,hlen,hpos]
  have hroom:V.length<=room:=by unfold room; omega
  have hV0:V.length≠0:=by omega
  have u2:GN 5 (.AO id 0) (.int .i64 (V.length:Int)) ⟨h,c,0⟩=some (.str out,⟨GH h id,c,0⟩):=by
   simp[GN,Ba,beq_eq,hV0,blt_eq,ble_eq,hroom,hf,hb]
  have hl2:BX .slice (.AY id 0 V.length cap) ⟨h,c,0⟩=some (.int .i64 (V.length:Int),⟨h,c,0⟩):=rfl
  refine⟨⟨GH h id,c,0⟩,?_⟩
  simp[C.f106,CP,r1,hl2,u1,u2,leave,results,AP]
theorem Vo {r:Bw}(h:r.level=0):BS r=joined [32] (BI r)++[10]:=by
 unfold BS Bj; rw[if_pos h,List.append_nil]
theorem Vn {r:Bw}(h:r.level≠0):BS r=joined [32] (BI r)++([32,47,32]++Lib.itoa r.level)++[10]:=by
 unfold BS Bj
 rw[if_neg h,Lx (by simp[BI]) (by simp),Gf (by simp)]
 simp[joined]
theorem Xn {r:Bw}(h:r.Small):(joined [32] (BI r)).length<=1700:=by
 have:=Fj h
 by_cases h0:r.level=0
 ·have hl:Bj r.level=[]:=by unfold Bj; rw[if_pos h0]
  have h1:=JD (sep:=[32]) (B:=50) (by decide) (l:=BI r) fun s hs=>(FI h).2 s (List.mem_append_left _ hs)
  have h2:=h.right
  have h3:=Nat.mul_le_mul (show (BI r).length<=32 by simp[BI]; omega) (Nat.le_refl 51)
  omega
 ·have h1:=JD (sep:=[32]) (B:=50) (by decide) (l:=BI r) fun s hs=>(FI h).2 s (List.mem_append_left _ hs)
  have h2:=h.right
  have h3:=Nat.mul_le_mul (show (BI r).length<=32 by simp[BI]; omega) (Nat.le_refl 51)
  omega
theorem WV {k:Nat}{n:Int}{st:St}(h0:-9223372036854775808<=n)(h1:n<9223372036854775808):AR E (k+4) 103 [.int .i64 n] st=.ret (.str (Lib.itoa n),st):=by
 rw[Af (fn:=C.f103) rfl rfl rfl,Ab (by simp)]
 simp[C.f103,UR (k:=k) h0 h1,leave,results,AP]
set_option maxHeartbeats 2000000 in
theorem Xr {k bid:Nat}{rv:AV}{l:List AV}{rs:List Bw}(hr:Ce rv 3 l)(hrs:Bg l rs)(hsm:∀r∈rs,r.Small)(hn:rs.length<=100){out:Ay}(hout:out.length<=100000){S0:St}{a0 w0:AV}(H0:Xl bid out a0 w0 S0)(ts0:TS)(z5:ts0.get 5=.AO bid 0)(z26:ts0.get 26=rv)(z27:ts0.get 27=.int .i64 (rs.length:Int))(z28:ts0.get 28=.int .i64 ((0:Nat):Int)) :
 (DN (BB E (AR E (k+4)) C.f36L0) E.k ts0 S0).to fun x=>x.1=.exit 0/\x.2.1.get 5=.AO bid 0/\∃a w,Xl bid (out++rs.flatMap BS) a w x.2.2:=by
 have hln:=hrs.length
 refine Ct (fun (i:Nat) ts st=>i<=rs.length/\(out++(rs.take i).flatMap BS).length<=100000+i*1735/\(∃a w,Xl bid (out++(rs.take i).flatMap BS) a w st)/\Has ts [(5,.AO bid 0),(26,rv),(27,.int .i64 (rs.length:Int)),(28,.int .i64 (i:Int))])
  (fun i=>rs.length-i) ?_ _ 0 _ _ ?_ ?_
 ·clear z5 z26 z27 z28
  rintro i ts ⟨h,c,lo⟩ ⟨hi,hol,⟨a,wb,B⟩,hts⟩
  simp only[Gs,IY,and_true] at hts
  obtain⟨z5,z26,z27,z28⟩:=hts
  have hlo':lo=0:=B.lo
  subst hlo'
  have tp:top h<=c:=B.tp
  by_cases BQ:i<rs.length
  ·have hil:i<l.length:=by omega
   obtain⟨w,e1,e2⟩:=(hrs.get i BQ).2
   have hS:=hsm _ (List.getElem_mem BQ)
   have hrl:=hS.right
   obtain⟨r,hr0⟩:∃r,r=rs[i]:=⟨_,rfl⟩
   rw[← hr0] at e1 e2 hS hrl
   obtain⟨lv,hlv⟩:∃lv,lv=r.level:=⟨_,rfl⟩
   rw[← hlv] at e1
   have hix:AU 3 rv (.int .i64 (i:Int)) ⟨h,c+1,0⟩=some (.BA [.str r.left,w,.int .i64 lv],⟨h,c+1,0⟩):=by
    have:=hr.idx (st:=⟨h,c+1,0⟩) hil
    rw[e1] at this; exact this
   have hn1:newObj c (.cells 68 3 [.str [],.AB,.int .i64 0] false) ⟨h,c+1,0⟩=some ⟨(c,.cells 68 3 [.str [],.AB,.int .i64 0] false)::h,c+1,0⟩:=BC tp
   have hst:=DK (h:=h) (c:=c) (c':=c+1) (lo:=0) (ty:=68) (n:=3) (zs:=[.str [],.AB,.int .i64 0]) (vs:=[.str r.left,w,.int .i64 lv]) (by omega) rfl rfl
   obtain⟨h1,hh1⟩:∃h1:Heap,h1=(c,Ai.cells 68 3 [.str r.left,w,.int .i64 lv] false)::h:=⟨_,rfl⟩
   rw[← hh1] at hst
   have tp1:top h1<=c+1:=by rw[hh1,Av]; omega
   have f1:AA h1 c=some (.cells 68 3 [.str r.left,w,.int .i64 lv] false):=by rw[hh1,BZ rfl]
   have old1:∀p,p<c->AA h1 p=AA h p:=fun p hp=>by rw[hh1,BP (by omega)]
   have rd:∀{h':Heap},AA h' c=some (.cells 68 3 [.str r.left,w,.int .i64 lv] false)->AQ h' (.AO c 0)=some (.str r.left)/\AQ h' (.AO c 1)=some w/\AQ h' (.AO c 2)=some (.int .i64 lv):=fun hf=>by
    refine⟨?_,?_,?_⟩ <;> rw[AL hf] <;> rfl
   have hn2:newObj (c+1) (.cells 9 1 [.str r.left,.str [61]] false) ⟨h1,c+1+2,0⟩=some ⟨(c+1,.cells 9 1 [.str r.left,.str [61]] false)::h1,c+1+2,0⟩:=BC tp1
   obtain⟨h2,hh2⟩:∃h2:Heap,h2=(c+1,Ai.cells 9 1 [.str r.left,.str [61]] false)::h1:=⟨_,rfl⟩
   rw[← hh2] at hn2
   have tp2:top h2<=c+1+1:=by rw[hh2,Av]; omega
   have old2:∀p,p<c+1->AA h2 p=AA h1 p:=fun p hp=>by rw[hh2,BP (by omega)]
   have A2:Acc h2 9 (.AY (c+1) 0 2 (some 2)) (strs [r.left,[61]]):=.ob (c+1) [.str r.left,.str [61]] (some 2) false (by rw[hh2,BZ rfl]) (.inr rfl)
   obtain⟨w3,h3,ap3,A3,tp3,fr3,id3⟩:=TB (c:=c+1+2) (lo:=0) A2 tp2 (fun p _=>Nat.zero_le p) e2 (by simp; omega)
   have hRW:strs ([r.left,[61]]++r.right)=strs (BI r):=rfl
   rw[hRW] at A3
   have old3:∀p,p<c+1->AA h3 p=AA h1 p:=fun p hp=>(fr3 p (by omega) (by simp[BR]; omega)).trans (old2 p hp)
   have hwl:=Xn hS
   have hj:=LA (k:=k+3) (sep:=[32]) (st:=⟨h3,c+1+2,0⟩) A3 (by simp[BI]; omega) (by omega)
   obtain⟨O,hO⟩:∃O,O=out++(rs.take i).flatMap BS:=⟨_,rfl⟩
   rw[← hO] at B hol
   have hbc:bid<c:=Nat.lt_of_lt_of_le (Jv B.at_) tp
   have B3:Xl bid O a wb ⟨h3,c+1+2,0⟩:=⟨((old3 bid (by omega)).trans (old1 bid hbc)).trans B.at_,B.nP,B.buf.heap fun p hp=>by
    have hp':p<top h:=B.buf.lt hp
    exact (old3 p (by omega)).trans (old1 p (by omega)),B.ne,tp3,rfl⟩
   have hbig:=Nat.mul_le_mul (show i<=100 by omega) (Nat.le_refl 1735)
   obtain⟨w4,h4,c4,B4,fr4⟩:=GK (k:=k+2) (s:=joined [32] (BI r)) B3 (by omega)
   have f4:AA h4 c=some (.cells 68 3 [.str r.left,w,.int .i64 lv] false):=by
    rw[fr4 c (by omega) (fun e=>by have:c<top h:=B.buf.lt e; omega) (by omega),old3 c (by omega)]; exact f1
   have hwi:=wi i (by omega)
   have hfin:out++(rs.take (i+1)).flatMap BS=O++BS r:=by
    rw[List.take_succ_eq_append_getElem BQ,List.flatMap_append,← hr0,hO]; simp
   have hlen:(O++BS r).length<=100000+(i+1)*1735:=by
    have:=Fj hS
    rw[List.length_append]; unfold BS; rw[List.length_append,Nat.succ_mul]; simp only[List.length_cons,List.length_nil]; omega
   have hrd3:Ac h (.BA [.str r.left,w,.int .i64 lv]) 3=some [.str r.left,w,.int .i64 lv]:=rfl
   by_cases hz:lv=0
   ·have hz2:(lv !=0)=false:=by simpa using hz
    obtain⟨w5,h5,c5,B5,_⟩:=Ls (k:=k+2) (b:=10) B4 (by rw[List.length_append]; omega)
    rw[List.append_assoc,← Vo (hlv ▸ hz)] at B5
    have c5':AR E (k+4) 104 [.AO bid 0,.int .u8 10] ⟨h4,c+1+2+1,0⟩=.ret (.DL,⟨h5,c+1+2+1+2,0⟩):=c5
    simp[C.f36L0,z5,z26,z27,z28,BQ,hix,-Bh,hrd3,hn1,hst,(rd f1).1,hn2,(rd ((old2 c (by omega)).trans f1)).2.1,ap3,hj,c4,(rd f4).2.2,hz2,c5',hwi]
    exact⟨i+1,by omega,by omega,by rw[← hfin] at hlen; simpa using hlen,⟨_,_,by rw[hfin]; exact B5⟩,by omega⟩
   ·have hz2:(lv !=0)=true:=by simpa using hz
    have hil2:=QG (n:=lv) (hlv ▸ hS.level.1) (hlv ▸ hS.level.2)
    have hd:=WV (k:=k) (n:=lv) (st:=⟨h4,c+1+2+1,0⟩) (hlv ▸ hS.level.1) (hlv ▸ hS.level.2)
    have ad:=Db (a:=[32,47,32]) (b:=Lib.itoa lv) (by simp; omega)
    obtain⟨w6,h6,c6,B6,_⟩:=GK (k:=k+2) (s:=[32,47,32]++Lib.itoa lv) B4 (by rw[List.length_append,List.length_append]; simp only[List.length_cons,List.length_nil]; omega)
    obtain⟨w5,h5,c5,B5,_⟩:=Ls (k:=k+2) (b:=10) B6 (by rw[List.length_append,List.length_append,List.length_append]; simp only[List.length_cons,List.length_nil]; omega)
    have hll:=Vn (r:=r) (hlv ▸ hz)
    rw[← hlv] at hll
    rw[List.append_assoc,List.append_assoc,← List.append_assoc (joined [32] (BI r)),← hll] at B5
    have c5':AR E (k+4) 104 [.AO bid 0,.int .u8 10] ⟨h6,c+1+2+1+1,0⟩=.ret (.DL,⟨h5,c+1+2+1+1+2,0⟩):=c5
    simp only[List.cons_append,List.nil_append] at ad c6
    simp[C.f36L0,z5,z26,z27,z28,BQ,hix,-Bh,hrd3,hn1,hst,(rd f1).1,hn2,(rd ((old2 c (by omega)).trans f1)).2.1,ap3,hj,c4,(rd f4).2.2,hz2,hd,ad,c6,c5',hwi]
    exact⟨i+1,by omega,by omega,by rw[← hfin] at hlen; simpa using hlen,⟨_,_,by rw[hfin]; exact B5⟩,by omega⟩
  ·have:i=rs.length:=by omega
   subst this
   rw[List.take_length] at B
   simp[C.f36L0,z5,z27,z28]
   exact⟨a,wb,B⟩
 ·show rs.length-0<1000000; omega
 ·exact⟨by omega,by simp; omega,⟨a0,w0,by simpa using H0⟩,by simp[z5,z26,z27,z28]⟩
theorem MZ {sep:Ay}(hs:sep.length<=1):∀l:List Ay,(joined sep l).length<=(l.map List.length).sum+l.length
 |[]=>by simp[joined]
 |[a]=>by simp[joined]
 |a::b::l=>by
  have ih:=MZ hs (b::l)
  rw[Gf (by simp)]
  simp only[List.length_append,List.length_cons,List.map_cons,List.sum_cons] at ih ⊢
  omega
theorem Rx {n:Nat}:∀{l:List Ay},(∀s∈l,s.length<=n)->(l.map List.length).sum<=l.length*n
 |[],_=>by simp
 |a::l,h=>by
  have ih:=Rx (n:=n) (l:=l) fun s hs=>h s (List.mem_cons_of_mem _ hs)
  have:=h a (by simp)
  simp only[List.map_cons,List.sum_cons,List.length_cons,Nat.succ_mul]
  omega
theorem WK {r:Bw}(h:r.Small):(BS r).length<=1608:=by
 have h1:=MZ (sep:=[32]) (by decide) (BI r++Bj r.level)
 have h2:=Rx h.names
 have h3:=Nat.mul_le_mul h.right (Nat.le_refl 50)
 have h4:=h.left
 have h5:=h.right
 have h6:=QG h.level.1 h.level.2
 have h7:((Bj r.level).map List.length).sum<=22/\(Bj r.level).length<=2:=by
  unfold Bj; split
  ·simp
  ·simp; omega
 unfold BS
 rw[List.length_append]
 rw[List.map_append,List.sum_append,List.length_append] at h1
 simp only[BI,List.map_cons,List.sum_cons,List.length_cons,List.length_nil] at h1 ⊢
 omega
theorem Vd {g:Aj}(hs:g.Small):(CE g).length<=20000:=by
 have h1:=MZ (sep:=[32]) (by decide) ([116,111,107,101,110,115]::g.kinds)
 have h2:=Rx hs.names
 have h3:=Nat.mul_le_mul hs.kinds (Nat.le_refl 50)
 have h4:=hs.kinds
 have h5:=hs.start
 have h6:=QT (f:=BS) (n:=1608) (l:=g.rules) fun r hr=>WK (hs.rules r hr)
 have h7:=Nat.mul_le_mul hs.many (Nat.le_refl 1608)
 unfold CE GI
 simp only[List.map_cons,List.sum_cons,List.length_cons,List.length_nil] at h1
 simp only[List.length_append,List.length_cons,List.length_nil]
 omega
def MJ (g:Aj):AV:=.tuple [.str (if g.fault=0 then CE g else []),.int .i64 g.fault]
set_option maxHeartbeats 2000000 in
theorem Qw {k:Nat}{v:AV}{g:Aj}{st:St}(hg:Bo v g)(hs:g.Small):AR E (k+7) 36 [v] st=.ret (MJ g,st):=by
 have hold:=hg.KE 0
 have hg':=hg
 obtain⟨kv,rv,l,rfl,hk,hr,hrs⟩:=hg
 have hln:=hrs.length
 have hmany:=hs.many
 have hkn:=hs.kinds
 have hst:=hs.start
 rw[Ca (fn:=C.f36) rfl rfl rfl (by simp[AV.Cq,hold]),Ab (by simp)]
 have goal:((BB E (AR E (k+6)) C.f36.body (TS.Cy [.agg [kv,.str g.start,rv]] 0 .nil) ⟨[],0,0⟩).bind (leave C.f36.results)).to fun r=>r.1=MJ g:=by
  have hbx:Gy 0 29 3 (.agg [kv,.str g.start,rv])=some (.AO 0 0,.cells 29 3 [kv,.str g.start,rv] false):=rfl
  obtain⟨h0,hh0⟩:∃h:Heap,h=[(0,.cells 29 3 [kv,.str g.start,rv] false)]:=⟨_,rfl⟩
  have hn:newObj 0 (.cells 29 3 [kv,.str g.start,rv] false) ⟨[],1,0⟩=some ⟨h0,1,0⟩:=by rw[hh0]; rfl
  have f0:AA h0 0=some (.cells 29 3 [kv,.str g.start,rv] false):=by rw[hh0]; rfl
  have tp0:top h0<=1:=by rw[hh0]; simp[top]
  have rd:∀{h:Heap},AA h 0=some (.cells 29 3 [kv,.str g.start,rv] false)->AQ h (.AO 0 0)=some kv/\AQ h (.AO 0 1)=some (.str g.start)/\AQ h (.AO 0 2)=some rv:=fun hf=>by
   refine⟨?_,?_,?_⟩ <;> rw[AL hf] <;> rfl
  have ld:Ac h0 (.AO 0 0) 3=some [kv,.str g.start,rv]:=by rw[CR,f0]; simp
  have hck:=Yp (k:=k) (st:=⟨h0,1,0⟩) hg' hs
  by_cases hf:g.fault=0
  ·rw[hf] at hck
   have hv:MJ g=.tuple [.str (CE g),.int .i64 0]:=by unfold MJ; rw[if_pos hf,hf]
   rw[hv]
   have n1:newObj 1 (.cells 124 2 [.CG,.AB] false) ⟨h0,2,0⟩=some ⟨(1,.cells 124 2 [.CG,.AB] false)::h0,2,0⟩:=BC tp0
   obtain⟨h1,hh1⟩:∃h1:Heap,h1=(1,Ai.cells 124 2 [.CG,.AB] false)::h0:=⟨_,rfl⟩
   rw[← hh1] at n1
   have tp1:top h1<=2:=by rw[hh1,Av]; omega
   have f10:AA h1 0=some (.cells 29 3 [kv,.str g.start,rv] false):=by rw[hh1,BP (by omega)]; exact f0
   have f11:AA h1 1=some (.cells 124 2 [.CG,.AB] false):=by rw[hh1,BZ rfl]
   have n2:newObj 2 (.cells 9 1 [.str [116,111,107,101,110,115]] false) ⟨h1,4,0⟩=some ⟨(2,.cells 9 1 [.str [116,111,107,101,110,115]] false)::h1,4,0⟩:=BC tp1
   obtain⟨h2,hh2⟩:∃h2:Heap,h2=(2,Ai.cells 9 1 [.str [116,111,107,101,110,115]] false)::h1:=⟨_,rfl⟩
   rw[← hh2] at n2
   have tp2:top h2<=3:=by rw[hh2,Av]; omega
   have f20:AA h2 0=some (.cells 29 3 [kv,.str g.start,rv] false):=by rw[hh2,BP (by omega)]; exact f10
   have f21:AA h2 1=some (.cells 124 2 [.CG,.AB] false):=by rw[hh2,BP (by omega)]; exact f11
   have A2:Acc h2 9 (.AY 2 0 1 (some 1)) (strs [[116,111,107,101,110,115]]):=.ob 2 [.str [116,111,107,101,110,115]] (some 1) false (by rw[hh2,BZ rfl]) (.inr rfl)
   obtain⟨w3,h3,ap3,A3,tp3,fr3,id3⟩:=TB (c:=4) (lo:=0) A2 tp2 (fun p _=>Nat.zero_le p) hk (by simp; omega)
   have f30:AA h3 0=some (.cells 29 3 [kv,.str g.start,rv] false):=by rw[fr3 0 (by omega) (by simp[BR])]; exact f20
   have f31:AA h3 1=some (.cells 124 2 [.CG,.AB] false):=by rw[fr3 1 (by omega) (by simp[BR])]; exact f21
   have hkl:=Nz hs
   have hj:=LA (k:=k+5) (sep:=[32]) (st:=⟨h3,4,0⟩) A3 (by simp; omega) (by show (joined [32] ([116,111,107,101,110,115]::g.kinds)).length<=_; omega)
   obtain⟨J,hJ⟩:∃J,J=joined [32] ([116,111,107,101,110,115]::g.kinds):=⟨_,rfl⟩
   rw[show [[116,111,107,101,110,115]]++g.kinds=[116,111,107,101,110,115]::g.kinds from rfl,← hJ] at hj
   rw[← hJ] at hkl
   have s1:=Db (a:=J) (b:=[10]) (by simp; omega)
   have s2:=Db (a:=[115,116,97,114,116,32]) (b:=g.start) (by simp; omega)
   have s3:=Db (a:=[115,116,97,114,116,32]++g.start) (b:=[10]) (by simp; omega)
   have B3:Xl 1 [] .CG .AB ⟨h3,4,0⟩:=⟨f31,.inl rfl,.nl,fun p hp=>(by cases hp),tp3,rfl⟩
   obtain⟨w4,h4,c4,B4,fr4⟩:=GK (k:=k+4) (s:=J++[10]) B3 (by simp; omega)
   have f40:AA h4 0=some (.cells 29 3 [kv,.str g.start,rv] false):=by rw[fr4 0 (by omega) (fun e=>by cases e) (by omega)]; exact f30
   obtain⟨w5,h5,c5,B5,fr5⟩:=GK (k:=k+4) (s:=[115,116,97,114,116,32]++g.start++[10]) B4 (by simp; omega)
   have hH:[]++(J++[10])++([115,116,97,114,116,32]++g.start++[10])=GI g:=by rw[hJ]; simp[GI]
   rw[hH] at B5
   have f50:AA h5 0=some (.cells 29 3 [kv,.str g.start,rv] false):=by
    rw[fr5 0 (by omega) (fun e=>?_) (by omega)]; exact f40
    have:=B4.buf
    generalize Ck ([]++(J++[10]))=V at this
    cases this with
    |nl=>cases e
    |ob id V cap ext hf hc=>
     simp only[BR,Option.some.injEq] at e
     subst e
     have hf:AA h4 0=some (.cells 5 1 V ext):=hf
     rw[f40] at hf; cases hf
   have hlr:∀S':St,BX .slice rv S'=some (.int .i64 (g.rules.length:Int),S'):=fun S'=>by have:=hr.len (st:=S'); rw[this,hln]
   have loop:=fun ts0 a b c d=>Xr (k:=k+2) (rv:=rv) (l:=l) (rs:=g.rules) (out:=GI g) hr hrs hs.rules (by omega) (by have:=QP hs; omega) B5 ts0 a b c d
   simp only[List.cons_append,List.nil_append] at s2 s3 c5
   simp[C.f36,hbx,hn,ld,hck,n1,n2,(rd f20).1,ap3,hj,s1,c4,(rd f40).2.1,s2,s3,c5,(rd f50).2.2,hlr,-M.bind_assoc]
   simp only[M.bind_assoc]
   refine M.BN (loop _ (by simp) (by simp) (by simp) (by simp)) fun x hx=>?_
   obtain⟨e,ts1,⟨h6,c6,lo6⟩⟩:=x
   obtain⟨rfl,z5,a,w,B6⟩:=hx
   have hl6:lo6=0:=B6.lo
   subst hl6
   have ht:=Vd hs
   have B6:Xl 1 (CE g) a w ⟨h6,c6,0⟩:=B6
   have e1:=aX (k:=k+5) B6
   obtain⟨st7,e2⟩:=VI (k:=k+5) B6 (by omega) (by unfold CE GI; simp)
   have hle:¬(20000:Int)<((CE g).length:Int):=by omega
   simp only at z5
   simp[z5,e1,e2,hle,leave,results,AP]
  ·have hv:MJ g=.tuple [.str [],.int .i64 g.fault]:=by unfold MJ; rw[if_neg hf]
   have hne:(g.fault !=0)=true:=by simpa using hf
   have hne2:(g.fault==0)=false:=by simpa using hf
   rw[hv]
   simp[C.f36,hbx,hn,ld,hck,hne,hne2,leave,results,AP]
 obtain⟨⟨v,st'⟩,h1,h2⟩:=goal
 simp only at h2
 subst h2
 rw[h1]
 exact Cs rfl
end Go.Am
