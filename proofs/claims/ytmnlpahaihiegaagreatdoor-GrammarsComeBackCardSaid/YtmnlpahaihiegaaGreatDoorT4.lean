/- A part of the proof of grammarsComeBack (merged by a program). -/
import Derived.Test.YtmnlpahaihiegaaGreatDoorT3
namespace Go.Am
open Go
theorem Fb:∀s:BB,(Ch s).length=s.length
 |[]=>rfl
 |b::s=>by simp[Ch]
theorem PM (a b:BB):Ch (a++b)=Ch a++Ch b:=by simp[Ch]
theorem Acc.one {h:Heap}{ty:Nat}{w:AV}{V:List AV}(H:Acc h ty w V):w.isTuple=false/\w.cells=[w]:=by cases H <;> exact⟨rfl,rfl⟩
theorem LA:∀s:BB,bytesOf (Ch s)=some s
 |[]=>rfl
 |b::s=>by
  show bytesOf (.int .u8 b.toNat::Ch s)=_
  rw[bytesOf,LA s,Sb]
structure WB (bid:Nat)(out:BB)(a w:AV)(st:St):Prop where
 at_:AA st.h bid=some (.cells 57 2 [a,w] false)
 qF:a=.Ba∨a=.AO bid 0
 buf:Acc st.h 5 w (Ch out)
 ne:∀p,BR w=some p->p≠bid
 tp:top st.h<=st.c
 lo:st.lo=0
theorem MZ {k bid:Nat}{out:BB}{a w:AV}{h:Heap}{c:Nat}(H:WB bid out a w ⟨h,c,0⟩) :
 ∃h',AX E (k+1) 58 [.AO bid 0] ⟨h,c,0⟩=.ret (.tuple [],⟨h',c,0⟩)/\WB bid out (.AO bid 0) w ⟨h',c,0⟩/\∀p,p≠bid->AA h' p=AA h p:=by
 have hat:AA h bid=some (.cells 57 2 [a,w] false):=H.at_
 have r0:AP h (.AO bid 0)=some a:=by rw[Hf,hat]; rfl
 rcases H.qF with rfl|rfl
 ·have s1:BJ 1 (.AO bid 0) (.AO bid 0) ⟨h,c,0⟩=some (.undef,⟨Aa h bid (.cells 57 2 [.AO bid 0,w] false),c,0⟩):=by
   rw[Fs,hat,Db]; simp[AV.isTuple,AV.cells]
  have up:Jc 57 2 (.AO bid 0) ⟨h,c,0⟩=some (.AO bid 0,⟨h,c,0⟩):=by simp[Jc,hat,beq_eq,ble_eq]
  refine⟨_,?_,⟨by show AA (Aa h bid _) bid=_; rw[OE rfl,hat]; rfl,.inr rfl,H.buf.heap fun p hp=>Jh (Ne.symm (H.ne p hp)),H.ne,by show top (Aa _ _ _)<=c; rw[Gm]; exact H.tp,rfl⟩,fun p hp=>Jh (Ne.symm hp)⟩
  rw[Ai (fn:=C.f58) rfl rfl rfl,Af (by simp)]
  simp[C.f58,CQ,r0,Rf,Zw,up,UY,FJ,s1,leave,results,AR]
 ·refine⟨h,?_,H,fun p _=>rfl⟩
  rw[Ai (fn:=C.f58) rfl rfl rfl,Af (by simp)]
  simp[C.f58,CQ,r0,Rf,Zw,beq_eq,leave,results,AR]
theorem DX {k bid:Nat}{out s:BB}{a w:AV}{h:Heap}{c:Nat}(H:WB bid out a w ⟨h,c,0⟩)(hl:out.length+s.length<=1000000) :
 ∃w' h',AX E (k+2) 23 [.AO bid 0,.str s] ⟨h,c,0⟩=.ret (.tuple [.int .i64 (s.length:Int),.Cs],⟨h',c+1,0⟩)/\WB bid (out++s) (.AO bid 0) w' ⟨h',c+1,0⟩/\∀p,p≠bid->BR w≠some p->p<c->AA h' p=AA h p:=by
 obtain⟨h1,e1,H1,fr1⟩:=MZ (k:=k) H
 have hat:AA h1 bid=some (.cells 57 2 [.AO bid 0,w] false):=H1.at_
 have tp:top h1<=c:=H1.tp
 have hbc:bid<c:=Nat.lt_of_lt_of_le (KP hat) tp
 have r1:AP h1 (.AO bid 1)=some w:=by rw[Hf,hat]; rfl
 obtain⟨w',h2,p1,p2,p3,p4,p5⟩:=Pq (c:=c+1) (lo:=0) (o:=c) (bytes:=1) (N:=Ch s) H1.buf tp (fun p _=>Nat.zero_le p) (by rw[Fb,Fb]; omega) (by omega)
 rw[Fb] at p1
 rw[← PM] at p2
 have ap:Gd c 5 w (.str s) ⟨h1,c+1,0⟩=some (w',⟨h2,c+1,0⟩):=p1
 have f2:AA h2 bid=some (.cells 57 2 [.AO bid 0,w] false):=by rw[p4 bid hbc (fun e=>H1.ne bid e rfl)]; exact hat
 have ne':∀p,BR w'=some p->p≠bid:=fun p hp=>by
  rcases p5 p hp with rfl|h
  ·omega
  ·exact H1.ne p h
 have hw':w'.isTuple=false/\w'.cells=[w']:=p2.one
 have s1:BJ 1 (.AO bid 1) w' ⟨h2,c+1,0⟩=some (.undef,⟨Aa h2 bid (.cells 57 2 [.AO bid 0,w'] false),c+1,0⟩):=by
  rw[Fs,f2,Db]; simp[hw']
 refine⟨w',_,?_,⟨by show AA (Aa h2 bid _) bid=_; rw[OE rfl,f2]; rfl,.inr rfl,p2.heap fun p hp=>Jh (Ne.symm (ne' p hp)),ne',by show top (Aa _ _ _)<=_; rw[Gm]; exact p3,rfl⟩,fun p hp hw hc=>?_⟩
 ·rw[Ai (fn:=C.f23) rfl rfl rfl,Af (by simp)]
  simp[C.f23,e1,CQ,r1,ap,s1,leave,results,AR]
 ·show AA (Aa h2 bid _) p=_
  rw[Jh (Ne.symm hp),p4 p hc hw]; exact fr1 p hp
theorem ML {k bid:Nat}{out:BB}{b:UInt8}{a w:AV}{h:Heap}{c:Nat}(H:WB bid out a w ⟨h,c,0⟩)(hl:out.length<=1000000) :
 ∃w' h',AX E (k+2) 26 [.AO bid 0,.int .u8 b.toNat] ⟨h,c,0⟩=.ret (.Cs,⟨h',c+2,0⟩)/\WB bid (out++[b]) (.AO bid 0) w' ⟨h',c+2,0⟩/\∀p,p≠bid->BR w≠some p->p<c->AA h' p=AA h p:=by
 obtain⟨h1,e1,H1,fr1⟩:=MZ (k:=k) H
 have hat:AA h1 bid=some (.cells 57 2 [.AO bid 0,w] false):=H1.at_
 have tp:top h1<=c:=H1.tp
 have hbc:bid<c:=Nat.lt_of_lt_of_le (KP hat) tp
 have r1:AP h1 (.AO bid 1)=some w:=by rw[Hf,hat]; rfl
 have n3:newObj c (.cells 5 1 [.int .u8 b.toNat] false) ⟨h1,c+2,0⟩=some ⟨(c,.cells 5 1 [.int .u8 b.toNat] false)::h1,c+2,0⟩:=BP tp
 obtain⟨h3,hh3⟩:∃h3:Heap,h3=(c,Al.cells 5 1 [.int .u8 b.toNat] false)::h1:=⟨_,rfl⟩
 rw[← hh3] at n3
 have tp3:top h3<=c+1:=by rw[hh3,BD]; omega
 have old3:∀p,p<c->AA h3 p=AA h1 p:=fun p hp=>by rw[hh3,Bb (by omega)]
 have hbs:Ar c 5 1 1 [.int .u8 0] [0] [.int .u8 (b.toNat:Int)]=some (.AU c 0 1 (some 1),.cells 5 1 [.int .u8 b.toNat] false):=rfl
 have B3:Acc h3 5 (.AU c 0 1 (some 1)) (Ch [b]):=.ob c [.int .u8 b.toNat] (some 1) false (by rw[hh3,Bv rfl]) (.inr rfl)
 have A3:Acc h3 5 w (Ch out):=H1.buf.heap fun p hp=>old3 p (Nat.lt_of_lt_of_le (H1.buf.lt hp) tp)
 obtain⟨w',h2,p1,p2,p3,p4,p5⟩:=Pq (c:=c+2) (lo:=0) (o:=c+1) (bytes:=1) (N:=Ch [b]) A3 tp3 (fun p _=>Nat.zero_le p) (by rw[Fb,Fb]; simp; omega) (by omega)
 rw[← PM] at p2
 have ap:Bq (c+1) 5 1 1 w (.AU c 0 1 (some 1)) ⟨h3,c+2,0⟩=some (w',⟨h2,c+2,0⟩):=by
  rw[JQ B3.mM B3.cells]; exact p1
 have f2:AA h2 bid=some (.cells 57 2 [.AO bid 0,w] false):=by rw[p4 bid (by omega) (fun e=>H1.ne bid e rfl),old3 bid hbc]; exact hat
 have ne':∀p,BR w'=some p->p≠bid:=fun p hp=>by
  rcases p5 p hp with rfl|h
  ·omega
  ·exact H1.ne p h
 have hw':=p2.one
 have s1:BJ 1 (.AO bid 1) w' ⟨h2,c+2,0⟩=some (.undef,⟨Aa h2 bid (.cells 57 2 [.AO bid 0,w'] false),c+2,0⟩):=by
  rw[Fs,f2,Db]; simp[hw']
 refine⟨w',_,?_,⟨by show AA (Aa h2 bid _) bid=_; rw[OE rfl,f2]; rfl,.inr rfl,p2.heap fun p hp=>Jh (Ne.symm (ne' p hp)),ne',by show top (Aa _ _ _)<=_; rw[Gm]; exact p3,rfl⟩,fun p hp hw hc=>?_⟩
 ·rw[Ai (fn:=C.f26) rfl rfl rfl,Af (by simp)]
  simp[C.f26,e1,CQ,r1,hbs,n3,ap,s1,leave,results,AR]
 ·show AA (Aa h2 bid _) p=_
  rw[Jh (Ne.symm hp),p4 p (by omega) hw,old3 p hc]; exact fr1 p hp
theorem Vn {k bid:Nat}{out:BB}{a w:AV}{st:St}(H:WB bid out a w st):AX E (k+1) 27 [.AO bid 0] st=.ret (.int .i64 (out.length:Int),st):=by
 have r1:AP st.h (.AO bid 1)=some w:=by rw[Hf,H.at_]; rfl
 have hl:Be .slice w st=some (.int .i64 (out.length:Int),st):=by
  have:=H.buf.len
  rw[Fb] at this
  simp[Be,this]
 rw[Ai (fn:=C.f27) rfl rfl rfl,Af (by simp)]
 simp[C.f27,CQ,r1,hl,leave,results,AR]
theorem PO {k bid:Nat}{out:BB}{a w:AV}{h:Heap}{c:Nat}(H:WB bid out a w ⟨h,c,0⟩)(hl:out.length<=1000000)(hne:out≠[]):∃st',AX E (k+1) 28 [.AO bid 0] ⟨h,c,0⟩=.ret (.str out,st'):=by
 have hat:AA h bid=some (.cells 57 2 [a,w] false):=H.at_
 have r1:AP h (.AO bid 1)=some w:=by rw[Hf,hat]; rfl
 have B:Acc h 5 w (Ch out):=H.buf
 have hlen:(Ch out).length=out.length:=Fb out
 have hpos:0<out.length:=List.length_pos_iff.2 hne
 have hb:=LA out
 obtain⟨V,hV⟩:∃V,V=Ch out:=⟨_,rfl⟩
 rw[← hV] at B hlen hb
 rw[Ai (fn:=C.f28) rfl rfl rfl,Af (by simp)]
 cases B with
 |nl=>simp at hlen; omega
 |ob id V cap ext hf hc=>
  have u1:GJ (.AU id 0 V.length cap) ⟨h,c,0⟩=some (.AO id 0,⟨h,c,0⟩):=by simp[GJ,blt_eq,hlen,hpos]
  have hroom:V.length<=room:=by unfold room; omega
  have hV0:V.length≠0:=by omega
  have u2:GR 5 (.AO id 0) (.int .i64 (V.length:Int)) ⟨h,c,0⟩=some (.str out,⟨GL h id,c,0⟩):=by
   simp[GR,Bd,beq_eq,hV0,blt_eq,ble_eq,hroom,hf,hb]
  have hl2:Be .slice (.AU id 0 V.length cap) ⟨h,c,0⟩=some (.int .i64 (V.length:Int),⟨h,c,0⟩):=rfl
  refine⟨⟨GL h id,c,0⟩,?_⟩
  simp[C.f28,CQ,r1,hl2,u1,u2,leave,results,AR]
theorem WZ {r:Bf}(h:r.level=0):BL r=joined [32] (Aw r)++[10]:=by
 unfold BL BG; rw[if_pos h,List.append_nil]
theorem WY {r:Bf}(h:r.level≠0):BL r=joined [32] (Aw r)++([32,47,32]++Lib.itoa r.level)++[10]:=by
 unfold BL BG
 rw[if_neg h,MR (by simp[Aw]) (by simp),Ce (by simp)]
 simp[joined]
theorem YW {r:Bf}(h:r.Small):(joined [32] (Aw r)).length<=1700:=by
 have:=Fp h
 by_cases h0:r.level=0
 ·have hl:BG r.level=[]:=by unfold BG; rw[if_pos h0]
  have h1:=Ht (sep:=[32]) (B:=50) (by decide) (l:=Aw r) fun s hs=>(FK h).2 s (List.mem_append_left _ hs)
  have h2:=h.right
  have h3:=Nat.mul_le_mul (show (Aw r).length<=32 by simp[Aw]; omega) (Nat.le_refl 51)
  omega
 ·have h1:=Ht (sep:=[32]) (B:=50) (by decide) (l:=Aw r) fun s hs=>(FK h).2 s (List.mem_append_left _ hs)
  have h2:=h.right
  have h3:=Nat.mul_le_mul (show (Aw r).length<=32 by simp[Aw]; omega) (Nat.le_refl 51)
  omega
theorem XQ {k:Nat}{n:Int}{st:St}(h0:-9223372036854775808<=n)(h1:n<9223372036854775808):AX E (k+4) 25 [.int .i64 n] st=.ret (.str (Lib.itoa n),st):=by
 rw[Ai (fn:=C.f25) rfl rfl rfl,Af (by simp)]
 simp[C.f25,Uu (k:=k) h0 h1,leave,results,AR]
set_option maxHeartbeats 2000000 in
theorem Ro {k bid:Nat}{rv:AV}{l:List AV}{rs:List Bf}(hr:Ci rv 3 l)(hrs:Bo l rs)(hsm:∀r∈rs,r.Small)(hn:rs.length<=100){out:BB}(hout:out.length<=100000){S0:St}{a0 w0:AV}(H0:WB bid out a0 w0 S0)(ts0:TS)(z5:ts0.get 5=.AO bid 0)(z26:ts0.get 26=rv)(z27:ts0.get 27=.int .i64 (rs.length:Int))(z28:ts0.get 28=.int .i64 ((0:Nat):Int)) :
 (Dh (BF E (AX E (k+4)) C.f6L0) E.k ts0 S0).to fun x=>x.1=.exit 0/\x.2.1.get 5=.AO bid 0/\∃a w,WB bid (out++rs.flatMap BL) a w x.2.2:=by
 have hln:=hrs.length
 refine DI (fun (i:Nat) ts st=>i<=rs.length/\(out++(rs.take i).flatMap BL).length<=100000+i*1735/\(∃a w,WB bid (out++(rs.take i).flatMap BL) a w st)/\Has ts [(5,.AO bid 0),(26,rv),(27,.int .i64 (rs.length:Int)),(28,.int .i64 (i:Int))])
  (fun i=>rs.length-i) ?_ _ 0 _ _ ?_ ?_
 ·clear z5 z26 z27 z28
  rintro i ts ⟨h,c,lo⟩ ⟨hi,hol,⟨a,wb,B⟩,hts⟩
  simp only[KQ,MB,and_true] at hts
  obtain⟨z5,z26,z27,z28⟩:=hts
  have hlo':lo=0:=B.lo
  subst hlo'
  have tp:top h<=c:=B.tp
  by_cases Bc:i<rs.length
  ·have hil:i<l.length:=by omega
   obtain⟨w,e1,e2⟩:=(hrs.get i Bc).2
   have hS:=hsm _ (List.getElem_mem Bc)
   have hrl:=hS.right
   obtain⟨r,hr0⟩:∃r,r=rs[i]:=⟨_,rfl⟩
   rw[← hr0] at e1 e2 hS hrl
   obtain⟨lv,hlv⟩:∃lv,lv=r.level:=⟨_,rfl⟩
   rw[← hlv] at e1
   have hix:Ad 3 rv (.int .i64 (i:Int)) ⟨h,c+1,0⟩=some (.BN [.str r.left,w,.int .i64 lv],⟨h,c+1,0⟩):=by
    have:=hr.idx (st:=⟨h,c+1,0⟩) hil
    rw[e1] at this; exact this
   have hn1:newObj c (.cells 47 3 [.str [],.AB,.int .i64 0] false) ⟨h,c+1,0⟩=some ⟨(c,.cells 47 3 [.str [],.AB,.int .i64 0] false)::h,c+1,0⟩:=BP tp
   have hst:=DY (h:=h) (c:=c) (c':=c+1) (lo:=0) (ty:=47) (n:=3) (zs:=[.str [],.AB,.int .i64 0]) (vs:=[.str r.left,w,.int .i64 lv]) (by omega) rfl rfl
   obtain⟨h1,hh1⟩:∃h1:Heap,h1=(c,Al.cells 47 3 [.str r.left,w,.int .i64 lv] false)::h:=⟨_,rfl⟩
   rw[← hh1] at hst
   have tp1:top h1<=c+1:=by rw[hh1,BD]; omega
   have f1:AA h1 c=some (.cells 47 3 [.str r.left,w,.int .i64 lv] false):=by rw[hh1,Bv rfl]
   have old1:∀p,p<c->AA h1 p=AA h p:=fun p hp=>by rw[hh1,Bb (by omega)]
   have rd:∀{h':Heap},AA h' c=some (.cells 47 3 [.str r.left,w,.int .i64 lv] false)->AP h' (.AO c 0)=some (.str r.left)/\AP h' (.AO c 1)=some w/\AP h' (.AO c 2)=some (.int .i64 lv):=fun hf=>by
    refine⟨?_,?_,?_⟩ <;> rw[AL hf] <;> rfl
   have hn2:newObj (c+1) (.cells 9 1 [.str r.left,.str [61]] false) ⟨h1,c+1+2,0⟩=some ⟨(c+1,.cells 9 1 [.str r.left,.str [61]] false)::h1,c+1+2,0⟩:=BP tp1
   obtain⟨h2,hh2⟩:∃h2:Heap,h2=(c+1,Al.cells 9 1 [.str r.left,.str [61]] false)::h1:=⟨_,rfl⟩
   rw[← hh2] at hn2
   have tp2:top h2<=c+1+1:=by rw[hh2,BD]; omega
   have old2:∀p,p<c+1->AA h2 p=AA h1 p:=fun p hp=>by rw[hh2,Bb (by omega)]
   have A2:Acc h2 9 (.AU (c+1) 0 2 (some 2)) (strs [r.left,[61]]):=.ob (c+1) [.str r.left,.str [61]] (some 2) false (by rw[hh2,Bv rfl]) (.inr rfl)
   obtain⟨w3,h3,ap3,A3,tp3,fr3,id3⟩:=RB (c:=c+1+2) (lo:=0) A2 tp2 (fun p _=>Nat.zero_le p) e2 (by simp; omega)
   have hRW:strs ([r.left,[61]]++r.right)=strs (Aw r):=rfl
   rw[hRW] at A3
   have old3:∀p,p<c+1->AA h3 p=AA h1 p:=fun p hp=>(fr3 p (by omega) (by simp[BR]; omega)).trans (old2 p hp)
   have hwl:=YW hS
   have hj:=KM (k:=k+3) (sep:=[32]) (st:=⟨h3,c+1+2,0⟩) A3 (by simp[Aw]; omega) (by omega)
   obtain⟨O,hO⟩:∃O,O=out++(rs.take i).flatMap BL:=⟨_,rfl⟩
   rw[← hO] at B hol
   have hbc:bid<c:=Nat.lt_of_lt_of_le (KP B.at_) tp
   have B3:WB bid O a wb ⟨h3,c+1+2,0⟩:=⟨((old3 bid (by omega)).trans (old1 bid hbc)).trans B.at_,B.qF,B.buf.heap fun p hp=>by
    have hp':p<top h:=B.buf.lt hp
    exact (old3 p (by omega)).trans (old1 p (by omega)),B.ne,tp3,rfl⟩
   have hbig:=Nat.mul_le_mul (show i<=100 by omega) (Nat.le_refl 1735)
   obtain⟨w4,h4,c4,B4,fr4⟩:=DX (k:=k+2) (s:=joined [32] (Aw r)) B3 (by omega)
   have f4:AA h4 c=some (.cells 47 3 [.str r.left,w,.int .i64 lv] false):=by
    rw[fr4 c (by omega) (fun e=>by have:c<top h:=B.buf.lt e; omega) (by omega),old3 c (by omega)]; exact f1
   have hwi:=wi i (by omega)
   have hfin:out++(rs.take (i+1)).flatMap BL=O++BL r:=by
    rw[List.take_succ_eq_append_getElem Bc,List.flatMap_append,← hr0,hO]; simp
   have hlen:(O++BL r).length<=100000+(i+1)*1735:=by
    have:=Fp hS
    rw[List.length_append]; unfold BL; rw[List.length_append,Nat.succ_mul]; simp only[List.length_cons,List.length_nil]; omega
   have hrd3:Ac h (.BN [.str r.left,w,.int .i64 lv]) 3=some [.str r.left,w,.int .i64 lv]:=rfl
   by_cases hz:lv=0
   ·have hz2:(lv !=0)=false:=by simpa using hz
    obtain⟨w5,h5,c5,B5,_⟩:=ML (k:=k+2) (b:=10) B4 (by rw[List.length_append]; omega)
    rw[List.append_assoc,← WZ (hlv ▸ hz)] at B5
    have c5':AX E (k+4) 26 [.AO bid 0,.int .u8 10] ⟨h4,c+1+2+1,0⟩=.ret (.Cs,⟨h5,c+1+2+1+2,0⟩):=c5
    simp[C.f6L0,z5,z26,z27,z28,Bc,hix,-Bp,hrd3,hn1,hst,(rd f1).1,hn2,(rd ((old2 c (by omega)).trans f1)).2.1,ap3,hj,c4,(rd f4).2.2,hz2,c5',hwi]
    exact⟨i+1,by omega,by omega,by rw[← hfin] at hlen; simpa using hlen,⟨_,_,by rw[hfin]; exact B5⟩,by omega⟩
   ·have hz2:(lv !=0)=true:=by simpa using hz
    have hil2:=Qc (n:=lv) (hlv ▸ hS.level.1) (hlv ▸ hS.level.2)
    have hd:=XQ (k:=k) (n:=lv) (st:=⟨h4,c+1+2+1,0⟩) (hlv ▸ hS.level.1) (hlv ▸ hS.level.2)
    have ad:=DJ (a:=[32,47,32]) (b:=Lib.itoa lv) (by simp; omega)
    obtain⟨w6,h6,c6,B6,_⟩:=DX (k:=k+2) (s:=[32,47,32]++Lib.itoa lv) B4 (by rw[List.length_append,List.length_append]; simp only[List.length_cons,List.length_nil]; omega)
    obtain⟨w5,h5,c5,B5,_⟩:=ML (k:=k+2) (b:=10) B6 (by rw[List.length_append,List.length_append,List.length_append]; simp only[List.length_cons,List.length_nil]; omega)
    have hll:=WY (r:=r) (hlv ▸ hz)
    rw[← hlv] at hll
    rw[List.append_assoc,List.append_assoc,← List.append_assoc (joined [32] (Aw r)),← hll] at B5
    have c5':AX E (k+4) 26 [.AO bid 0,.int .u8 10] ⟨h6,c+1+2+1+1,0⟩=.ret (.Cs,⟨h5,c+1+2+1+1+2,0⟩):=c5
    simp only[List.cons_append,List.nil_append] at ad c6
    simp[C.f6L0,z5,z26,z27,z28,Bc,hix,-Bp,hrd3,hn1,hst,(rd f1).1,hn2,(rd ((old2 c (by omega)).trans f1)).2.1,ap3,hj,c4,(rd f4).2.2,hz2,hd,ad,c6,c5',hwi]
    exact⟨i+1,by omega,by omega,by rw[← hfin] at hlen; simpa using hlen,⟨_,_,by rw[hfin]; exact B5⟩,by omega⟩
  ·have:i=rs.length:=by omega
   subst this
   rw[List.take_length] at B
   simp[C.f6L0,z5,z27,z28]
   exact⟨a,wb,B⟩
 ·show rs.length-0<1000000; omega
 ·exact⟨by omega,by simp; omega,⟨a0,w0,by simpa using H0⟩,by simp[z5,z26,z27,z28]⟩
theorem Mo {sep:BB}(hs:sep.length<=1):∀l:List BB,(joined sep l).length<=(l.map List.length).sum+l.length
 |[]=>by simp[joined]
 |[a]=>by simp[joined]
 |a::b::l=>by
  have ih:=Mo hs (b::l)
  rw[Ce (by simp)]
  simp only[List.length_append,List.length_cons,List.map_cons,List.sum_cons] at ih ⊢
  omega
theorem Sn {n:Nat}:∀{l:List BB},(∀s∈l,s.length<=n)->(l.map List.length).sum<=l.length*n
 |[],_=>by simp
 |a::l,h=>by
  have ih:=Sn (n:=n) (l:=l) fun s hs=>h s (List.mem_cons_of_mem _ hs)
  have:=h a (by simp)
  simp only[List.map_cons,List.sum_cons,List.length_cons,Nat.succ_mul]
  omega
theorem XC {r:Bf}(h:r.Small):(BL r).length<=1608:=by
 have h1:=Mo (sep:=[32]) (by decide) (Aw r++BG r.level)
 have h2:=Sn h.names
 have h3:=Nat.mul_le_mul h.right (Nat.le_refl 50)
 have h4:=h.left
 have h5:=h.right
 have h6:=Qc h.level.1 h.level.2
 have h7:((BG r.level).map List.length).sum<=22/\(BG r.level).length<=2:=by
  unfold BG; split
  ·simp
  ·simp; omega
 unfold BL
 rw[List.length_append]
 rw[List.map_append,List.sum_append,List.length_append] at h1
 simp only[Aw,List.map_cons,List.sum_cons,List.length_cons,List.length_nil] at h1 ⊢
 omega
theorem Py {g:Ak}(hs:g.Small):(Bh g).length<=20000:=by
 have h1:=Mo (sep:=[32]) (by decide) ([116,111,107,101,110,115]::g.kinds)
 have h2:=Sn hs.names
 have h3:=Nat.mul_le_mul hs.kinds (Nat.le_refl 50)
 have h4:=hs.kinds
 have h5:=hs.start
 have h6:=Qm (f:=BL) (n:=1608) (l:=g.rules) fun r hr=>XC (hs.rules r hr)
 have h7:=Nat.mul_le_mul hs.many (Nat.le_refl 1608)
 unfold Bh Cz
 simp only[List.map_cons,List.sum_cons,List.length_cons,List.length_nil] at h1
 simp only[List.length_append,List.length_cons,List.length_nil]
 omega
def Mc (g:Ak):AV:=.tuple [.str (if g.fault=0 then Bh g else []),.int .i64 g.fault]
set_option maxHeartbeats 2000000 in
theorem Ra {k:Nat}{v:AV}{g:Ak}{st:St}(hg:Bl v g)(hs:g.Small):AX E (k+7) 6 [v] st=.ret (Mc g,st):=by
 have hold:=hg.LD 0
 have hg':=hg
 obtain⟨kv,rv,l,rfl,hk,hr,hrs⟩:=hg
 have hln:=hrs.length
 have hmany:=hs.many
 have hkn:=hs.kinds
 have hst:=hs.start
 rw[DK (fn:=C.f6) rfl rfl rfl (by simp[AV.Cx,hold]),Af (by simp)]
 have goal:((BF E (AX E (k+6)) C.f6.body (TS.Cm [.agg [kv,.str g.start,rv]] 0 .nil) ⟨[],0,0⟩).bind (leave C.f6.results)).to fun r=>r.1=Mc g:=by
  have hbx:Gy 0 29 3 (.agg [kv,.str g.start,rv])=some (.AO 0 0,.cells 29 3 [kv,.str g.start,rv] false):=rfl
  obtain⟨h0,hh0⟩:∃h:Heap,h=[(0,.cells 29 3 [kv,.str g.start,rv] false)]:=⟨_,rfl⟩
  have hn:newObj 0 (.cells 29 3 [kv,.str g.start,rv] false) ⟨[],1,0⟩=some ⟨h0,1,0⟩:=by rw[hh0]; rfl
  have f0:AA h0 0=some (.cells 29 3 [kv,.str g.start,rv] false):=by rw[hh0]; rfl
  have tp0:top h0<=1:=by rw[hh0]; simp[top]
  have rd:∀{h:Heap},AA h 0=some (.cells 29 3 [kv,.str g.start,rv] false)->AP h (.AO 0 0)=some kv/\AP h (.AO 0 1)=some (.str g.start)/\AP h (.AO 0 2)=some rv:=fun hf=>by
   refine⟨?_,?_,?_⟩ <;> rw[AL hf] <;> rfl
  have ld:Ac h0 (.AO 0 0) 3=some [kv,.str g.start,rv]:=by rw[DN,f0]; simp
  have hck:=Zh (k:=k) (st:=⟨h0,1,0⟩) hg' hs
  by_cases hf:g.fault=0
  ·rw[hf] at hck
   have hv:Mc g=.tuple [.str (Bh g),.int .i64 0]:=by unfold Mc; rw[if_pos hf,hf]
   rw[hv]
   have n1:newObj 1 (.cells 57 2 [.Ba,.AB] false) ⟨h0,2,0⟩=some ⟨(1,.cells 57 2 [.Ba,.AB] false)::h0,2,0⟩:=BP tp0
   obtain⟨h1,hh1⟩:∃h1:Heap,h1=(1,Al.cells 57 2 [.Ba,.AB] false)::h0:=⟨_,rfl⟩
   rw[← hh1] at n1
   have tp1:top h1<=2:=by rw[hh1,BD]; omega
   have f10:AA h1 0=some (.cells 29 3 [kv,.str g.start,rv] false):=by rw[hh1,Bb (by omega)]; exact f0
   have f11:AA h1 1=some (.cells 57 2 [.Ba,.AB] false):=by rw[hh1,Bv rfl]
   have n2:newObj 2 (.cells 9 1 [.str [116,111,107,101,110,115]] false) ⟨h1,4,0⟩=some ⟨(2,.cells 9 1 [.str [116,111,107,101,110,115]] false)::h1,4,0⟩:=BP tp1
   obtain⟨h2,hh2⟩:∃h2:Heap,h2=(2,Al.cells 9 1 [.str [116,111,107,101,110,115]] false)::h1:=⟨_,rfl⟩
   rw[← hh2] at n2
   have tp2:top h2<=3:=by rw[hh2,BD]; omega
   have f20:AA h2 0=some (.cells 29 3 [kv,.str g.start,rv] false):=by rw[hh2,Bb (by omega)]; exact f10
   have f21:AA h2 1=some (.cells 57 2 [.Ba,.AB] false):=by rw[hh2,Bb (by omega)]; exact f11
   have A2:Acc h2 9 (.AU 2 0 1 (some 1)) (strs [[116,111,107,101,110,115]]):=.ob 2 [.str [116,111,107,101,110,115]] (some 1) false (by rw[hh2,Bv rfl]) (.inr rfl)
   obtain⟨w3,h3,ap3,A3,tp3,fr3,id3⟩:=RB (c:=4) (lo:=0) A2 tp2 (fun p _=>Nat.zero_le p) hk (by simp; omega)
   have f30:AA h3 0=some (.cells 29 3 [kv,.str g.start,rv] false):=by rw[fr3 0 (by omega) (by simp[BR])]; exact f20
   have f31:AA h3 1=some (.cells 57 2 [.Ba,.AB] false):=by rw[fr3 1 (by omega) (by simp[BR])]; exact f21
   have hkl:=OU hs
   have hj:=KM (k:=k+5) (sep:=[32]) (st:=⟨h3,4,0⟩) A3 (by simp; omega) (by show (joined [32] ([116,111,107,101,110,115]::g.kinds)).length<=_; omega)
   obtain⟨J,hJ⟩:∃J,J=joined [32] ([116,111,107,101,110,115]::g.kinds):=⟨_,rfl⟩
   rw[show [[116,111,107,101,110,115]]++g.kinds=[116,111,107,101,110,115]::g.kinds from rfl,← hJ] at hj
   rw[← hJ] at hkl
   have s1:=DJ (a:=J) (b:=[10]) (by simp; omega)
   have s2:=DJ (a:=[115,116,97,114,116,32]) (b:=g.start) (by simp; omega)
   have s3:=DJ (a:=[115,116,97,114,116,32]++g.start) (b:=[10]) (by simp; omega)
   have B3:WB 1 [] .Ba .AB ⟨h3,4,0⟩:=⟨f31,.inl rfl,.nl,fun p hp=>(by cases hp),tp3,rfl⟩
   obtain⟨w4,h4,c4,B4,fr4⟩:=DX (k:=k+4) (s:=J++[10]) B3 (by simp; omega)
   have f40:AA h4 0=some (.cells 29 3 [kv,.str g.start,rv] false):=by rw[fr4 0 (by omega) (fun e=>by cases e) (by omega)]; exact f30
   obtain⟨w5,h5,c5,B5,fr5⟩:=DX (k:=k+4) (s:=[115,116,97,114,116,32]++g.start++[10]) B4 (by simp; omega)
   have hH:[]++(J++[10])++([115,116,97,114,116,32]++g.start++[10])=Cz g:=by rw[hJ]; simp[Cz]
   rw[hH] at B5
   have f50:AA h5 0=some (.cells 29 3 [kv,.str g.start,rv] false):=by
    rw[fr5 0 (by omega) (fun e=>?_) (by omega)]; exact f40
    have:=B4.buf
    generalize Ch ([]++(J++[10]))=V at this
    cases this with
    |nl=>cases e
    |ob id V cap ext hf hc=>
     simp only[BR,Option.some.injEq] at e
     subst e
     have hf:AA h4 0=some (.cells 5 1 V ext):=hf
     rw[f40] at hf; cases hf
   have hlr:∀S':St,Be .slice rv S'=some (.int .i64 (g.rules.length:Int),S'):=fun S'=>by have:=hr.len (st:=S'); rw[this,hln]
   have loop:=fun ts0 a b c d=>Ro (k:=k+2) (rv:=rv) (l:=l) (rs:=g.rules) (out:=Cz g) hr hrs hs.rules (by omega) (by have:=Qj hs; omega) B5 ts0 a b c d
   simp only[List.cons_append,List.nil_append] at s2 s3 c5
   simp[C.f6,hbx,hn,ld,hck,n1,n2,(rd f20).1,ap3,hj,s1,c4,(rd f40).2.1,s2,s3,c5,(rd f50).2.2,hlr,-M.bind_assoc]
   simp only[M.bind_assoc]
   refine M.BX (loop _ (by simp) (by simp) (by simp) (by simp)) fun x hx=>?_
   obtain⟨e,ts1,⟨h6,c6,lo6⟩⟩:=x
   obtain⟨rfl,z5,a,w,B6⟩:=hx
   have hl6:lo6=0:=B6.lo
   subst hl6
   have ht:=Py hs
   have B6:WB 1 (Bh g) a w ⟨h6,c6,0⟩:=B6
   have e1:=Vn (k:=k+5) B6
   obtain⟨st7,e2⟩:=PO (k:=k+5) B6 (by omega) (by unfold Bh Cz; simp)
   have hle:¬(20000:Int)<((Bh g).length:Int):=by omega
   simp only at z5
   simp[z5,e1,e2,hle,leave,results,AR]
  ·have hv:Mc g=.tuple [.str [],.int .i64 g.fault]:=by unfold Mc; rw[if_neg hf]
   have hne:(g.fault !=0)=true:=by simpa using hf
   have hne2:(g.fault==0)=false:=by simpa using hf
   rw[hv]
   simp[C.f6,hbx,hn,ld,hck,hne,hne2,leave,results,AR]
 obtain⟨⟨v,st'⟩,h1,h2⟩:=goal
 simp only at h2
 subst h2
 rw[h1]
 exact DT rfl
theorem IL {c:UInt8}:∀{a:BB} {b:BB},c∉a->splitOn c (a++c::b)=a::splitOn c b
 |[],b,_=>by rw[List.nil_append,Dx,if_pos rfl]
 |x::a,b,h=>by
  have hx:x≠c:=fun e=>h (by simp[e])
  rw[List.cons_append,Dx,if_neg hx,IL (fun e=>h (List.mem_cons_of_mem _ e))]
  rfl
theorem NI {c:UInt8}:∀{a:BB},c∉a->splitOn c a=[a]
 |[],_=>rfl
 |x::a,h=>by
  have hx:x≠c:=fun e=>h (by simp[e])
  rw[Dx,if_neg hx,NI (fun e=>h (List.mem_cons_of_mem _ e))]
  rfl
theorem Gn {c:UInt8}:∀{W:List BB},W≠[]->(∀w∈W,c∉w)->splitOn c (joined [c] W)=W
 |[],h,_=>absurd rfl h
 |[w],_,h=>NI (h w (by simp))
 |w::v::W,_,h=>by
  rw[Ce (by simp),List.singleton_append,IL (h w (by simp)),Gn (by simp) (fun x hx=>h x (List.mem_cons_of_mem _ hx))]
theorem FZ {c:UInt8}:∀t:BB,joined [c] (splitOn c t)=t
 |[]=>rfl
 |b::t=>by
  have ih:=FZ (c:=c) t
  rw[Dx]
  split
  ·rename_i h
   subst h
   rw[Ce (FU _ _),ih]; rfl
  ·cases hs:splitOn c t with
   |nil=>exact absurd hs (FU c t)
   |cons x l=>
    rw[hs] at ih
    show joined [c] ((b::x)::l)=b::t
    cases l with
    |nil=>
     have:x=t:=ih
     rw[this]; rfl
    |cons y l=>
     rw[Ce (by simp)] at ih ⊢
     rw[List.cons_append,ih]
theorem Kr {sep:BB}{x:UInt8}:∀{W:List BB},x∈joined sep W->x∈sep∨∃w∈W,x∈w
 |[],h=>by simp[joined] at h
 |[w],h=>.inr ⟨w,by simp,h⟩
 |w::v::W,h=>by
  rw[Ce (by simp)] at h
  rcases List.mem_append.1 h with h|h
  ·exact .inr ⟨w,by simp,h⟩
  rcases List.mem_append.1 h with h|h
  ·exact .inl h
  rcases Kr h with h|⟨y,h1,h2⟩
  ·exact .inl h
  ·exact .inr ⟨y,List.mem_cons_of_mem _ h1,h2⟩
theorem Xw {s:BB}{c:UInt8}(h:FP s=true)(hc:LF c=false):c∉s:=by
 intro hm
 cases s with
 |nil=>cases h
 |cons b l=>
  unfold FP at h
  simp only[Bool.and_eq_true,List.all_eq_true] at h
  rw[h.2 c hm] at hc; cases hc
theorem iD {s:BB}(h:FP s=true):s≠[]:=by
 intro e; subst e; cases h
theorem jK {s:BB}(h:FP s=true):s≠[47]:=by
 intro e; subst e; revert h; decide
theorem mg:LF 10=false:=by decide
theorem mf:LF 32=false:=by decide
theorem Ob:∀{s:BB} {m v:Int},DW m s=some v->0<=m->m<=v
 |[],m,v,h,_=>by cases h; exact Int.le_refl _
 |b::s,m,v,h,h0=>by
  unfold DW at h
  split at h
  ·rename_i hd
   have:=Gv hd
   have:=Ob h (by omega)
   omega
  ·cases h
theorem eD:∀i:Fin 100,i.val≠0->numOf (if i.val<10 then [UInt8.ofNat (48+i.val)] else [UInt8.ofNat (48+i.val / 10),UInt8.ofNat (48+i.val % 10)])=some (i.val:Int):=by decide +kernel
theorem jO:∀i:Fin 100,(10:UInt8)∉(if i.val<10 then [UInt8.ofNat (48+i.val)] else [UInt8.ofNat (48+i.val / 10),UInt8.ofNat (48+i.val % 10)])/\(32:UInt8)∉(if i.val<10 then [UInt8.ofNat (48+i.val)] else [UInt8.ofNat (48+i.val / 10),UInt8.ofNat (48+i.val % 10)]):=by decide +kernel
theorem Qb {n:Int}(h0:0<=n)(h1:n<=99):Lib.itoa n=if n.toNat<10 then [UInt8.ofNat (48+n.toNat)] else [UInt8.ofNat (48+n.toNat / 10),UInt8.ofNat (48+n.toNat % 10)]:=by
 unfold Lib.itoa
 rw[if_neg (by omega)]
 split
 ·rename_i h; exact Lib.decDigits_one h
 ·rename_i h; exact Lib.decDigits_two h (by omega)
theorem ak {n:Int}(h0:1<=n)(h1:n<=99):numOf (Lib.itoa n)=some n:=by
 rw[Qb (by omega) h1]
 have:=eD ⟨n.toNat,by omega⟩ (by show n.toNat≠0; omega)
 rw[show ((n.toNat:Nat):Int)=n by omega] at this
 exact this
theorem fC {n:Int}(h0:0<=n)(h1:n<=99):(10:UInt8)∉Lib.itoa n/\(32:UInt8)∉Lib.itoa n/\Lib.itoa n≠[]:=by
 rw[Qb h0 h1]
 have:=jO ⟨n.toNat,by omega⟩
 exact⟨this.1,this.2,by split <;> simp⟩
theorem au {x:BB}{n:Int}(h:numOf x=some n)(h0:1<=n)(h1:n<=99):Lib.itoa n=x:=by
 unfold numOf at h
 split at h
 ·cases h
 rename_i hb
 cases hd:DW 0 (FQ x) with
 |none=>rw[hd] at h; cases h
 |some v=>
  rw[hd] at h
  have hv:=Ob hd (Int.le_refl 0)
  simp only[Option.map_some,Option.some.injEq] at h
  split at h
  ·omega
  rename_i hm
  subst h
  have hr:FQ x=x:=by unfold FQ; rw[if_neg hm]
  rw[hr] at hb hd
  unfold Jp at hb
  rw[Qb (by omega) h1]
  match x,hb,hd with
  |[],hb,_=>simp at hb
  |[b],hb,hd=>
   unfold DW at hd
   split at hd
   ·rename_i hg
    have:=Gv hg
    simp only[DW,Option.some.injEq] at hd
    rw[if_pos (by omega)]
    have e:48+v.toNat=b.toNat:=by omega
    rw[e,UInt8.ofNat_toNat]
   ·cases hd
  |[b,c],hb,hd=>
   unfold DW at hd
   split at hd
   ·rename_i hg
    have g1:=Gv hg
    unfold DW at hd
    split at hd
    ·rename_i hg2
     have g2:=Gv hg2
     simp only[DW,Option.some.injEq] at hd
     have hb48:b.toNat≠48:=fun e=>by
      have:b=48:=UInt8.toNat.inj e
      subst this
      simp at hb
     rw[if_neg (by omega)]
     have e1:48+v.toNat / 10=b.toNat:=by omega
     have e2:48+v.toNat % 10=c.toNat:=by omega
     rw[e1,e2,UInt8.ofNat_toNat,UInt8.ofNat_toNat]
    ·cases hd
   ·cases hd
  |b::c::d::r,hb,hd=>
   exfalso
   unfold DW at hd
   split at hd
   ·rename_i hg
    have g1:=Gv hg
    unfold DW at hd
    split at hd
    ·rename_i hg2
     have g2:=Gv hg2
     unfold DW at hd
     split at hd
     ·rename_i hg3
      have g3:=Gv hg3
      have hb48:b.toNat≠48:=fun e=>by
       have:b=48:=UInt8.toNat.inj e
       subst this
       simp at hb
      have:=Ob hd (by omega)
      omega
     ·cases hd
    ·cases hd
   ·cases hd
structure GN (r:Bf):Prop where
 left:FP r.left=true
 right:∀s∈r.right,FP s=true
 level:0<=r.level/\r.level<=99
 qK:r.right.length<=20
structure RH (g:Ak):Prop where
 kinds:∀s∈g.kinds,FP s=true
 start:FP g.start=true
 rules:∀r∈g.rules,GN r
theorem Ak.kC {g:Ak}(h:g.fault=0):RH g:=by
 have hok:=Ak.ok h
 unfold Ak.fault at h
 split at h
 ·rename_i h1; exact absurd h h1
 rename_i h1
 split at h
 ·cases h
 split at h
 ·rename_i h1; exact absurd h h1
 rename_i h2
 simp only[ne_eq,Decidable.not_not] at h1 h2
 have hk:∀s∈g.kinds,FP s=true:=fun s hs=>by
  obtain⟨i,hi,rfl⟩:=List.getElem_of_mem hs
  have:=JS h1 i hi
  unfold Gt at this
  have e:g.kinds.getD i []=g.kinds[i]:=by simp[List.getD,hi]
  rw[e] at this
  split at this
  ·cases this
  ·rename_i h; simpa using h
 have hl:∀r∈g.rules,FP r.left=true/\(0<=r.level/\r.level<=99)/\r.right.length<=20:=fun r hr=>by
  obtain⟨i,hi,rfl⟩:=List.getElem_of_mem hr
  have:=JS h2 i hi
  unfold JN at this
  have e:g.rules.getD i default=g.rules[i]:=by simp[List.getD,hi]
  rw[e] at this
  split at this
  ·cases this
  rename_i a1
  split at this
  ·cases this
  split at this
  ·cases this
  rename_i a3
  split at this
  ·cases this
  rename_i a4
  exact⟨by simpa using a1,Decidable.not_not.1 a4,by omega⟩
 have hleft:∀s∈g.SB,FP s=true:=fun s hs=>by
  have:=Ak.Lv.1 hs
  unfold Ak.isLeft at this
  simp only[List.any_eq_true,beq_iff_eq] at this
  obtain⟨r,hr,rfl⟩:=this
  exact (hl r hr).1
 refine⟨hk,hleft _ hok.start,fun r hr=>⟨(hl r hr).1,fun s hs=>?_,(hl r hr).2.1,(hl r hr).2.2⟩⟩
 rcases hok.syms r hr s hs with h|h
 ·exact hk s h
 ·exact hleft s h
theorem WW {r:Bf}(h:GN r):FO (Aw r++BG r.level)=some r:=by
 obtain⟨a,R,n⟩:=r
 have hr:=h.right
 have hl:=h.level
 simp only at hr hl
 unfold Aw BG
 simp only[List.cons_append]
 by_cases hn:n=0
 ·subst hn
  rw[if_pos rfl,List.append_nil]
  simp only[FO,if_true]
  rw[if_neg]
  rintro⟨h1,h2⟩
  exact jK (hr [47] (List.mem_of_getElem? h2)) rfl
 ·rw[if_neg hn]
  have hlen:(R++[[47],Lib.itoa n]).length=R.length+2:=by simp
  have hix:(R++[[47],Lib.itoa n])[R.length+2-2]? =some [47]:=by simp
  have hlast:(R++[[47],Lib.itoa n]).getLastD []=Lib.itoa n:=by simp[List.getLastD_eq_getLast?]
  simp only[FO,if_true]
  rw[hlen,if_pos ⟨by omega,hix⟩,hlast,ak (by omega) hl.2]
  simp[Io,hn]
theorem Yq {W:List BB}{r:Bf}(h:FO W=some r)(hl:0<=r.level/\r.level<=99):Aw r++BG r.level=W:=by
 match W,h with
 |a::b::R,h=>
  have h9:(if b=[61] then (if 2<=R.length/\R[R.length-2]? =some [47] then Io a R (numOf (R.getLastD [])) else some ⟨a,R,0⟩) else none)=some r:=h
  clear h
  split at h9
  ·rename_i hb2
   subst hb2
   split at h9
   ·rename_i hc
    obtain⟨h2,hix⟩:=hc
    cases hn:numOf (R.getLastD []) with
    |none=>
     rw[hn] at h9
     cases h9
     simp[Aw,BG]
    |some n=>
     rw[hn] at h9
     have h8:(if n=0 then none else some (⟨a,R.take (R.length-2),n⟩:Bf))=some r:=h9
     clear h9
     split at h8
     ·cases h8
     rename_i hn0
     cases h8
     simp only at hl
     have hi:=au hn (by omega) hl.2
     simp only[Aw,BG,if_neg hn0,List.cons_append,List.cons.injEq,true_and]
     rw[hi]
     have hd:R.drop (R.length-2)=[[47],R.getLastD []]:=by
      have hl2:(R.drop (R.length-2)).length=2:=by simp; omega
      match hq:R.drop (R.length-2),hl2 with
      |[x,y],_=>
       have e1:R[R.length-2]? =some x:=by
        have:=congrArg (fun l=>l[0]?) hq
        simpa using this
       have e2:R[R.length-1]? =some y:=by
        have:=congrArg (fun l=>l[1]?) hq
        simp only[List.getElem?_drop] at this
        rw[show R.length-2+1=R.length-1 by omega] at this
        simpa using this
       rw[hix] at e1
       cases e1
       rw[List.getLastD_eq_getLast?,List.getLast?_eq_getElem?,e2]
       rfl
     rw[← hd]
     exact List.take_append_drop _ _
   ·cases h9
    simp[Aw,BG]
  ·cases h9
 |[],h=>cases h
 |[_],h=>cases h
def Ig (r:Bf):BB:=joined [32] (Aw r++BG r.level)
theorem Ma {r:Bf}(h:GN r):∀w∈Aw r++BG r.level,(32:UInt8)∉w/\(10:UInt8)∉w/\w≠[]:=by
 have nm:∀w,FP w=true->(32:UInt8)∉w/\(10:UInt8)∉w/\w≠[]:=fun w hw=>⟨Xw hw mf,Xw hw mg,iD hw⟩
 intro w hw
 unfold Aw BG at hw
 simp only[List.cons_append,List.mem_cons,List.mem_append] at hw
 rcases hw with rfl|rfl|hw|hw
 ·exact nm _ h.left
 ·decide
 ·exact nm _ (h.right w hw)
 ·split at hw
  ·cases hw
  ·simp only[List.mem_cons,List.not_mem_nil,or_false] at hw
   rcases hw with rfl|rfl
   ·decide
   ·have:=fC h.level.1 h.level.2
    exact⟨this.2.1,this.1,this.2.2⟩
theorem XB {r:Bf}(h:GN r):splitOn 32 (Ig r)=Aw r++BG r.level:=Gn (by simp[Aw]) fun w hw=>(Ma h w hw).1
theorem eZ {r:Bf}(h:GN r):(10:UInt8)∉Ig r:=by
 intro hm
 rcases Kr hm with h1|⟨w,h1,h2⟩
 ·revert h1; decide
 ·exact (Ma h w h1).2.1 h2
theorem Yd {r:Bf}(h:GN r){n:Nat}(hn:2<=n)(g:Ak):Bg n (Ig r) g=some { g with rules:=g.rules++[r] }:=by
 unfold Bg
 simp only[XB h,WW h]
 rw[if_neg (fun hm=>(Ma h _ hm).2.2 rfl),if_neg (by omega),if_neg (by omega)]
 rfl
theorem MN:∀{rs:List Bf} {n:Nat} {g:Ak},2<=n->(∀r∈rs,GN r)->readAll n g (rs.map Ig++[[]])=.done (n+rs.length) { g with rules:=g.rules++rs }
 |[],n,g,_,_=>by simp[Ga]
 |r::rs,n,g,hn,h=>by
  rw[List.map_cons,List.cons_append,Jb (by simp) (Yd (h r (by simp)) hn g),MN (by omega) (fun x hx=>h x (List.mem_cons_of_mem _ hx))]
  simp[Nat.add_assoc,Nat.add_comm 1]
theorem Oq:∀{rs:List Bf},(∀r∈rs,GN r)->splitOn 10 (rs.flatMap BL)=rs.map Ig++[[]]
 |[],_=>rfl
 |r::rs,h=>by
  rw[List.flatMap_cons]
  show splitOn 10 ((Ig r++[10])++rs.flatMap BL)=_
  rw[List.append_assoc,List.singleton_append,IL (eZ (h r (by simp))),Oq (fun x hx=>h x (List.mem_cons_of_mem _ hx))]
  rfl
theorem Qa:∀rs:List Bf,joined [10] (rs.map Ig++[[]])=rs.flatMap BL
 |[]=>rfl
 |r::rs=>by
  rw[List.map_cons,List.cons_append,Ce (by simp),Qa rs,List.flatMap_cons]
  show Ig r++([10]++_)=(Ig r++[10])++_
  rw[List.append_assoc]
theorem head_eq (g:Ak):Bh g=joined [32] (NF::g.kinds)++10::(joined [32] [Ic,g.start]++10::g.rules.flatMap BL):=by
 show (joined [32] (NF::g.kinds)++[10,115,116,97,114,116,32]++g.start++[10])++g.rules.flatMap BL=joined [32] (NF::g.kinds)++10::((Ic++([32]++g.start))++10::g.rules.flatMap BL)
 simp[Ic,List.append_assoc]
theorem Yx {g:Ak}(hf:g.Ca=0)(hl:(Bh g).length<=20000):BU (Bh g)=(g,0,0):=by
 have F:=Ak.kC (Ak.Lb hf).1
 have nm:∀w,FP w=true->(32:UInt8)∉w/\(10:UInt8)∉w/\w≠[]:=fun w hw=>⟨Xw hw mf,Xw hw mg,iD hw⟩
 have k1:∀w∈NF::g.kinds,(32:UInt8)∉w/\(10:UInt8)∉w/\w≠[]:=fun w hw=>by
  rcases List.mem_cons.1 hw with rfl|hw
  ·decide
  ·exact nm w (F.kinds w hw)
 have k2:∀w∈[Ic,g.start],(32:UInt8)∉w/\(10:UInt8)∉w/\w≠[]:=fun w hw=>by
  simp only[List.mem_cons,List.not_mem_nil,or_false] at hw
  rcases hw with rfl|rfl
  ·decide
  ·exact nm _ F.start
 have n1:(10:UInt8)∉joined [32] (NF::g.kinds):=fun hm=>by
  rcases Kr hm with h1|⟨w,h1,h2⟩
  ·revert h1; decide
  ·exact (k1 w h1).2.1 h2
 have n2:(10:UInt8)∉joined [32] [Ic,g.start]:=fun hm=>by
  rcases Kr hm with h1|⟨w,h1,h2⟩
  ·revert h1; decide
  ·exact (k2 w h1).2.1 h2
 have w1:=Gn (c:=32) (W:=NF::g.kinds) (by simp) fun w hw=>(k1 w hw).1
 have w2:=Gn (c:=32) (W:=[Ic,g.start]) (by simp) fun w hw=>(k2 w hw).1
 have s0:Bg 0 (joined [32] (NF::g.kinds)) CX=some ⟨g.kinds,[],[]⟩:=by
  unfold Bg
  simp only[w1]
  rw[if_neg (fun hm=>(k1 _ hm).2.2 rfl)]
  simp[CX]
 have s1:Bg 1 (joined [32] [Ic,g.start]) ⟨g.kinds,[],[]⟩=some ⟨g.kinds,g.start,[]⟩:=by
  unfold Bg
  simp only[w2]
  rw[if_neg (fun hm=>(k2 _ hm).2.2 rfl)]
  simp[Lm]
 have hsplit:splitOn 10 (Bh g)=joined [32] (NF::g.kinds)::joined [32] [Ic,g.start]::(g.rules.map Ig++[[]]):=by
  rw[head_eq,IL n1,IL n2,Oq F.rules]
 have hread:readAll 0 CX (splitOn 10 (Bh g))=.done (2+g.rules.length) g:=by
  rw[hsplit,Jb (by simp) s0,Jb (by simp) s1,MN (by omega) F.rules]
  simp
 unfold BU
 rw[if_neg (by omega),hread]
 simp only
 rw[if_neg (by omega),if_pos hf]
theorem NN:∀{P:List BB} {n k:Nat} {g g':Ak},readAll n g P=.done k g'->2<=n->∃Ls rs,P=Ls++[[]]/\g'={ g with rules:=g.rules++rs }/\Ls.map (fun l=>FO (splitOn 32 l))=rs.map some
 |[],n,k,g,g',h,_=>by cases h
 |[l],n,k,g,g',h,_=>by
  rw[Ga] at h
  split at h
  ·rename_i hl; cases h; exact⟨[],[],by simp[hl],by simp,rfl⟩
  ·cases h
 |l::l2::P,n,k,g,g',h,hn=>by
  rw[Fq (by simp)] at h
  cases hs:Bg n l g with
  |none=>rw[hs] at h; cases h
  |some g1=>
   rw[hs] at h
   obtain⟨Ls,rs,e1,e2,e3⟩:=NN h (by omega)
   unfold Bg at hs
   simp only at hs
   split at hs
   ·cases hs
   rw[if_neg (by omega),if_neg (by omega)] at hs
   cases hr:FO (splitOn 32 l) with
   |none=>rw[hr] at hs; cases hs
   |some r=>
    rw[hr] at hs
    cases hs
    exact⟨l::Ls,r::rs,by rw[e1]; rfl,by rw[e2]; simp,by rw[List.map_cons,List.map_cons,e3,hr]⟩
theorem QV:∀{Ls:List BB} {rs:List Bf},Ls.map (fun l=>FO (splitOn 32 l))=rs.map some->(∀r∈rs,0<=r.level/\r.level<=99)->Ls=rs.map Ig
 |[],[],_,_=>rfl
 |l::Ls,r::rs,h,hl=>by
  simp only[List.map_cons,List.cons.injEq] at h
  rw[List.map_cons,← QV h.2 (fun x hx=>hl x (List.mem_cons_of_mem _ hx))]
  congr 1
  have:=Yq h.1 (hl r (by simp))
  unfold Ig
  rw[this,FZ]
 |[],r::rs,h,_=>by cases h
 |l::Ls,[],h,_=>by cases h
theorem Yb {t:BB}{z:Ak}{a:Nat}(h:BU t=(z,a,0)):Bh z=t/\z.Ca=0/\t.length<=20000:=by
 unfold BU at h
 split at h
 ·cases h
 rename_i hlen
 split at h
 ·cases h
 rename_i n g hread
 split at h
 ·cases h
 rename_i hn
 split at h
 ·rename_i hf
  cases h
  refine⟨?_,hf,by omega⟩
  have F:=Ak.kC (Ak.Lb hf).1
  have hjoin:=FZ (c:=10) t
  match hP:splitOn 10 t,hread,hjoin with
  |[],hread,_=>cases hread
  |[l],hread,_=>
   rw[Ga] at hread
   split at hread
   ·cases hread; omega
   ·cases hread
  |l0::l1::P,hread,hjoin=>
   rw[Fq (by simp)] at hread
   cases hs:Bg 0 l0 CX with
   |none=>rw[hs] at hread; cases hread
   |some g1=>
    rw[hs] at hread
    simp only at hread
    unfold Bg at hs
    simp only[if_true] at hs
    split at hs
    ·cases hs
    split at hs
    ·rename_i hh
     cases hs
     have hw0:splitOn 32 l0=NF::(splitOn 32 l0).tail:=by
      cases hq:splitOn 32 l0 with
      |nil=>rw[hq] at hh; cases hh
      |cons x W=>rw[hq] at hh; cases hh; rfl
     match P,hread,hjoin with
     |[],hread,_=>
      rw[Ga] at hread
      split at hread
      ·cases hread; omega
      ·cases hread
     |l2::P,hread,hjoin=>
      rw[Fq (by simp)] at hread
      cases hs1:Bg 1 l1 { CX with kinds:=(splitOn 32 l0).tail } with
      |none=>rw[hs1] at hread; cases hread
      |some g2=>
       rw[hs1] at hread
       simp only at hread
       obtain⟨Ls,rs,e1,e2,e3⟩:=NN hread (Nat.le_refl 2)
       unfold Bg at hs1
       simp only at hs1
       split at hs1
       ·cases hs1
       simp only[Nat.succ_ne_zero,if_false,if_true,Nat.zero_add,Nat.one_ne_zero] at hs1
       unfold Lm at hs1
       split at hs1
       ·rename_i x y hw1
        split at hs1
        ·rename_i hx
         cases hs1
         subst hx
         rw[e2] at F
         have hL:=QV e3 fun r hr=>(F.rules r (by simp[hr])).level
         rw[e2,head_eq,← hjoin,e1,hL]
         simp only[CX,List.nil_append]
         rw[Ce (a:=l0) (by simp),Ce (a:=l1) (by simp),Qa,← hw0,← hw1,FZ,FZ]
         simp
        ·cases hs1
       ·cases hs1
    ·cases hs
 ·rename_i hf
  simp only[Prod.mk.injEq] at h
  exact absurd h.2.2 hf
theorem QR {s:BB}(h:FP s=true):s.length<=40:=by
 cases s with
 |nil=>simp
 |cons b l=>
  unfold FP at h
  simp only[Bool.and_eq_true,decide_eq_true_eq] at h
  have:=h.1.1
  simp only[List.length_cons]
  omega
theorem GN.small {r:Bf}(h:GN r):r.Small:=
 ⟨by have:=QR h.left; omega,by have:=h.qK; omega,fun s hs=>by have:=QR (h.right s hs); omega,by have:=h.level; omega⟩
theorem QX {g:Ak}(F:RH g)(hk:g.kinds.length<=60):(joined [32] ([116,111,107,101,110,115]::g.kinds)).length<=3111:=by
 have:=Ht (sep:=[32]) (B:=50) (by decide) (l:=[116,111,107,101,110,115]::g.kinds) fun s hm=>by
  rcases List.mem_cons.1 hm with rfl|h
  ·decide
  ·have:=QR (F.kinds s h); omega
 have:=Nat.mul_le_mul (show ([116,111,107,101,110,115]::g.kinds).length<=61 by simp; omega) (Nat.le_refl 51)
 omega
theorem ZX {g:Ak}(F:RH g)(hk:g.kinds.length<=60):(Cz g).length<=3200:=by
 have:=QX F hk
 have:=QR F.start
 unfold Cz
 simp only[List.length_append,List.length_cons,List.length_nil]
 omega
set_option maxHeartbeats 2000000 in
theorem VG {k:Nat}{v:AV}{g:Ak}{st:St}(hg:Bl v g)(hs:g.GA)(hf:g.Ca=0)(ht:(Bh g).length<=20000):AX E (k+7) 6 [v] st=.ret (.tuple [.str (Bh g),.int .i64 0],st):=by
 have hold:=hg.LD 0
 have hg':=hg
 obtain⟨kv,rv,l,rfl,hk,hr,hrs⟩:=hg
 have hln:=hrs.length
 obtain⟨hf0,hk6,hmany⟩:=Ak.Lb hf
 have F:=Ak.kC hf0
 have hst:=QR F.start
 rw[DK (fn:=C.f6) rfl rfl rfl (by simp[AV.Cx,hold]),Af (by simp)]
 have goal:((BF E (AX E (k+6)) C.f6.body (TS.Cm [.agg [kv,.str g.start,rv]] 0 .nil) ⟨[],0,0⟩).bind (leave C.f6.results)).to fun r=>r.1=.tuple [.str (Bh g),.int .i64 0]:=by
  have hbx:Gy 0 29 3 (.agg [kv,.str g.start,rv])=some (.AO 0 0,.cells 29 3 [kv,.str g.start,rv] false):=rfl
  obtain⟨h0,hh0⟩:∃h:Heap,h=[(0,.cells 29 3 [kv,.str g.start,rv] false)]:=⟨_,rfl⟩
  have hn:newObj 0 (.cells 29 3 [kv,.str g.start,rv] false) ⟨[],1,0⟩=some ⟨h0,1,0⟩:=by rw[hh0]; rfl
  have f0:AA h0 0=some (.cells 29 3 [kv,.str g.start,rv] false):=by rw[hh0]; rfl
  have tp0:top h0<=1:=by rw[hh0]; simp[top]
  have rd:∀{h:Heap},AA h 0=some (.cells 29 3 [kv,.str g.start,rv] false)->AP h (.AO 0 0)=some kv/\AP h (.AO 0 1)=some (.str g.start)/\AP h (.AO 0 2)=some rv:=fun hf=>by
   refine⟨?_,?_,?_⟩ <;> rw[AL hf] <;> rfl
  have ld:Ac h0 (.AO 0 0) 3=some [kv,.str g.start,rv]:=by rw[DN,f0]; simp
  have hck:=YJ (k:=k) (st:=⟨h0,1,0⟩) hg' hs
  rw[hf] at hck
  have n1:newObj 1 (.cells 57 2 [.Ba,.AB] false) ⟨h0,2,0⟩=some ⟨(1,.cells 57 2 [.Ba,.AB] false)::h0,2,0⟩:=BP tp0
  obtain⟨h1,hh1⟩:∃h1:Heap,h1=(1,Al.cells 57 2 [.Ba,.AB] false)::h0:=⟨_,rfl⟩
  rw[← hh1] at n1
  have tp1:top h1<=2:=by rw[hh1,BD]; omega
  have f10:AA h1 0=some (.cells 29 3 [kv,.str g.start,rv] false):=by rw[hh1,Bb (by omega)]; exact f0
  have f11:AA h1 1=some (.cells 57 2 [.Ba,.AB] false):=by rw[hh1,Bv rfl]
  have n2:newObj 2 (.cells 9 1 [.str [116,111,107,101,110,115]] false) ⟨h1,4,0⟩=some ⟨(2,.cells 9 1 [.str [116,111,107,101,110,115]] false)::h1,4,0⟩:=BP tp1
  obtain⟨h2,hh2⟩:∃h2:Heap,h2=(2,Al.cells 9 1 [.str [116,111,107,101,110,115]] false)::h1:=⟨_,rfl⟩
  rw[← hh2] at n2
  have tp2:top h2<=3:=by rw[hh2,BD]; omega
  have f20:AA h2 0=some (.cells 29 3 [kv,.str g.start,rv] false):=by rw[hh2,Bb (by omega)]; exact f10
  have f21:AA h2 1=some (.cells 57 2 [.Ba,.AB] false):=by rw[hh2,Bb (by omega)]; exact f11
  have A2:Acc h2 9 (.AU 2 0 1 (some 1)) (strs [[116,111,107,101,110,115]]):=.ob 2 [.str [116,111,107,101,110,115]] (some 1) false (by rw[hh2,Bv rfl]) (.inr rfl)
  obtain⟨w3,h3,ap3,A3,tp3,fr3,id3⟩:=RB (c:=4) (lo:=0) A2 tp2 (fun p _=>Nat.zero_le p) hk (by simp; omega)
  have f30:AA h3 0=some (.cells 29 3 [kv,.str g.start,rv] false):=by rw[fr3 0 (by omega) (by simp[BR])]; exact f20
  have f31:AA h3 1=some (.cells 57 2 [.Ba,.AB] false):=by rw[fr3 1 (by omega) (by simp[BR])]; exact f21
  have hkl:=QX F hk6
  have hj:=KM (k:=k+5) (sep:=[32]) (st:=⟨h3,4,0⟩) A3 (by simp; omega) (by show (joined [32] ([116,111,107,101,110,115]::g.kinds)).length<=_; omega)
  obtain⟨J,hJ⟩:∃J,J=joined [32] ([116,111,107,101,110,115]::g.kinds):=⟨_,rfl⟩
  rw[show [[116,111,107,101,110,115]]++g.kinds=[116,111,107,101,110,115]::g.kinds from rfl,← hJ] at hj
  rw[← hJ] at hkl
  have s1:=DJ (a:=J) (b:=[10]) (by simp; omega)
  have s2:=DJ (a:=[115,116,97,114,116,32]) (b:=g.start) (by simp; omega)
  have s3:=DJ (a:=[115,116,97,114,116,32]++g.start) (b:=[10]) (by simp; omega)
  have B3:WB 1 [] .Ba .AB ⟨h3,4,0⟩:=⟨f31,.inl rfl,.nl,fun p hp=>(by cases hp),tp3,rfl⟩
  obtain⟨w4,h4,c4,B4,fr4⟩:=DX (k:=k+4) (s:=J++[10]) B3 (by simp; omega)
  have f40:AA h4 0=some (.cells 29 3 [kv,.str g.start,rv] false):=by rw[fr4 0 (by omega) (fun e=>by cases e) (by omega)]; exact f30
  obtain⟨w5,h5,c5,B5,fr5⟩:=DX (k:=k+4) (s:=[115,116,97,114,116,32]++g.start++[10]) B4 (by simp; omega)
  have hH:[]++(J++[10])++([115,116,97,114,116,32]++g.start++[10])=Cz g:=by rw[hJ]; simp[Cz]
  rw[hH] at B5
  have f50:AA h5 0=some (.cells 29 3 [kv,.str g.start,rv] false):=by
   rw[fr5 0 (by omega) (fun e=>?_) (by omega)]; exact f40
   have:=B4.buf
   generalize Ch ([]++(J++[10]))=V at this
   cases this with
   |nl=>cases e
   |ob id V cap ext hf hc=>
    simp only[BR,Option.some.injEq] at e
    subst e
    have hf:AA h4 0=some (.cells 5 1 V ext):=hf
    rw[f40] at hf; cases hf
  have hlr:∀S':St,Be .slice rv S'=some (.int .i64 (g.rules.length:Int),S'):=fun S'=>by have:=hr.len (st:=S'); rw[this,hln]
  have loop:=fun ts0 a b c d=>Ro (k:=k+2) (rv:=rv) (l:=l) (rs:=g.rules) (out:=Cz g) hr hrs (fun r hr=>(F.rules r hr).small) (by omega) (by have:=ZX F hk6; omega) B5 ts0 a b c d
  simp only[List.cons_append,List.nil_append] at s2 s3 c5
  simp[C.f6,hbx,hn,ld,hck,n1,n2,(rd f20).1,ap3,hj,s1,c4,(rd f40).2.1,s2,s3,c5,(rd f50).2.2,hlr,-M.bind_assoc]
  simp only[M.bind_assoc]
  refine M.BX (loop _ (by simp) (by simp) (by simp) (by simp)) fun x hx=>?_
  obtain⟨e,ts1,⟨h6,c6,lo6⟩⟩:=x
  obtain⟨rfl,z5,a,w,B6⟩:=hx
  have hl6:lo6=0:=B6.lo
  subst hl6
  have B6:WB 1 (Bh g) a w ⟨h6,c6,0⟩:=B6
  have e1:=Vn (k:=k+5) B6
  obtain⟨st7,e2⟩:=PO (k:=k+5) B6 (by omega) (by unfold Bh Cz; simp)
  have hle:¬(20000:Int)<((Bh g).length:Int):=by omega
  simp only at z5
  simp[z5,e1,e2,hle,leave,results,AR]
 obtain⟨⟨v,st'⟩,h1,h2⟩:=goal
 simp only at h2
 subst h2
 rw[h1]
 exact DT rfl
end Go.Am
