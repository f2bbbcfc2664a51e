/- A part of the proof of beginningsTold (merged by a program). -/
import Derived.Test.YtehhlchbbdaipaaGreatDoorB4
import Derived.Test.YtehhlchbbdaipaaGreatDoorW9
namespace Go.Am
open Go
theorem pK {k:Nat}{v1 v2:AV}{r1 r2:Ba}{st:St}(h1:Ob v1 r1)(h2:Ob v2 r2)(hl:r1.right.length<1000000)(hb:top st.h<=st.c):AU E (k+2) 99 [v1,v2] st=.ret (.bool (decide (r1=r2)),st):=by
 obtain⟨w1,rfl,s1⟩:=h1
 obtain⟨w2,rfl,s2⟩:=h2
 rw[BS (fn:=C.f99) rfl rfl rfl,Ad (by simp)]
 obtain⟨h,c,lo⟩:=st
 have hb':top h<=c:=hb
 have n1:newObj c (.cells 68 3 [.str r1.left,w1,.int .i64 r1.level] false) ⟨h,c+2,c⟩=some ⟨(c,.cells 68 3 [.str r1.left,w1,.int .i64 r1.level] false)::h,c+2,c⟩:=Br hb'
 obtain⟨ha,hha⟩:∃ha:Af,ha=(c,Ai.cells 68 3 [.str r1.left,w1,.int .i64 r1.level] false)::h:=⟨_,rfl⟩
 have tpa:top ha<=c+1:=by rw[hha,Bn]; omega
 have n2:newObj (c+1) (.cells 68 3 [.str r2.left,w2,.int .i64 r2.level] false) ⟨ha,c+2,c⟩=some ⟨(c+1,.cells 68 3 [.str r2.left,w2,.int .i64 r2.level] false)::ha,c+2,c⟩:=Br tpa
 obtain⟨hc,hhc⟩:∃hc:Af,hc=(c+1,Ai.cells 68 3 [.str r2.left,w2,.int .i64 r2.level] false)::ha:=⟨_,rfl⟩
 rw[← hha] at n1
 rw[← hhc] at n2
 have f1:AA hc c=some (.cells 68 3 [.str r1.left,w1,.int .i64 r1.level] false):=by rw[hhc,Bg (by omega),hha,Ce rfl]
 have f2:AA hc (c+1)=some (.cells 68 3 [.str r2.left,w2,.int .i64 r2.level] false):=by rw[hhc,Ce rfl]
 have a0:AP hc (.AO c 0)=some (.str r1.left):=by rw[AB f1]; rfl
 have a1:AP hc (.AO c 1)=some w1:=by rw[AB f1]; rfl
 have a2:AP hc (.AO c 2)=some (.int .i64 r1.level):=by rw[AB f1]; rfl
 have b0:AP hc (.AO (c+1) 0)=some (.str r2.left):=by rw[AB f2]; rfl
 have b1:AP hc (.AO (c+1) 1)=some w2:=by rw[AB f2]; rfl
 have b2:AP hc (.AO (c+1) 2)=some (.int .i64 r2.level):=by rw[AB f2]; rfl
 have he:=JH (k:=k) (st:=⟨hc,c+2,c⟩) (Reads.OI (h:=hc) s1) (Reads.OI (h:=hc) s2) hl
 have hdec:decide (r1=r2)=((r1.left==r2.left)&&((r1.level==r2.level)&&decide (r1.right=r2.right))):=by
  rw[Bool.eq_iff_iff]
  obtain⟨l1,x1,n1⟩:=r1
  obtain⟨l2,x2,n2⟩:=r2
  simp only[decide_eq_true_eq,Bool.and_eq_true,beq_iff_eq,Ba.mk.injEq]
  exact⟨fun⟨a,b,c⟩=>⟨a,c,b⟩,fun⟨a,b,c⟩=>⟨a,c,b⟩⟩
 rw[hdec]
 cases e1:(r1.left==r2.left) with
 |false=>simp[C.f99,Az,Av,n1,n2,a0,b0,e1,leave,results,AY]
 |true=>
  cases e2:(r1.level==r2.level) with
  |false=>simp[C.f99,Az,Av,n1,n2,a0,b0,a2,b2,e1,e2,leave,results,AY]
  |true=>simp[C.f99,Az,Av,n1,n2,a0,b0,a1,b1,a2,b2,e1,e2,he,leave,results,AY]
set_option maxHeartbeats 2000000 in
theorem TJ {k:Nat}{v1 v2:AV}{l1 l2:List AV}{rs1 rs2:List Ba}{st:St}(h1:BI v1 3 l1)(h2:BI v2 3 l2)(q1:Bt l1 rs1)(q2:Bt l2 rs2)(hs:∀r∈rs1,r.right.length<1000000)(hn:rs1.length<1000000)(hb:top st.h<=st.c)(hlo:st.lo<=st.c) :
 (AU E (k+3) 98 [v1,v2,.fn (.func 99) [] []] st).to fun x=>x.1=.bool (decide (rs1=rs2)):=by
 rw[Ap (fn:=C.f98) rfl rfl rfl,Ad (by simp)]
 have e1:=q1.length
 have e2:=q2.length
 by_cases hl:rs1.length=rs2.length
 ·have hln:((l1.length:Int) != (l2.length:Int))=false:=by rw[e1,e2,hl]; simp
  have hlen1:∀S:St,BO .slice v1 S=some (.int .i64 (l1.length:Int),S):=fun S=>h1.len
  have hlen2:∀S:St,BO .slice v2 S=some (.int .i64 (l2.length:Int),S):=fun S=>h2.len
  simp[-bne_self_eq_false,C.f98,hlen1,hlen2,hln]
  refine M.Al (DU (fun (i:Nat) ts st'=>i<=rs1.length/\top st'.h<=st'.c/\st'.lo<=st'.c/\Has ts [(1,v2),(2,.fn (.func 99) [] []),(15,v1),(16,.int .i64 (rs1.length:Int)),(17,.int .i64 (i:Int))]/\rs1.take i=rs2.take i)
   (fun i=>rs1.length-i) (fun e ts st'=>(e=.exit 0/\rs1=rs2)∨(e=.ret/\ts.get 6=.bool false/\rs1≠rs2)) ?step _ 0 _ _ ?_ ?_) ?_
  case step=>
   rintro i ts ⟨h,c,lo⟩ ⟨hi,tp,hlc,hts,htk⟩
   simp only[Bi,CR,and_true] at hts
   obtain⟨z1,z2,z15,z16,z17⟩:=hts
   by_cases Au:i<rs1.length
   ·have tp':top h<=c:=tp
    have hlc':lo<=c:=hlc
    obtain⟨w1,a1,a2⟩:=(q1.get i Au).2
    obtain⟨w2,b1,b2⟩:=(q2.get i (by omega)).2
    have hil1:i<l1.length:=by omega
    have hil2:i<l2.length:=by omega
    obtain⟨c1,hc1⟩:∃c1:List AV,c1=[.str rs1[i].left,w1,.int .i64 rs1[i].level]:=⟨_,rfl⟩
    obtain⟨c2,hc2⟩:∃c2:List AV,c2=[.str (rs2[i]'(by omega)).left,w2,.int .i64 (rs2[i]'(by omega)).level]:=⟨_,rfl⟩
    have ix1:Aa 3 v1 (.int .i64 (i:Int)) ⟨h,c+1,lo⟩=some (.BC l1[i].cells,⟨h,c+1,lo⟩):=h1.idx hil1
    have ce1:l1[i].cells=c1:=by rw[a1,hc1]; rfl
    rw[ce1] at ix1
    have rd1:AZ h (.BC c1) 3=some c1:=by rw[hc1]; rfl
    have n1:newObj c (.cells 68 3 [.str [],.AJ,.int .i64 0] false) ⟨h,c+1,lo⟩=some ⟨(c,.cells 68 3 [.str [],.AJ,.int .i64 0] false)::h,c+1,lo⟩:=Br tp'
    have t1:=CO (h:=h) (c:=c) (c':=c+1) (lo:=lo) (ty:=68) (n:=3) (zs:=[.str [],.AJ,.int .i64 0]) (vs:=c1) (by omega) (by rw[hc1]; rfl) rfl
    obtain⟨h',hh'⟩:∃h':Af,h'=(c,Ai.cells 68 3 c1 false)::h:=⟨_,rfl⟩
    rw[← hh'] at t1
    have tp1:top h'<=c+1:=by rw[hh',Bn]; omega
    have ix2:Aa 3 v2 (.int .i64 (i:Int)) ⟨h',c+1+1,lo⟩=some (.BC l2[i].cells,⟨h',c+1+1,lo⟩):=h2.idx hil2
    have ce2:l2[i].cells=c2:=by rw[b1,hc2]; rfl
    rw[ce2] at ix2
    have rd2:AZ h' (.BC c2) 3=some c2:=by rw[hc2]; rfl
    have n2:newObj (c+1) (.cells 68 3 [.str [],.AJ,.int .i64 0] false) ⟨h',c+1+1,lo⟩=some ⟨(c+1,.cells 68 3 [.str [],.AJ,.int .i64 0] false)::h',c+1+1,lo⟩:=Br tp1
    have t2:=CO (h:=h') (c:=c+1) (c':=c+1+1) (lo:=lo) (ty:=68) (n:=3) (zs:=[.str [],.AJ,.int .i64 0]) (vs:=c2) (by omega) (by rw[hc2]; rfl) rfl
    obtain⟨h'',hh''⟩:∃h'':Af,h''=(c+1,Ai.cells 68 3 c2 false)::h':=⟨_,rfl⟩
    rw[← hh''] at t2
    have tp2:top h''<=c+2:=by rw[hh'',Bn]; omega
    have r1:AZ h'' (.AO c 0) 3=some c1:=Ae (by rw[hh'',Bg (by omega),hh',Ce rfl]) (by rw[hc1]; rfl)
    have r2:AZ h'' (.AO (c+1) 0) 3=some c2:=Ae (by rw[hh'',Ce rfl]) (by rw[hc2]; rfl)
    have hcl:=pK (k:=k) (v1:=.agg c1) (v2:=.agg c2) (r1:=rs1[i]) (r2:=rs2[i]'(by omega)) (st:=⟨h'',c+1+1,lo⟩) ⟨w1,by rw[hc1],a2⟩ ⟨w2,by rw[hc2],b2⟩ (hs _ (List.getElem_mem Au)) tp2
    by_cases he:rs1[i]=rs2[i]'(by omega)
    ·rw[decide_eq_true he] at hcl
     simp[C.f98L0,z1,z2,z15,z16,z17,Au,ix1,-Aw,rd1,n1,t1,ix2,rd2,n2,t2,r1,r2,hcl,wi i]
     refine⟨i+1,by omega,by omega,tp2,by omega,by simp,?_⟩
     rw[List.take_succ_eq_append_getElem Au,List.take_succ_eq_append_getElem (show i<rs2.length by omega),htk,he]
    ·rw[decide_eq_false he] at hcl
     simp[C.f98L0,z1,z2,z15,z16,z17,Au,ix1,-Aw,rd1,n1,t1,ix2,rd2,n2,t2,r1,r2,hcl]
     intro e; subst e; exact he rfl
   ·have:i=rs1.length:=by omega
    subst this
    simp[C.f98L0,z1,z2,z15,z16,z17]
    rw[List.take_length,hl,List.take_length] at htk
    exact htk
  ·show rs1.length-0<1000000; omega
  ·exact⟨by omega,hb,hlo,by simp[e1],by simp⟩
  ·rintro⟨e,ts,st1⟩ hh
   rcases hh with⟨rfl,hh⟩|⟨rfl,h6,hh⟩
   ·simp[leave,results,AY,hh]
   ·simp only at h6
    simp[leave,results,AY,h6,hh]
 ·have hln:((l1.length:Int) != (l2.length:Int))=true:=by rw[e1,e2]; simp; omega
  have hlen1:∀S:St,BO .slice v1 S=some (.int .i64 (l1.length:Int),S):=fun S=>h1.len
  have hlen2:∀S:St,BO .slice v2 S=some (.int .i64 (l2.length:Int),S):=fun S=>h2.len
  have hne:rs1≠rs2:=fun e=>hl (by rw[e])
  simp[C.f98,hlen1,hlen2,hln,leave,results,AY,hne]
theorem RO {k:Nat}{v1 v2:AV}{g1 g2:AX}{st:St}(h1:BP v1 g1)(h2:BP v2 g2)(hs:g1.Small):AU E (k+4) 34 [v1,v2] st=.ret (.bool (decide (g1=g2)),st):=by
 have o1:=h1.Gi 0
 have o2:=h2.Gi 0
 obtain⟨kv1,rv1,l1,rfl,a1,a2,a3⟩:=h1
 obtain⟨kv2,rv2,l2,rfl,b1,b2,b3⟩:=h2
 rw[BZ (fn:=C.f34) rfl rfl rfl (oD o1 o2),Ad (by simp)]
 have hkn:=hs.kinds
 have hmany:=hs.many
 have n1:newObj 0 (.cells 29 3 [kv1,.str g1.start,rv1] false) ⟨[],2,0⟩=some ⟨[(0,.cells 29 3 [kv1,.str g1.start,rv1] false)],2,0⟩:=rfl
 obtain⟨h,hh⟩:∃h:Af,h=[(1,Ai.cells 29 3 [kv2,.str g2.start,rv2] false),(0,.cells 29 3 [kv1,.str g1.start,rv1] false)]:=⟨_,rfl⟩
 have n2:newObj 1 (.cells 29 3 [kv2,.str g2.start,rv2] false) ⟨[(0,.cells 29 3 [kv1,.str g1.start,rv1] false)],2,0⟩=some ⟨h,2,0⟩:=by rw[hh]; rfl
 have tp:top h<=2:=by rw[hh,Bn,Bn]; exact⟨by omega,by omega,Nat.zero_le _⟩
 have f0:AA h 0=some (.cells 29 3 [kv1,.str g1.start,rv1] false):=by rw[hh]; rfl
 have f1:AA h 1=some (.cells 29 3 [kv2,.str g2.start,rv2] false):=by rw[hh]; rfl
 have c0:AP h (.AO 0 0)=some kv1:=by rw[AB f0]; rfl
 have c1:AP h (.AO 0 1)=some (.str g1.start):=by rw[AB f0]; rfl
 have c2:AP h (.AO 0 2)=some rv1:=by rw[AB f0]; rfl
 have d0:AP h (.AO 1 0)=some kv2:=by rw[AB f1]; rfl
 have d1:AP h (.AO 1 1)=some (.str g2.start):=by rw[AB f1]; rfl
 have d2:AP h (.AO 1 2)=some rv2:=by rw[AB f1]; rfl
 have he:=JH (k:=k+2) (st:=⟨h,2,0⟩) (Reads.OI (h:=h) a1) (Reads.OI (h:=h) b1) (by omega)
 have hdec:decide (g1=g2)=(decide (g1.kinds=g2.kinds)&&((g1.start==g2.start)&&decide (g1.rules=g2.rules))):=by
  rw[Bool.eq_iff_iff]
  obtain⟨x1,x2,x3⟩:=g1
  obtain⟨y1,y2,y3⟩:=g2
  simp only[decide_eq_true_eq,Bool.and_eq_true,beq_iff_eq,AX.mk.injEq]
 have main:((Ar E (AU E (k+3)) C.f34.body (TS.CY [.agg [kv1,.str g1.start,rv1],.agg [kv2,.str g2.start,rv2]] 0 .nil) ⟨[],0,0⟩).bind (leave C.f34.results)).to fun x=>x.1=.bool (decide (g1=g2)):=by
  rw[hdec]
  cases e1:decide (g1.kinds=g2.kinds) with
  |false=>
   rw[e1] at he
   simp[C.f34,Az,Av,n1,n2,c0,d0,he,leave,results,AY]
  |true=>
   rw[e1] at he
   cases e2:(g1.start==g2.start) with
   |false=>simp[C.f34,Az,Av,n1,n2,c0,d0,c1,d1,e2,he,leave,results,AY]
   |true=>
    have hr:=TJ (k:=k) (st:=⟨h,2,0⟩) a2 b2 a3 b3 (fun r hr=>by have:=(hs.rules r hr).right; omega) (by omega) tp (Nat.zero_le _)
    simp[C.f34,Az,Av,n1,n2,c0,d0,c1,d1,c2,d2,e2,he,leave,results,AY]
    refine M.Al hr fun x hx=>?_
    obtain⟨w,S⟩:=x
    simp only at hx
    subst hx
    simp
 obtain⟨⟨w,S⟩,m1,m2⟩:=main
 simp only at m2
 subst m2
 rw[m1,M.CE]
 exact Ca rfl
theorem Qg {g:AX}(hok:g.Ok){K:List Aj}{Q:Aj->Prop}{p:Aj->Bool}(hK:∀x,x∈K↔Q x)(hQ:∀x,Q x->x∈g.kinds)(hp:∀x∈g.kinds,(p x=true↔Q x)):Di K=g.kinds.filter p:=by
 refine VD (NN K) (List.Pairwise.filter p hok.up) fun s=>?_
 rw[Hu,hK,List.mem_filter]
 exact⟨fun h=>⟨hQ s h,(hp s (hQ s h)).2 h⟩,fun⟨h1,h2⟩=>(hp s h1).1 h2⟩
def Ip:List AV:=[.str [115],.str [116],.str [117],.str [97],.str [98],.str [101],.str [110,117,109],.str [122,122]]
structure LS (cs:List AV)(vs:AV)(a:Int)(st:St)(w:AV)(L:List Aj):Prop where
 tp:top st.h<=st.c
 lo:st.lo=0
 c2:2<=st.c
 GX:AA st.h 0=some (.cells 25 2 [vs,.int .i64 a] false)
 g:AA st.h 1=some (.cells 29 3 cs false)
 sl:La st.h w L
 own:∀p,Ah w=some p->2<=p/\p<st.c
set_option maxHeartbeats 2000000 in
theorem nL {k:Nat}{cs:List AV}{vs:AV}{zs:List Int}(hv:CZ vs zs){n:Nat}(hn:n<=3){a:Int}(ha:0<=a/\a<=1000){st:St}(H:LS cs vs a st .AJ [])(ts0:TS)(z3:ts0.get 3=.AO 0 0)(z4:ts0.get 4=.AO 1 0)(z5:ts0.get 5=.AJ)(z30:ts0.get 30=.int .i64 (n:Int))(z31:ts0.get 31=.int .i64 ((0:Nat):Int)) :
 (CJ (Ar E (AU E (k+3)) C.f4L0) E.k ts0 st).to fun x=>x.1=.exit 0/\x.2.1.get 3=.AO 0 0/\x.2.1.get 4=.AO 1 0/\∃w L a',x.2.1.get 5=w/\LS cs vs a' x.2.2 w L/\L.length<=3/\0<=a'/\a'<=1003:=by
 refine Be (fun (i:Nat) ts st=>i<=n/\Has ts [(3,.AO 0 0),(4,.AO 1 0),(30,.int .i64 (n:Int)),(31,.int .i64 (i:Int))]/\∃w L,ts.get 5=w/\LS cs vs (a+(i:Int)) st w L/\L.length=i)
  (fun i=>n-i) ?_ _ 0 _ _ ?_ ?_
 ·clear z3 z4 z5 z30 z31 H
  rintro i ts ⟨h,c,lo⟩ ⟨hi,hts,w,L,z5,H,hL⟩
  simp only[Bi,CR,and_true] at hts
  obtain⟨z3,z4,z30,z31⟩:=hts
  by_cases Au:i<n
  ·have tp:top h<=c:=H.tp
   have hlo:lo=0:=H.lo
   subst hlo
   have c2:2<=c:=H.c2
   have hs0:AA h 0=some (.cells 25 2 [vs,.int .i64 (a+(i:Int))] false):=H.GX
   have ow:∀p,Ah w=some p->2<=p/\p<c:=H.own
   have hb8:Ay c 9 1 8 [.str [],.str [],.str [],.str [],.str [],.str [],.str [],.str []] [0,1,2,3,4,5,6,7] Ip=some (.AQ c 0 8 (some 8),.cells 9 1 Ip false):=by
    simp[Ip,Ay,blt_eq,beq_eq,ble_eq,BB,BM,AV.isTuple,AV.cells]
   simp only[Ip] at hb8
   have n1:newObj c (.cells 9 1 Ip false) ⟨h,c+3,0⟩=some ⟨(c,.cells 9 1 Ip false)::h,c+3,0⟩:=Br tp
   obtain⟨h1,hh1⟩:∃h1:Af,h1=(c,Ai.cells 9 1 Ip false)::h:=⟨_,rfl⟩
   rw[← hh1] at n1
   have f1:AA h1 c=some (.cells 9 1 Ip false):=by rw[hh1,Ce rfl]
   have s1:AA h1 0=some (.cells 25 2 [vs,.int .i64 (a+(i:Int))] false):=by rw[hh1,Bg (by omega)]; exact hs0
   have tp1:top h1<=c+1:=by rw[hh1,Bn]; omega
   have hsome:=PE (k:=k) (st:=⟨h1,c+3,0⟩) (o:=0) ⟨s1,Nat.le_refl _⟩ hv ⟨by omega,by omega⟩ (IQ (o:=0) (cap:=some 8) f1 (by omega)) (by simp[Ip]) (by simp[Ip])
   obtain⟨x,hx⟩:∃x:Aj,Ip.getD (Bd zs (a+(i:Int)+1) Ip.length).toNat .undef=.str x:=by
    have hm:=IW (zs:=zs) (a:=a+(i:Int)) (l:=Ip) (by simp[Ip])
    generalize Ip.getD (Bd zs (a+(i:Int)+1) Ip.length).toNat .undef=y at hm
    simp only[Ip,List.mem_cons,List.not_mem_nil,or_false] at hm
    rcases hm with rfl|rfl|rfl|rfl|rfl|rfl|rfl|rfl <;> exact⟨_,rfl⟩
   rw[hx] at hsome
   obtain⟨h2,hh2⟩:∃h2:Af,h2=Ab h1 0 (.cells 25 2 [vs,.int .i64 (a+(i:Int)+1)] false):=⟨_,rfl⟩
   have hsome':AU E (k+3) 22 [.AO 0 0,.AQ c 0 8 (some 8)] ⟨h1,c+3,0⟩=.ret (.str x,⟨h2,c+3,0⟩):=by rw[hh2]; exact hsome
   simp only[Ip] at n1
   have tp2:top h2<=c+1:=by rw[hh2,Fx]; exact tp1
   have fr2:∀p,p<c->p≠0->AA h2 p=AA h p:=fun p hp h0=>by rw[hh2,GQ (Ne.symm h0),hh1,Bg (by omega)]
   have s2:AA h2 0=some (.cells 25 2 [vs,.int .i64 (a+(i:Int)+1)] false):=by rw[hh2,Ja rfl,s1]; rfl
   have S2:La h2 w L:=H.sl.heap fun o ho=>fr2 o (ow o ho).2 (by have:=(ow o ho).1; omega)
   obtain⟨h3,p1,p2,p3,p4⟩:=bC (c:=c+1) (lo:=0) x (Fb tp2) S2 (fun p hp=>⟨Nat.zero_le _,by have:=(ow p hp).2; omega⟩) (by omega)
   have n3:newObj (c+1) (.cells 9 1 [.str x] false) ⟨h2,c+3,0⟩=some ⟨(c+1,.cells 9 1 [.str x] false)::h2,c+3,0⟩:=Br tp2
   have p1':BU (c+2) 9 1 16 w (.AQ (c+1) 0 1 (some 1)) ⟨(c+1,.cells 9 1 [.str x] false)::h2,c+3,0⟩=some (.AQ (c+2) 0 (L.length+1) none,⟨h3,c+3,0⟩):=p1
   simp[C.f4L0,z3,z4,z5,z30,z31,Au,hb8,n1,hsome',YY,n3,p1',wi i]
   refine⟨i+1,by omega,by omega,by simp,L++[x],⟨HB.top p2,rfl,by show 2<=c+3; omega,?_,?_,?_,fun p hp=>?_⟩,by rw[List.length_append,hL]; rfl⟩
   ·show AA h3 0=_
    rw[p4 0 (by omega) (fun e=>by have:=(ow 0 e).1; omega),s2]
    simp; omega
   ·show AA h3 1=_
    rw[p4 1 (by omega) (fun e=>by have:=(ow 1 e).1; omega),fr2 1 (by omega) (by omega)]; exact H.g
   ·have:=La.ob (h:=h3) (c+2) (L++[x]) (by simp) p3
    rwa [List.length_append] at this
   ·simp only[Ah,Option.some.injEq] at hp
    subst hp
    exact⟨by omega,by show c+2<c+3; omega⟩
  ·have:i=n:=by omega
   subst this
   simp[C.f4L0,z3,z4,z5,z30,z31]
   exact⟨L,a+(i:Int),H,by omega,by omega,by omega⟩
 ·show n-0<1000000; omega
 ·exact⟨by omega,by simp[z3,z4,z30,z31],.AJ,[],z5,by simpa using H,rfl⟩
structure LB (cs cc wc:List AV)(o14 o23:Nat)(w:AV)(L:List Aj)(st:St):Prop where
 tp:top st.h<=st.c
 lo:st.lo=0
 g:AA st.h 1=some (.cells 29 3 cs false)
 wZ:AA st.h o14=some (.cells 29 3 cc false)
 vY:AA st.h o23=some (.cells 29 3 wc false)
 sl:La st.h w L
 own:∀p,Ah w=some p->p<st.c
 wT:1<st.c
 qB:o14<st.c
 qA:o23<st.c
theorem LB.over {cs cc wc:List AV}{o14 o23:Nat}{w:AV}{L:List Aj}{st st':St}(H:LB cs cc wc o14 o23 w L st)(O:Ma st st'):LB cs cc wc o14 o23 w L st':=
 ⟨HB.top (lo:=st'.lo) O.hb,O.lo.trans H.lo,(O.fr 1 H.wT).trans H.g,(O.fr _ H.qB).trans H.wZ,(O.fr _ H.qA).trans H.vY,H.sl.heap fun o ho=>O.fr o (H.own o ho),fun p hp=>Nat.lt_of_lt_of_le (H.own p hp) O.c,Nat.lt_of_lt_of_le H.wT O.c,Nat.lt_of_lt_of_le H.qB O.c,Nat.lt_of_lt_of_le H.qA O.c⟩
theorem Rx {k:Nat}{b:Bool}{st:St}:AU E (k+1) 26 [.bool b,.int .i64 8] st=.ret (.int .i64 (if b=true then 8 else 0),st):=by
 rw[Ap (fn:=C.f26) rfl rfl rfl,Ad (by simp)]
 cases b <;> simp[C.f26,leave,results,AY]
theorem pX {k:Nat}{cs:List AV}{g:AX}(hg:BP (.agg cs) g)(hs:g.Small){x:Aj}{st:St}(hb:top st.h<=st.c)(h3:cs.length=3)(hf:AA st.h 1=some (.cells 29 3 cs false)):AU E (k+7) 28 [.str x,.AO 1 0] st=.ret (.bool (!g.sym x),st):=by
 rw[BS (fn:=C.f28) rfl rfl rfl,Ad (by simp)]
 have r:AZ st.h (.AO 1 0) 3=some cs:=Ae hf h3
 have hc:=SB (k:=k) (x:=x) (st:=⟨st.h,st.c,st.c⟩) hg hs (Fb hb)
 simp[C.f28,r,hc,leave,results,AY]
theorem UJ {g:AX}{s:Aj}:g.sym s=true↔s∈g.names:=by
 unfold AX.sym AX.names
 rw[Bool.or_eq_true,decide_eq_true_eq,List.mem_append,AX.IM]
theorem Lb:BP Rv ⟨[],[],[]⟩:=⟨.AJ,.AJ,[],rfl,⟨.inl ⟨rfl,rfl⟩⟩,⟨.inl ⟨rfl,rfl⟩⟩,.nil⟩
theorem Ru:(⟨[],[],[]⟩:AX).Small:=⟨by simp,by simp,by simp,by simp,by simp⟩
def OV (w a b:AV)(one:Aj)(is en:Bool)(e f h flt:Int)(o14 o23:Nat):List (Nat × AV):=[(4,.AO 1 0),(5,w),(6,.str one),(7,.int .i64 flt),(8,a),(9,.bool is),(10,.int .i64 e),(11,b),(12,.bool en),(13,.int .i64 f),(14,.AO o14 0),(15,.int .i64 h),(23,.AO o23 0)]
def RH (a b:AV):Prop:=∃l:List Aj,l.length<1000000/\BI a 1 (strs l)/\BI b 1 (strs l)
theorem NU:RH .AJ .AJ:=⟨[],by simp,⟨.inl ⟨rfl,rfl⟩⟩,⟨.inl ⟨rfl,rfl⟩⟩⟩
structure BQ (cs cc:List AV)(w a b:AV)(one:Aj)(L:List Aj)(is en:Bool)(e f h flt:Int)(o14 o23:Nat)(ts:TS)(st:St):Prop where
 sl:Has ts (OV w a b one is en e f h flt o14 o23)
 t16:ts.get 16=.int .i64 e
 t17:ts.get 17=.int .i64 f
 t18:ts.get 18=.int .i64 h
 xQ:RH a (ts.get 19)
 xP:RH b (ts.get 20)
 t21:ts.get 21=.bool is
 t22:ts.get 22=.bool en
 gr:∃wc gc,LB cs cc wc o14 o23 w L st/\wc.length=3/\gc.Small/\BP (.agg cc) gc/\BP (.agg wc) gc
def qi:Ag:=match C.f4.body with
 |.seq _ (.seq _ (.seq _ (.seq _ (.seq _ (.seq _ (.seq _ (.seq _ (.seq _ (.seq _ (.seq _ (.seq _ (.seq _ (.seq _ (.seq (.seq _ (.cond _ x _)) _))))))))))))))=>x
 |_=>.skip
set_option maxHeartbeats 4000000 in
theorem qh {m:Nat}{kv rv:AV}{g:AX}{cc:List AV}{w a b:AV}{one:Aj}{L:List Aj}{is en:Bool}{e f h:Int}{o14 o23:Nat}(hg:BP (.agg [kv,.str g.start,rv]) g)(hs:g.Small)(hz:g.fault=0)(hL:L.length<=3)(A1:Td g L a is e)(A2:VC g one b en f)(A3:cB g (.agg cc) h)(h23:o23≠1)(h123:o14≠o23)(hw23:Ah w≠some o23)(ts:TS)(st:St)(H:LB [kv,.str g.start,rv] cc [.AJ,.str [],.AJ] o14 o23 w L st)(hts:Has ts (OV w a b one is en e f h 0 o14 o23))(z19:ts.get 19=.AJ)(z20:ts.get 20=.AJ)(z21:ts.get 21=.bool false)(z22:ts.get 22=.bool false) :
 (Ar E (AU E (m+30)) qi ts st).to fun x=>x.1=.normal/\BQ [kv,.str g.start,rv] cc w a b one L is en e f h 0 o14 o23 x.2.1 x.2.2:=by
 have hok:=AX.ok hz
 have hkn:=hs.kinds
 have hmany:=hs.many
 have hlefts:=g.Fj
 have rd:∀{st wc},LB [kv,.str g.start,rv] cc wc o14 o23 w L st->AZ st.h (.AO 1 0) 3=some [kv,.str g.start,rv]:=fun H=>Ae H.g rfl
 refine FP (Q:=fun x=>x.1=.normal/\Has x.2.1 ((16,.int .i64 e)::(19,.AJ)::(20,.AJ)::(21,.bool false)::(22,.bool false)::OV w a b one is en e f h 0 o14 o23)/\LB [kv,.str g.start,rv] cc [.AJ,.str [],.AJ] o14 o23 w L x.2.2) ?_ fun x hx=>?_
 ·simp only[OV,Bi,CR,and_true] at hts
  obtain⟨z4,z5,z6,z7,z8,z9,z10,z11,z12,z13,z14,z15,z23⟩:=hts
  have hc:=Hf (k:=m+28) (n:=L.length) (fc:=28) (w:=w) (a:=[]) (b:=[.AO 1 0]) (el:=fun i=>L.getD i []) (p:=fun i=>!g.sym (L.getD i [])) (st:=⟨st.h,st.c,st.lo⟩) H.sl.len (by omega) (fun i hi=>by
   obtain⟨q,a1,b1⟩:=H.sl.reads.at_ i hi ⟨st.h,st.c,st.lo⟩ rfl
   exact⟨q,a1,by rw[b1]; simp[List.getD,hi]⟩) (fun i hi=>pX (k:=m+21) hg hs H.tp rfl H.g)
  have hw:e=if decide (∃i,i<L.length/\(!g.sym (L.getD i []))=true)=true then 8 else 0:=by
   by_cases hb:∃s∈L,s∉g.names
   ·rw[if_pos,(A1.none_ hz hb).2.2]
    obtain⟨s,h1,h2⟩:=hb
    obtain⟨i,hi,rfl⟩:=List.getElem_of_mem h1
    rw[decide_eq_true_eq]
    refine⟨i,hi,?_⟩
    have:g.sym L[i]=false:=by
     cases hq:g.sym L[i] with
     |false=>rfl
     |true=>exact absurd (UJ.1 hq) h2
    simp[List.getD,hi,this]
   ·have hb':∀s∈L,s∈g.names:=fun s hs=>Decidable.not_not.1 fun h=>hb ⟨s,hs,h⟩
    rw[if_neg,(A1.Mw hz hb').1]
    rw[decide_eq_true_eq]
    rintro⟨i,hi,hq⟩
    have:=UJ.2 (hb' _ (List.getElem_mem hi))
    simp[List.getD,hi,this] at hq
  generalize decide (∃i,i<L.length/\(!g.sym (L.getD i []))=true)=d at hc hw
  simp only[St.eta] at hc
  simp[z4,z5,hc,Rx,← hw,OV,z6,z7,z8,z9,z10,z11,z12,z13,z14,z15,z19,z20,z21,z22,z23]
  exact H
 obtain⟨e1,ts,st⟩:=x
 obtain⟨ee,hts,H⟩:=hx
 simp only at ee hts H
 refine⟨ee,?_⟩
 clear ee z19 z20 z21 z22
 refine FP (Q:=fun x=>x.1=.normal/\Has x.2.1 ((17,.int .i64 f)::(16,.int .i64 e)::(19,.AJ)::(20,.AJ)::(21,.bool false)::(22,.bool false)::OV w a b one is en e f h 0 o14 o23)/\LB [kv,.str g.start,rv] cc [.AJ,.str [],.AJ] o14 o23 w L x.2.2) ?_ fun x hx=>?_
 ·simp only[OV,Bi,CR,and_true] at hts
  obtain⟨z16,z19,z20,z21,z22,z4,z5,z6,z7,z8,z9,z10,z11,z12,z13,z14,z15,z23⟩:=hts
  simp[z4,rd H]
  refine M.Al (Qs (k:=m+24) (st:=st) hg hs (AX.Ml hok) (Fb (lo:=st.lo) H.tp) (by rw[H.lo]; exact Nat.zero_le _)) fun x hx=>?_
  obtain⟨w9,st2⟩:=x
  obtain⟨O,id,_,_,G⟩:=hx
  simp only at O G
  have hcon:=Ii (k:=m+28) (x:=one) (st:=st2) G.reads (by omega)
  have hw:f=if (!decide (one∈g.CB))=true then 8 else 0:=by
   by_cases ho:one∈g.CB
   ·rw[decide_eq_true ho,(A2.Mw hz ho).1]; rfl
   ·rw[decide_eq_false ho,(A2.none_ hz ho).2.2]; rfl
  generalize decide (one∈g.CB)=d at hcon hw
  simp[z6,hcon,Rx,hw,OV,z4,z5,z7,z8,z9,z10,z11,z12,z13,z14,z15,z16,z19,z20,z21,z22,z23]
  exact H.over O
 obtain⟨e1,ts,st⟩:=x
 obtain⟨ee,hts,H⟩:=hx
 simp only at ee hts H
 refine⟨ee,?_⟩
 clear ee
 refine FP (Q:=fun x=>x.1=.normal/\Has x.2.1 ((18,.int .i64 h)::(17,.int .i64 f)::(16,.int .i64 e)::(19,.AJ)::(20,.AJ)::(21,.bool false)::(22,.bool false)::OV w a b one is en e f h 0 o14 o23)/\LB [kv,.str g.start,rv] cc [.AJ,.str [],.AJ] o14 o23 w L x.2.2) ?_ fun x hx=>?_
 ·simp only[OV,Bi,CR,and_true] at hts
  obtain⟨z17,z16,z19,z20,z21,z22,z4,z5,z6,z7,z8,z9,z10,z11,z12,z13,z14,z15,z23⟩:=hts
  obtain⟨wb,p,e1,e2,e3⟩:=WC (k:=m+17) (st:=st) hg hs (AX.Ml hok)
  have hfl:(g.CB.filter fun s=>!p s).length<1000000:=by have:=List.length_filter_le (fun s=>!p s) g.CB; omega
  have hcon:=Ih (k:=m+28) (x:=g.start) (st:=st) e2 hfl
  have hw:h=if decide (g.start∈g.CB.filter fun s=>!p s)=true then 8 else 0:=by
   by_cases hf:Md g g.start
   ·have hp:=(e3 _).2 hf
    rw[if_neg,(A3.Mw hz hf).1]
    rw[decide_eq_true_eq,List.mem_filter]
    rintro⟨_,h2⟩
    rw[hp] at h2; cases h2
   ·have hp:p g.start=false:=by
     cases hq:p g.start with
     |false=>rfl
     |true=>exact absurd ((e3 _).1 hq) hf
    rw[if_pos,(A3.none_ hz hf).2]
    rw[decide_eq_true_eq,List.mem_filter]
    exact⟨hok.start,by rw[hp]; rfl⟩
  generalize decide (g.start∈g.CB.filter fun s=>!p s)=d at hcon hw
  have r1:AP st.h (.AO 1 1)=some (.str g.start):=by rw[AB H.g]; rfl
  simp[z4,rd H,r1,De,Dx,Cf,CV,Cv,beq_eq,AV.Cx,e1,hcon,Rx,hw,OV,z5,z6,z7,z8,z9,z10,z11,z12,z13,z14,z15,z16,z17,z19,z20,z21,z22,z23]
  exact H
 obtain⟨e1,ts,st⟩:=x
 obtain⟨ee,hts,H⟩:=hx
 simp only at ee hts H
 refine⟨ee,?_⟩
 clear ee
 refine FP (Q:=fun x=>x.1=.normal/\Has x.2.1 ((18,.int .i64 h)::(17,.int .i64 f)::(16,.int .i64 e)::(20,.AJ)::(21,.bool is)::(22,.bool false)::OV w a b one is en e f h 0 o14 o23)/\RH a (x.2.1.get 19)/\LB [kv,.str g.start,rv] cc [.AJ,.str [],.AJ] o14 o23 w L x.2.2) ?_ fun x hx=>?_
 ·simp only[OV,Bi,CR,and_true] at hts
  obtain⟨z18,z17,z16,z19,z20,z21,z22,z4,z5,z6,z7,z8,z9,z10,z11,z12,z13,z14,z15,z23⟩:=hts
  by_cases hb:∃s∈L,s∉g.names
  ·obtain⟨q1,q2,q3⟩:=A1.none_ hz hb
   simp[z16,q3,OV,z4,z5,z6,z7,z8,z9,z10,z11,z12,z13,z14,z15,z17,z18,z19,z20,z21,z22,z23,q1,q2]
   exact⟨NU,H⟩
  ·have hb':∀s∈L,s∈g.names:=fun s hs=>Decidable.not_not.1 fun h=>hb ⟨s,hs,h⟩
   obtain⟨q1,⟨p,q2,q3⟩,q4⟩:=A1.Mw hz hb'
   obtain⟨K,d,r1,r2,r3,r4⟩:=Oq (k:=m+8) (base:=w) (l:=L) (st:=st) hg hs hok (Fb (lo:=st.lo) H.tp) (fun h' hh=>(H.sl.heap fun o ho=>hh o (H.own o ho)).reads) (by omega) (fun s hs=>List.mem_append.1 (hb' s hs))
   have hd:d=is:=by rw[Bool.eq_iff_iff,r4,q4]
   have hK:=Qg hok r3 (fun x h=>h.kinds) q2
   have hsl:RH a (Ia K):=⟨g.kinds.filter p,by have:=List.length_filter_le p g.kinds; omega,q3,hK ▸ Ky K⟩
   simp[z16,q1,rd H,r1,OV,z4,z5,z6,z7,z8,z9,z10,z11,z12,z13,z14,z15,z17,z18,z19,z20,z21,z22,z23,hd]
   exact⟨hsl,H⟩
 obtain⟨e1,ts,st⟩:=x
 obtain⟨ee,hts,hSa,H⟩:=hx
 simp only at ee hts hSa H
 refine⟨ee,?_⟩
 clear ee
 refine FP (Q:=fun x=>x.1=.normal/\Has x.2.1 ((18,.int .i64 h)::(17,.int .i64 f)::(16,.int .i64 e)::(21,.bool is)::(22,.bool en)::OV w a b one is en e f h 0 o14 o23)/\RH a (x.2.1.get 19)/\RH b (x.2.1.get 20)/\LB [kv,.str g.start,rv] cc [.AJ,.str [],.AJ] o14 o23 w L x.2.2) ?_ fun x hx=>?_
 ·simp only[OV,Bi,CR,and_true] at hts
  obtain⟨z18,z17,z16,z20,z21,z22,z4,z5,z6,z7,z8,z9,z10,z11,z12,z13,z14,z15,z23⟩:=hts
  by_cases ho:one∈g.CB
  ·obtain⟨q1,⟨p,q2,q3⟩,q4⟩:=A2.Mw hz ho
   obtain⟨K,d,r1,r2,r3,r4⟩:=Vj (k:=m+7) (st:=st) hg hs hok ho
   have hd:d=en:=by rw[Bool.eq_iff_iff,r4,q4]
   have hK:=Qg hok r3 (fun x h=>h.kinds) q2
   have hsl:RH b (Ia K):=⟨g.kinds.filter p,by have:=List.length_filter_le p g.kinds; omega,q3,hK ▸ Ky K⟩
   simp[z17,q1,rd H,r1,OV,z4,z5,z6,z7,z8,z9,z10,z11,z12,z13,z14,z15,z16,z18,z20,z21,z22,z23,hd]
   exact⟨hSa,hsl,H⟩
  ·obtain⟨q1,q2,q3⟩:=A2.none_ hz ho
   simp[z17,q3,OV,z4,z5,z6,z7,z8,z9,z10,z11,z12,z13,z14,z15,z16,z18,z20,z21,z22,z23,q1,q2]
   exact⟨hSa,NU,H⟩
 obtain⟨e1,ts,st⟩:=x
 obtain⟨ee,hts,hSa,hSb,H⟩:=hx
 simp only at ee hts hSa hSb H
 refine⟨ee,?_⟩
 clear ee
 simp only[OV,Bi,CR,and_true] at hts
 obtain⟨z18,z17,z16,z21,z22,z4,z5,z6,z7,z8,z9,z10,z11,z12,z13,z14,z15,z23⟩:=hts
 by_cases hf:Md g g.start
 ·obtain⟨q1,q2⟩:=A3.Mw hz hf
  obtain⟨v,r1,r2⟩:=Tf (k:=m+17) (st:=st) hg hs hok hf
  have r2':=r2
  obtain⟨k2,v2,l2,rfl,_⟩:=r2
  have hst:g.trim.start=g.start:=rfl
  rw[hst] at r1 r2'
  have s1:Bc 3 (.AO o23 0) (.agg [k2,.str g.start,v2]) st=some (.undef,⟨Ab st.h o23 (.cells 29 3 [k2,.str g.start,v2] false),st.c,st.lo⟩):=by
   rw[show st=⟨st.h,st.c,st.lo⟩ from rfl,IK]
   simp only[H.vY]
   simp[AV.isTuple,AV.cells,H.lo]
  have H2:LB [kv,.str g.start,rv] cc [k2,.str g.start,v2] o14 o23 w L ⟨Ab st.h o23 (.cells 29 3 [k2,.str g.start,v2] false),st.c,st.lo⟩:=
   ⟨by show top (Ab _ _ _)<=st.c; rw[Fx]; exact H.tp,H.lo,(GQ h23).trans H.g,(GQ (Ne.symm h123)).trans H.wZ,by show AA (Ab _ _ _) o23=_; rw[Ja rfl,H.vY]; rfl,H.sl.heap fun o ho=>GQ fun e=>hw23 (e ▸ ho),H.own,H.wT,H.qB,H.qA⟩
  simp[z18,q1,z4,z23,rd H,r1,s1]
  exact⟨by simp[OV,z5,z6,z7,z8,z9,z10,z11,z12,z13,z14,z15,z4,z23,q1],by simp[z16],by simp[z17],by simp[z18,q1],by simpa using hSa,by simpa using hSb,by simp[z21],by simp[z22],_,g.trim,H2,rfl,AX.Lu (AX.Lu hs _) _,q2,r2'⟩
 ·obtain⟨q1,q2⟩:=A3.none_ hz hf
  have q1':cc=[.AJ,.str [],.AJ]:=by unfold Rv at q1; injection q1
  simp[z18,q2]
  exact⟨by simp[OV,z5,z6,z7,z8,z9,z10,z11,z12,z13,z14,z15,z4,z23,q2],by simp[z16],by simp[z17],by simp[z18,q2],by simpa using hSa,by simpa using hSb,by simp[z21],by simp[z22],_,_,H,rfl,Ru,q1 ▸ Lb,Lb⟩
theorem La.one {h:Af}{w:AV}{L:List Aj}(H:La h w L):w.isTuple=false/\w.cells=[w]:=by cases H <;> exact⟨rfl,rfl⟩
def JS:List AV:=[.str [115],.str [116],.str [117],.str [101],.str [120],.str [97]]
theorem xR (b:Bool):YA false (.key (.one .bool)) (.bool b) (.bool b)=some (.bool true):=by cases b <;> rfl
set_option maxHeartbeats 8000000 in
theorem eT {F m:Nat}(hF:F=m+30){v:AV}{zs:List Int}(hv:CZ v zs)(hany:∀{st:St},Ko st 0 v 0->0<st.c->HB st->HO st->st.lo<=0->∃w g a st',AU E F 6 [.AO 0 0] st=.ret (w,st')/\st'.c=st.c/\CW st.c 0 v (0+a) st st'/\BP w g/\g.Small/\0<=a/\a<=200)(hready:∀st,(AU E F 20 [] st).all fun r=>r=(.bool true,st)) :
 (Ar E (AU E F) C.f4.body (TS.CY [v] 0 .nil) ⟨[],0,0⟩).all fun x=>x.1=.ret/\x.2.1.get 2=.bool true:=by
 have hone:v.isTuple=false/\v.cells=[v]:=Sv hv.sl
 have hold:∀c,v.Bw c=true:=fun c=>by
  rcases hv.sl.out with⟨rfl,_⟩|⟨t,rfl⟩
  ·rfl
  ·refine JE fun x hx=>?_
   obtain⟨z,_,rfl⟩:=List.mem_map.1 hx; rfl
 have hfill:BB [.AJ,.int .i64 0] [(0,1)] [v]=some [v,.int .i64 0]:=by
  simp[BB,hone.1,hone.2,beq_eq,ble_eq,BM]
 obtain⟨h1,hh1⟩:∃h:Af,h=[(0,Ai.cells 25 2 [v,.int .i64 0] false)]:=⟨_,rfl⟩
 have n1:newObj 0 (.cells 25 2 [v,.int .i64 0] false) ⟨[],1,0⟩=some ⟨h1,1,0⟩:=by rw[hh1]; rfl
 have hmem:∀p x,(p,x)∈h1->p=0/\x=.cells 25 2 [v,.int .i64 0] false:=fun p x hp=>by rw[hh1] at hp; simpa using hp
 obtain⟨w,g,a,st2,e1,e2,K,hg,hs,ha0,ha1⟩:=hany (st:=⟨h1,2,0⟩) ⟨by show AA h1 0=_; rw[hh1]; rfl,Nat.le_refl _⟩ (by show 0<2; omega) (fun p x hp=>by rw[(hmem p x hp).1]; show 0<2; omega) (fun p x hp=>by
  rw[(hmem p x hp).2]; simp[Ai.Bw,AV.CL,hold,AV.Bw]) (Nat.le_refl _)
 refine Ff (Q:=fun x=>x.1=.normal/\x.2.1.get 0=v/\x.2.2=⟨[],0,0⟩) (by simp) fun x hx=>?_
 obtain⟨e,ts1,st1⟩:=x
 obtain⟨ee,z0,hst⟩:=hx
 simp only at ee z0 hst
 refine⟨ee,?_⟩
 subst hst
 refine Ff (Q:=fun x=>x.1=.normal/\x.2.1.get 3=.AO 0 0/\x.2.2=⟨h1,1,0⟩) (by simp[z0,hfill,n1]) fun x hx=>?_
 obtain⟨e,ts2,st1⟩:=x
 obtain⟨ee,z3,hst⟩:=hx
 simp only at ee z3 hst
 refine⟨ee,?_⟩
 subst hst
 obtain⟨h2,c2,lo2⟩:=st2
 simp only at e2
 subst e2
 have hlo2:lo2=0:=K.lo
 subst hlo2
 obtain⟨kv,rv,l,rfl,hgr⟩:=hg
 have hG:BP (.agg [kv,.str g.start,rv]) g:=⟨kv,rv,l,rfl,hgr⟩
 have hno1:∀p x,(p,x)∈h2->p≠1:=fun p x hp e=>by
  subst e
  rcases K.mem 1 x hp (by show 1<2; omega) with h|h
  ·have:=(hmem 1 x h).1; omega
  ·omega
 obtain⟨h3,q1,q2,q3,q4⟩:=Fh (y:=.cells 29 3 [.AJ,.str [],.AJ] false) hno1 K.hb (by show 1<2; omega)
 have f3:AA h3 1=some (.cells 29 3 [.AJ,.str [],.AJ] false):=by rw[q2,if_pos rfl]
 have s3:=Cq (st:=⟨h3,2,0⟩) (n:=3) (vs:=[kv,.str g.start,rv]) f3 (Nat.zero_le _) rfl rfl
 obtain⟨h4,hh4⟩:∃h4,h4=Ab h3 1 (.cells 29 3 [kv,.str g.start,rv] false):=⟨_,rfl⟩
 rw[← hh4] at s3
 have tp4:top h4<=2:=by rw[hh4,Fx]; exact HB.top q3
 have f4:AA h4 1=some (.cells 29 3 [kv,.str g.start,rv] false):=by rw[hh4,Ja rfl,f3]; rfl
 have s40:AA h4 0=some (.cells 25 2 [v,.int .i64 (0+a)] false):=by rw[hh4,GQ (by omega),q2,if_neg (by omega)]; exact K.GX
 refine Ff (Q:=fun x=>x.1=.normal/\x.2.1.get 3=.AO 0 0/\x.2.1.get 4=.AO 1 0/\x.2.2=⟨h4,2,0⟩) (by simp[z3,e1,q1,s3]) fun x hx=>?_
 obtain⟨e,ts3,st1⟩:=x
 obtain⟨ee,z3,z4,hst⟩:=hx
 simp only at ee z3 z4 hst
 refine⟨ee,?_⟩
 subst hst
 refine Ff (Q:=fun x=>x.1=.normal/\x.2.1.get 3=.AO 0 0/\x.2.1.get 4=.AO 1 0/\x.2.1.get 5=.AJ/\x.2.2=⟨h4,2,0⟩) (by simp[z3,z4]) fun x hx=>?_
 obtain⟨e,ts4,st1⟩:=x
 obtain⟨ee,z3,z4,z5,hst⟩:=hx
 simp only at ee z3 z4 z5 hst
 refine⟨ee,?_⟩
 subst hst
 have hrange:=UN (k:=m+27) (st:=⟨h4,2,0⟩) (o:=0) (v:=v) (zs:=zs) (a:=0+a) ⟨s40,Nat.le_refl _⟩ hv ⟨by omega,by omega⟩ (l:=0) (u:=3) (by omega) (by omega) (by omega)
 have hnr:=DX (zs:=zs) (a:=0+a+1) (n:=3-0+1) (by omega)
 obtain⟨n,hn⟩:∃n:Nat,0+Bd zs (0+a+1) (3-0+1)=n:=⟨(0+Bd zs (0+a+1) (3-0+1)).toNat,by omega⟩
 have hn3:n<=3:=by omega
 rw[hn] at hrange
 obtain⟨h5,hh5⟩:∃h5:Af,h5=Ab h4 0 (.cells 25 2 [v,.int .i64 (0+a+1)] false):=⟨_,rfl⟩
 have hrange':AU E F 21 [.AO 0 0,.int .i64 0,.int .i64 3] ⟨h4,2,0⟩=.ret (.int .i64 (n:Int),⟨h5,2,0⟩):=by rw[hh5,hF]; exact hrange
 have LS0:LS [kv,.str g.start,rv] v (0+a+1) ⟨h5,2,0⟩ .AJ []:=⟨by show top h5<=2; rw[hh5,Fx]; exact tp4,rfl,Nat.le_refl _,by show AA h5 0=_; rw[hh5,Ja rfl,s40]; rfl,by show AA h5 1=_; rw[hh5,GQ (by omega)]; exact f4,.nl,fun p hp=>by cases hp⟩
 have hlist:=nL (k:=m+27) hv hn3 (a:=0+a+1) ⟨by omega,by omega⟩ LS0
 rw[show m+27+3=F by omega] at hlist
 refine Ff (Q:=fun x=>x.1=.normal/\x.2.1.get 3=.AO 0 0/\x.2.1.get 4=.AO 1 0/\∃w L a',x.2.1.get 5=w/\LS [kv,.str g.start,rv] v a' x.2.2 w L/\L.length<=3/\0<=a'/\a'<=1003) ?_ fun x hx=>?_
 ·simp[z3,z4,z5,hrange']
  refine M.Al (hlist _ (by simp[z3]) (by simp[z4]) (by simp[z5]) (by simp) (by simp)) fun x hx=>?_
  obtain⟨e,ts5,st5⟩:=x
  obtain⟨ee,y3,y4,w,L,a',y5,H⟩:=hx
  simp only at ee y3 y4 y5
  subst ee
  simp[y3,y4,y5]
  exact⟨L,a',H⟩
 obtain⟨e,ts5,⟨h6,c6,lo6⟩⟩:=x
 obtain⟨ee,z3,z4,w,L,a',z5,H6,hL,hb0,hb1⟩:=hx
 simp only at ee z3 z4 z5 H6
 refine⟨ee,?_⟩
 have hl6:lo6=0:=H6.lo
 subst hl6
 have tp6:top h6<=c6:=H6.tp
 have hc6:2<=c6:=H6.c2
 have s60:AA h6 0=some (.cells 25 2 [v,.int .i64 a'] false):=H6.GX
 have ow6:∀p,Ah w=some p->2<=p/\p<c6:=H6.own
 have hb6:Ay c6 9 1 6 [.str [],.str [],.str [],.str [],.str [],.str []] [0,1,2,3,4,5] JS=some (.AQ c6 0 6 (some 6),.cells 9 1 JS false):=by
  simp[JS,Ay,blt_eq,beq_eq,ble_eq,BB,BM,AV.isTuple,AV.cells]
 have n6:newObj c6 (.cells 9 1 JS false) ⟨h6,c6+1,0⟩=some ⟨(c6,.cells 9 1 JS false)::h6,c6+1,0⟩:=Br tp6
 obtain⟨h7,hh7⟩:∃h7:Af,h7=(c6,Ai.cells 9 1 JS false)::h6:=⟨_,rfl⟩
 rw[← hh7] at n6
 have f7:AA h7 c6=some (.cells 9 1 JS false):=by rw[hh7,Ce rfl]
 have s70:AA h7 0=some (.cells 25 2 [v,.int .i64 a'] false):=by rw[hh7,Bg (by omega)]; exact s60
 have hsome:=PE (k:=m+27) (st:=⟨h7,c6+1,0⟩) (o:=0) ⟨s70,Nat.le_refl _⟩ hv ⟨by omega,by omega⟩ (IQ (o:=0) (cap:=some 6) f7 (by omega)) (by simp[JS]) (by simp[JS])
 obtain⟨one,hx⟩:∃x:Aj,JS.getD (Bd zs (a'+1) JS.length).toNat .undef=.str x:=by
  have hm:=IW (zs:=zs) (a:=a') (l:=JS) (by simp[JS])
  generalize JS.getD (Bd zs (a'+1) JS.length).toNat .undef=y at hm
  simp only[JS,List.mem_cons,List.not_mem_nil,or_false] at hm
  rcases hm with rfl|rfl|rfl|rfl|rfl|rfl <;> exact⟨_,rfl⟩
 rw[hx] at hsome
 obtain⟨h8,hh8⟩:∃h8:Af,h8=Ab h7 0 (.cells 25 2 [v,.int .i64 (a'+1)] false):=⟨_,rfl⟩
 have hsome':AU E F 22 [.AO 0 0,.AQ c6 0 6 (some 6)] ⟨h7,c6+1,0⟩=.ret (.str one,⟨h8,c6+1,0⟩):=by rw[hh8,hF]; exact hsome
 simp only[JS] at n6 hb6
 have tp8:top h8<=c6+1:=by rw[hh8,Fx,hh7,Bn]; omega
 have fr8:∀p,p<c6->p≠0->AA h8 p=AA h6 p:=fun p hp h0=>by rw[hh8,GQ (Ne.symm h0),hh7,Bg (by omega)]
 have f81:AA h8 1=some (.cells 29 3 [kv,.str g.start,rv] false):=by rw[fr8 1 (by omega) (by omega)]; exact H6.g
 have S8:La h8 w L:=H6.sl.heap fun o ho=>fr8 o (ow6 o ho).2 (by have:=(ow6 o ho).1; omega)
 refine Ff (Q:=fun x=>x.1=.normal/\x.2.1.get 4=.AO 1 0/\x.2.1.get 5=w/\x.2.1.get 6=.str one/\x.2.2=⟨h8,c6+1,0⟩) (by simp[z3,z4,z5,hb6,n6,hsome']) fun x hx=>?_
 obtain⟨e,ts6,st1⟩:=x
 obtain⟨ee,z4,z5,z6,hst⟩:=hx
 simp only at ee z4 z5 z6 hst
 refine⟨ee,?_⟩
 subst hst
 have rg:AZ h8 (.AO 1 0) 3=some [kv,.str g.start,rv]:=Ae f81 rfl
 have hfault:=Tt (k:=m+23) (st:=⟨h8,c6+1,0⟩) hG hs
 rw[show m+23+7=F by omega] at hfault
 refine Ff (Q:=fun x=>x.1=.normal/\Has x.2.1 [(4,.AO 1 0),(5,w),(6,.str one),(7,.int .i64 g.fault)]/\x.2.2=⟨h8,c6+1,0⟩) (by simp[z4,z5,z6,rg,hfault]) fun x hx=>?_
 obtain⟨e,ts7,st1⟩:=x
 obtain⟨ee,hts,hst⟩:=hx
 simp only[Bi,CR,and_true] at ee hts hst
 obtain⟨z4,z5,z6,z7⟩:=hts
 refine⟨ee,?_⟩
 subst hst
 obtain⟨A,is,ea,a1,A1⟩:=Zu (k:=m+22) (st:=⟨h8,c6+1,0⟩) hG hs (Fb tp8) S8 (fun o ho=>by have:=(ow6 o ho).2; show o<c6+1; omega) (by omega)
 rw[show m+22+8=F by omega] at a1
 refine Ff (Q:=fun x=>x.1=.normal/\Has x.2.1 [(4,.AO 1 0),(5,w),(6,.str one),(7,.int .i64 g.fault),(8,A),(9,.bool is),(10,.int .i64 ea)]/\x.2.2=⟨h8,c6+1,0⟩) (by simp[z4,z5,z6,z7,rg,a1]) fun x hx=>?_
 obtain⟨e,ts8,st1⟩:=x
 obtain⟨ee,hts,hst⟩:=hx
 simp only[Bi,CR,and_true] at ee hts hst
 obtain⟨z4,z5,z6,z7,z8,z9,z10⟩:=hts
 refine⟨ee,?_⟩
 subst hst
 obtain⟨B,en,f,b1,A2⟩:=Xj (k:=m+21) (s:=one) (st:=⟨h8,c6+1,0⟩) hG hs
 rw[show m+21+9=F by omega] at b1
 refine Ff (Q:=fun x=>x.1=.normal/\Has x.2.1 [(4,.AO 1 0),(5,w),(6,.str one),(7,.int .i64 g.fault),(8,A),(9,.bool is),(10,.int .i64 ea),(11,B),(12,.bool en),(13,.int .i64 f)]/\x.2.2=⟨h8,c6+1,0⟩) (by simp[z4,z5,z6,z7,z8,z9,z10,rg,b1]) fun x hx=>?_
 obtain⟨e,ts9,st1⟩:=x
 obtain⟨ee,hts,hst⟩:=hx
 simp only[Bi,CR,and_true] at ee hts hst
 obtain⟨z4,z5,z6,z7,z8,z9,z10,z11,z12,z13⟩:=hts
 refine⟨ee,?_⟩
 subst hst
 obtain⟨Cw,h,c1,A3⟩:=Vg (k:=m+20) (st:=⟨h8,c6+1+1,0⟩) hG hs
 rw[show m+20+10=F by omega] at c1
 obtain⟨cc,hcc,hcl⟩:∃cc,Cw=.agg cc/\cc.length=3:=by
  by_cases hz:g.fault=0
  ·by_cases hf:Md g g.start
   ·obtain⟨k2,v2,l2,e,_⟩:=(A3.Mw hz hf).2
    exact⟨_,e,rfl⟩
   ·exact⟨_,(A3.none_ hz hf).1,rfl⟩
  ·exact⟨_,(A3.bad hz).1,rfl⟩
 subst hcc
 have n14:newObj (c6+1) (.cells 29 3 [.AJ,.str [],.AJ] false) ⟨h8,c6+1+1,0⟩=some ⟨(c6+1,.cells 29 3 [.AJ,.str [],.AJ] false)::h8,c6+1+1,0⟩:=Br tp8
 have s14:=CO (h:=h8) (c:=c6+1) (c':=c6+1+1) (lo:=0) (ty:=29) (n:=3) (zs:=[.AJ,.str [],.AJ]) (vs:=cc) (Nat.zero_le _) hcl rfl
 obtain⟨h9,hh9⟩:∃h9:Af,h9=(c6+1,Ai.cells 29 3 cc false)::h8:=⟨_,rfl⟩
 rw[← hh9] at s14
 have tp9:top h9<=c6+1+1:=by rw[hh9,Bn]; omega
 refine Ff (Q:=fun x=>x.1=.normal/\Has x.2.1 [(4,.AO 1 0),(5,w),(6,.str one),(7,.int .i64 g.fault),(8,A),(9,.bool is),(10,.int .i64 ea),(11,B),(12,.bool en),(13,.int .i64 f),(14,.AO (c6+1) 0),(15,.int .i64 h)]/\x.2.2=⟨h9,c6+1+1,0⟩) (by simp[z4,z5,z6,z7,z8,z9,z10,z11,z12,z13,rg,c1,n14,s14]) fun x hx=>?_
 obtain⟨e,ts10,st1⟩:=x
 obtain⟨ee,hts,hst⟩:=hx
 simp only[Bi,CR,and_true] at ee hts hst
 obtain⟨z4,z5,z6,z7,z8,z9,z10,z11,z12,z13,z14,z15⟩:=hts
 refine⟨ee,?_⟩
 subst hst
 refine Ff (Q:=fun x=>x.1=.normal/\Has x.2.1 [(16,.int .i64 g.fault),(17,.int .i64 g.fault),(18,.int .i64 g.fault),(4,.AO 1 0),(5,w),(6,.str one),(7,.int .i64 g.fault),(8,A),(9,.bool is),(10,.int .i64 ea),(11,B),(12,.bool en),(13,.int .i64 f),(14,.AO (c6+1) 0),(15,.int .i64 h)]/\x.2.2=⟨h9,c6+1+1,0⟩) (by simp[z4,z5,z6,z7,z8,z9,z10,z11,z12,z13,z14,z15]) fun x hx=>?_
 obtain⟨e,ts11,st1⟩:=x
 obtain⟨ee,hts,hst⟩:=hx
 simp only[Bi,CR,and_true] at ee hts hst
 obtain⟨z16,z17,z18,z4,z5,z6,z7,z8,z9,z10,z11,z12,z13,z14,z15⟩:=hts
 refine⟨ee,?_⟩
 subst hst
 refine Ff (Q:=fun x=>x.1=.normal/\Has x.2.1 [(19,.AJ),(20,.AJ),(16,.int .i64 g.fault),(17,.int .i64 g.fault),(18,.int .i64 g.fault),(4,.AO 1 0),(5,w),(6,.str one),(7,.int .i64 g.fault),(8,A),(9,.bool is),(10,.int .i64 ea),(11,B),(12,.bool en),(13,.int .i64 f),(14,.AO (c6+1) 0),(15,.int .i64 h)]/\x.2.2=⟨h9,c6+1+1,0⟩) (by simp[z4,z5,z6,z7,z8,z9,z10,z11,z12,z13,z14,z15,z16,z17,z18]) fun x hx=>?_
 obtain⟨e,ts12,st1⟩:=x
 obtain⟨ee,hts,hst⟩:=hx
 simp only[Bi,CR,and_true] at ee hts hst
 obtain⟨z19,z20,z16,z17,z18,z4,z5,z6,z7,z8,z9,z10,z11,z12,z13,z14,z15⟩:=hts
 refine⟨ee,?_⟩
 subst hst
 refine Ff (Q:=fun x=>x.1=.normal/\Has x.2.1 [(21,.bool false),(22,.bool false),(19,.AJ),(20,.AJ),(16,.int .i64 g.fault),(17,.int .i64 g.fault),(18,.int .i64 g.fault),(4,.AO 1 0),(5,w),(6,.str one),(7,.int .i64 g.fault),(8,A),(9,.bool is),(10,.int .i64 ea),(11,B),(12,.bool en),(13,.int .i64 f),(14,.AO (c6+1) 0),(15,.int .i64 h)]/\x.2.2=⟨h9,c6+1+1,0⟩) (by simp[z4,z5,z6,z7,z8,z9,z10,z11,z12,z13,z14,z15,z16,z17,z18,z19,z20]) fun x hx=>?_
 obtain⟨e,ts13,st1⟩:=x
 obtain⟨ee,hts,hst⟩:=hx
 simp only[Bi,CR,and_true] at ee hts hst
 obtain⟨z21,z22,z19,z20,z16,z17,z18,z4,z5,z6,z7,z8,z9,z10,z11,z12,z13,z14,z15⟩:=hts
 refine⟨ee,?_⟩
 subst hst
 have n23:newObj (c6+1+1) (.cells 29 3 [.AJ,.str [],.AJ] false) ⟨h9,c6+1+1+1,0⟩=some ⟨(c6+1+1,.cells 29 3 [.AJ,.str [],.AJ] false)::h9,c6+1+1+1,0⟩:=Br tp9
 obtain⟨h10,hh10⟩:∃h10:Af,h10=(c6+1+1,Ai.cells 29 3 [.AJ,.str [],.AJ] false)::h9:=⟨_,rfl⟩
 rw[← hh10] at n23
 have fr10:∀p,p<c6+1->AA h10 p=AA h8 p:=fun p hp=>by rw[hh10,Bg (by omega),hh9,Bg (by omega)]
 have LB0:LB [kv,.str g.start,rv] cc [.AJ,.str [],.AJ] (c6+1) (c6+1+1) w L ⟨h10,c6+1+1+1,0⟩:=
  ⟨by show top h10<=c6+1+1+1; rw[hh10,Bn]; omega,rfl,by show AA h10 1=_; rw[fr10 1 (by omega)]; exact f81,by show AA h10 (c6+1)=_; rw[hh10,Bg (by omega),hh9,Ce rfl],by show AA h10 (c6+1+1)=_; rw[hh10,Ce rfl],S8.heap fun o ho=>fr10 o (by have:=(ow6 o ho).2; omega),fun p hp=>by have:=(ow6 p hp).2; show p<c6+1+1+1; omega,by show 1<c6+1+1+1; omega,by show c6+1<c6+1+1+1; omega,by show c6+1+1<c6+1+1+1; omega⟩
 refine Ff (Q:=fun x=>x.1=.normal/\Has x.2.1 ((16,.int .i64 g.fault)::(17,.int .i64 g.fault)::(18,.int .i64 g.fault)::(19,.AJ)::(20,.AJ)::(21,.bool false)::(22,.bool false)::OV w A B one is en ea f h g.fault (c6+1) (c6+1+1))/\x.2.2=⟨h10,c6+1+1+1,0⟩) (by simp[OV,n23,z4,z5,z6,z7,z8,z9,z10,z11,z12,z13,z14,z15,z16,z17,z18,z19,z20,z21,z22]) fun x hx=>?_
 obtain⟨e,ts14,st1⟩:=x
 obtain⟨ee,hts,hst⟩:=hx
 simp only[Bi] at ee hts hst
 obtain⟨z16,z17,z18,z19,z20,z21,z22,hts⟩:=hts
 refine⟨ee,?_⟩
 subst hst
 refine Ff (Q:=fun x=>x.1=.normal/\BQ [kv,.str g.start,rv] cc w A B one L is en ea f h g.fault (c6+1) (c6+1+1) x.2.1 x.2.2) ?_ fun x hx=>?_
 ·have z7':ts14.get 7=.int .i64 g.fault:=by
   simp only[OV,Bi] at hts; exact hts.2.2.2.1
  by_cases hz:g.fault=0
  ·rw[hz] at hts z7' ⊢
   refine FP (Q:=fun x=>x.1=.normal/\x.2.1.get 68=.bool true/\Has x.2.1 ((19,.AJ)::(20,.AJ)::(21,.bool false)::(22,.bool false)::OV w A B one is en ea f h 0 (c6+1) (c6+1+1))/\x.2.2=⟨h10,c6+1+1+1,0⟩) ?_ fun x hx=>?_
   ·simp only[OV,Bi,CR,and_true] at hts
    obtain⟨y4,y5,y6,y7,y8,y9,y10,y11,y12,y13,y14,y15,y23⟩:=hts
    simp[OV,z7',y4,y5,y6,y7,y8,y9,y10,y11,y12,y13,y14,y15,y23,z19,z20,z21,z22]
   obtain⟨e,ts15,st1⟩:=x
   obtain⟨ee,y68,hts2,hst⟩:=hx
   simp only[Bi] at ee y68 hts2 hst
   obtain⟨y19,y20,y21,y22,hts2⟩:=hts2
   refine⟨ee,?_⟩
   subst hst
   rw[af]
   simp only[rC,y68,cond_true]
   have hif:=qh (m:=m) hG hs hz hL A1 A2 A3 (by omega) (by omega) (fun e=>by have:=(ow6 _ e).2; omega) ts15 _ LB0 hts2 y19 y20 y21 y22
   rw[← hF] at hif
   exact hif
  ·have hzb:(g.fault==0)=false:=beq_false_of_ne hz
   obtain⟨u1,u2,u3⟩:=A1.bad hz
   obtain⟨v1,v2,v3⟩:=A2.bad hz
   obtain⟨w1,w2⟩:=A3.bad hz
   have w1':cc=[.AJ,.str [],.AJ]:=by unfold Rv at w1; injection w1
   simp only[OV,Bi,CR,and_true] at hts
   obtain⟨y4,y5,y6,y7,y8,y9,y10,y11,y12,y13,y14,y15,y23⟩:=hts
   simp[z7',hzb]
   exact⟨by simp[OV,y4,y5,y6,y7,y8,y9,y10,y11,y12,y13,y14,y15,y23],by simp[z16,u3],by simp[z17,v3],by simp[z18,w2],by simp[z19,u1,NU],by simp[z20,v1,NU],by simp[z21,u2],by simp[z22,v2],_,_,LB0,rfl,Ru,w1 ▸ Lb,Lb⟩
 obtain⟨e,ts16,st16⟩:=x
 obtain⟨ee,Q⟩:=hx
 simp only at ee Q
 refine⟨ee,?_⟩
 have hsl:=Q.sl
 simp only[OV,Bi,CR,and_true] at hsl
 obtain⟨y4,y5,y6,y7,y8,y9,y10,y11,y12,y13,y14,y15,y23⟩:=hsl
 obtain⟨la,la1,la2,la3⟩:=Q.xQ
 obtain⟨lb,lb1,lb2,lb3⟩:=Q.xP
 obtain⟨wc,gc,LBf,hwl,hgs,hgc,hgw⟩:=Q.gr
 have q18a:=JH (k:=m+29) (st:=st16) (Reads.OI (h:=st16.h) la2) (Reads.OI (h:=st16.h) la3) la1
 rw[show m+29+1=F by omega] at q18a
 have q18b:=JH (k:=m+29) (st:=st16) (Reads.OI (h:=st16.h) lb2) (Reads.OI (h:=st16.h) lb3) lb1
 rw[show m+29+1=F by omega] at q18b
 have rd14:AZ st16.h (.AO (c6+1) 0) 3=some cc:=Ae LBf.wZ hcl
 have rd23:AZ st16.h (.AO (c6+1+1) 0) 3=some wc:=Ae LBf.vY hwl
 have hsame:=RO (k:=m+26) (st:=st16) hgc hgw hgs
 rw[show m+26+4=F by omega] at hsame
 simp[Az,y8,y9,y10,y11,y12,y13,y14,y15,y23,Q.t16,Q.t17,Q.t18,Q.t21,Q.t22,q18a,q18b,xR,rd14,rd23,hsame]
 refine M.OX (hready st16) fun r hr=>?_
 subst hr
 simp
theorem jM {F m:Nat}(hF:F=m+30){v:AV}{zs:List Int}(hv:CZ v zs)(hA:∀{st:St},Ko st 0 v 0->0<st.c->HB st->HO st->st.lo<=0->∃w g a st',AU E F 6 [.AO 0 0] st=.ret (w,st')/\st'.c=st.c/\CW st.c 0 v (0+a) st st'/\BP w g/\g.Small/\0<=a/\a<=200)(hR:∀st,(AU E F 20 [] st).all fun r=>r=(.bool true,st)):(AU E (F+1) 4 [v] ⟨[],0,0⟩).all fun r=>r.1=.bool true:=by
 have body:=eT hF hv hA hR
 clear hF
 rw[Ap (fn:=C.f4) rfl rfl rfl,Ad (by simp)]
 have hres:C.f4.results=[.tmp 2]:=rfl
 rw[hres]
 refine M.OX body fun x hx=>?_
 obtain⟨e,ts,st⟩:=x
 obtain⟨e1,e2⟩:=hx
 simp only at e1 e2
 subst e1
 simp[leave,results,AY,e2]
theorem qw {v:AV}{zs:List Int}(hv:CZ v zs):∃n,(AU E n 4 [v] ⟨[],0,0⟩).all fun r=>r.1=.bool true:=by
 obtain⟨n,hn⟩:∃n,39=n:=⟨39,rfl⟩
 obtain⟨F,hF⟩:∃F,n+3=F:=⟨_,rfl⟩
 obtain⟨m,hm⟩:∃m,F=m+30:=⟨F-30,by omega⟩
 have hA:∀{st:St},Ko st 0 v 0->0<st.c->HB st->HO st->st.lo<=0->∃w g a st',AU E F 6 [.AO 0 0] st=.ret (w,st')/\st'.c=st.c/\CW st.c 0 v (0+a) st st'/\BP w g/\g.Small/\0<=a/\a<=200:=fun {st} h1 h2 h3 h4 h5=>by
  obtain⟨w,g,a,st',a1,a2,a3,a4,a5,a6⟩:=nS hn 0 h1 hv ⟨by omega,by omega⟩ h2 h3 h4 h5
  have e:n+3+0=F:=by omega
  rw[e] at a1
  exact⟨w,g,a,st',a1,a2,a3,a4,a5,a6⟩
 have hR:∀st,(AU E F 20 [] st).all fun r=>r=(.bool true,st):=fun st=>(iU hn hF st).2
 exact⟨F+1,jM hm hv hA hR⟩
end Go.Am
