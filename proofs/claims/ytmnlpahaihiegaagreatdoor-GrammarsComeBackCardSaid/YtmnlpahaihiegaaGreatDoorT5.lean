/- A part of the proof of grammarsComeBack (merged by a program). -/
import Derived.Test.YtmnlpahaihiegaaGreatDoorT4
namespace Go.Am
open Go
set_option maxHeartbeats 2000000 in
theorem Vd {k:Nat}{st:St}{o:Nat}{v:AV}{zs:List Int}{a:Int}{t w:BB}(hs:Ib st o v a)(hv:CB v zs)(ha:0<=a/\a<100000000)(htl:t.length<=200000)(hw0:w≠[])(hwl:w.length<1000)(hw:∀b∈w,b.toNat<128) :
 ∃s st',AX E (k+3) 20 [.AO o 0,.str t,.str w] st=.ret (.str s,st')/\s.length<=201000/\(st'=st∨st'=tick st o v (a+1+1+1)):=by
 rw[Ai (fn:=C.f20) rfl rfl rfl,Af (by simp)]
 have hwe:w.isEmpty=false:=by simpa using hw0
 by_cases ht:t=[]
 ·subst ht
  refine⟨w,st,?_,by omega,.inl rfl⟩
  simp[C.f20,Ap,Aj,CW,leave,results,AR]
 ·have hte:t.isEmpty=false:=by simpa using ht
  have htp:0<t.length:=List.length_pos_iff.2 ht
  have hwp:0<w.length:=List.length_pos_iff.2 hw0
  have n1:=FX (k:=k) (n:=(t.length:Int)) hs hv (by omega) (by constructor <;> omega)
  have hs1:=hs.tick (a+1)
  have n2:=FX (k:=k) (n:=(w.length:Int)) hs1 hv (by omega) (by constructor <;> omega)
  rw[OG] at n2
  have hs2:=hs.tick (a+1+1)
  have n3:=FX (k:=k) (n:=3) hs2 hv (by omega) (by constructor <;> omega)
  rw[OG] at n3
  obtain⟨i1,i2⟩:=Cg (zs:=zs) (a:=a+1) (n:=(t.length:Int)) (by omega)
  obtain⟨j1,j2⟩:=Cg (zs:=zs) (a:=a+1+1) (n:=(w.length:Int)) (by omega)
  generalize BK zs (a+1) (t.length:Int)=iv at *
  generalize BK zs (a+1+1) (w.length:Int)=jv at *
  generalize BK zs (a+1+1+1) 3=kv at *
  obtain⟨i,rfl⟩:∃i:Nat,iv=(i:Int):=⟨iv.toNat,by omega⟩
  obtain⟨j,rfl⟩:∃j:Nat,jv=(j:Int):=⟨jv.toNat,by omega⟩
  have hi:i<t.length:=by omega
  have hj:j<w.length:=by omega
  obtain⟨b,hb⟩:∃b,b=w[j]:=⟨_,rfl⟩
  have ix:∀S,CR (.str w) (.int .i64 (j:Int)) S=some (.int .u8 (b.toNat:Int),S):=fun S=>by rw[hb]; exact Jg hj
  have hb128:b.toNat<128:=hw b (hb ▸ List.getElem_mem hj)
  have hwrap:IntKind.i32.wrap (b.toNat:Int)=(b.toNat:Int):=by
   have:∀n:Nat,n<128->IntKind.i32.wrap (n:Int)=(n:Int):=by decide +kernel
   exact this _ hb128
  have s1:∀S,CJ false true [.str t,.int .i64 (i:Int)] S=some (.str (t.take i),S):=fun S=>LQ (by omega)
  have s2:∀S,CJ true false [.str t,.int .i64 (i:Int)] S=some (.str (t.drop i),S):=fun S=>IC (by omega)
  have s3:∀S,CJ true false [.str t,.int .i64 ((i:Int)+1)] S=some (.str (t.drop (i+1)),S):=fun S=>IC (i:=i+1) (by omega)
  have d1:=DJ (a:=t.take i) (b:=[b]) (by simp; omega)
  have d2:=DJ (a:=t.take i++[b]) (b:=t.drop (i+1)) (by simp; omega)
  have d3:=DJ (a:=t.take i++[b]) (b:=t.drop i) (by simp; omega)
  have d4:=DJ (a:=t.take i) (b:=t.drop (i+1)) (by simp; omega)
  have hwi:=wi i (by omega)
  by_cases k0:kv=0
  ·have k0':(kv==0)=true:=by simpa using k0
   refine⟨t.take i++[b]++t.drop (i+1),tick st o v (a+1+1+1),?_,by simp; omega,.inr rfl⟩
   simp[C.f20,Ap,Aj,CW,hte,hwe,n1,n2,n3,ix,k0',hwrap,hb128,s1,s2,s3,d1,d2,hwi,leave,results,AR]
  ·have k0':(kv==0)=false:=by simpa using k0
   by_cases k1:kv=1
   ·have k1':(kv==1)=true:=by simpa using k1
    refine⟨t.take i++[b]++t.drop i,tick st o v (a+1+1+1),?_,by simp; omega,.inr rfl⟩
    simp[C.f20,Ap,Aj,CW,hte,hwe,n1,n2,n3,ix,k0',k1',hwrap,hb128,s1,s2,s3,d1,d3,hwi,leave,results,AR]
   ·have k1':(kv==1)=false:=by simpa using k1
    refine⟨t.take i++t.drop (i+1),tick st o v (a+1+1+1),?_,by simp; omega,.inr rfl⟩
    simp[C.f20,Ap,Aj,CW,hte,hwe,n1,n2,n3,ix,k0',k1',hwrap,hb128,s1,s2,s3,d4,hwi,leave,results,AR]
def Hd:List BB:=[[115,32,61,32,47,32,48,10],[115,32,61,32,47,32,55,10],[115,32,61,32,97,32,47,32,98,10],[115,32,61,32,97,32,32,98,10],[115,32,61],[115,32,61,32,97,32,47,32,49,32,10],[116,32,61,32,47,32,47,32,50,10],[115,32,61,32,97,32,47,32,45,53,10],[115,32,61,32,97,32,47,32,48,49,50,51,52,53,54,55,56,57,10]]
theorem WT:∀x∈strs Hd,∃s:BB,x=.str s/\s.length<=30:=by
 intro x hx
 obtain⟨s,hs,rfl⟩:=List.mem_map.1 hx
 refine⟨s,rfl,?_⟩
 have:Hd.all (fun s=>decide (s.length<=30))=true:=by decide
 simpa using List.all_eq_true.1 this s hs
set_option maxHeartbeats 2000000 in
theorem PX {k:Nat}{st st1:St}{o:Nat}{vs u:AV}{zs:List Int}{a:Int}{g:Ak}(h6:AX E (k+4) 19 [.AO o 0] st=.ret (u,st1))(hs:Ib st1 o vs a)(hv:CB vs zs)(ha:0<=a/\a<10000000)(hg:Bl u g)(hsm:g.Small)(hoc:o<st1.c)(tp:top st1.h<=st1.c) :
 ∃s st',AX E (k+5) 5 [.AO o 0] st=.ret (.str s,st')/\s.length<=300000/\st1.c<=st'.c/\st'.lo=st1.lo/\top st'.h<=st'.c/\∀p,p<st1.c->p≠o->AA st'.h p=AA st1.h p:=by
 rw[Ai (fn:=C.f5) rfl rfl rfl,Af (by simp)]
 have hl:=Rb (k:=k) (st:=st1) hg hsm
 have htl:=aL hsm
 have n1:=FX (k:=k+2) (n:=4) hs hv (by omega) (by constructor <;> omega)
 generalize BK zs (a+1) 4=kv at *
 have hs1:=hs.tick (a+1)
 have tk:∀b,st1.c<=(tick st1 o vs b).c/\(tick st1 o vs b).lo=st1.lo/\top (tick st1 o vs b).h<=(tick st1 o vs b).c/\∀p,p<st1.c->p≠o->AA (tick st1 o vs b).h p=AA st1.h p:=fun b=>⟨Nat.le_refl _,rfl,by show top (Aa _ _ _)<=st1.c; rw[Gm]; exact tp,fun p _ hp=>Jh (Ne.symm hp)⟩
 by_cases k0:kv=0
 ·have k0':(kv==0)=true:=by simpa using k0
  obtain⟨s,st2,hc,hsl,hst2⟩:=Vd (k:=k+1) (t:=Bh g) (w:=[97,98,61,32,47,49,48,10,32,116]) hs1 hv (by omega) (by omega) (by simp) (by decide) (by decide)
  have h2:st1.c<=st2.c/\st2.lo=st1.lo/\top st2.h<=st2.c/\∀p,p<st1.c->p≠o->AA st2.h p=AA st1.h p:=by
   rcases hst2 with rfl|rfl
   ·exact tk _
   ·rw[OG]; exact tk _
  refine⟨s,st2,?_,by omega,h2⟩
  simp[C.f5,h6,hl,n1,k0',hc,leave,results,AR]
 ·have k0':(kv==0)=false:=by simpa using k0
  by_cases k1:kv=1
  ·have k1':(kv==1)=true:=by simpa using k1
   obtain⟨h,c,lo⟩:=st1
   obtain⟨h1,hh1⟩:∃h1,h1=Aa h o (Al.cells 25 2 [vs,.int .i64 (a+1)] false):=⟨_,rfl⟩
   have et:tick ⟨h,c,lo⟩ o vs (a+1)=⟨h1,c,lo⟩:=by rw[hh1]; rfl
   rw[et] at n1 hs1
   have tp1:top h1<=c:=by rw[hh1,Gm]; exact tp
   have n2:newObj c (.cells 9 1 (strs Hd) false) ⟨h1,c+1,lo⟩=some ⟨(c,.cells 9 1 (strs Hd) false)::h1,c+1,lo⟩:=BP tp1
   have hbs:Ar c 9 1 9 [.str [],.str [],.str [],.str [],.str [],.str [],.str [],.str [],.str []] [0,1,2,3,4,5,6,7,8] (strs Hd)=some (.AU c 0 9 (some 9),.cells 9 1 (strs Hd) false):=by rfl
   have hoc':o<c:=hoc
   have hs2:Ib ⟨(c,.cells 9 1 (strs Hd) false)::h1,c+1,lo⟩ o vs (a+1):=⟨(Bb (by omega)).trans hs1.at_,hs1.lo⟩
   have rdd:=Hr (h:=(c,Al.cells 9 1 (strs Hd) false)::h1) (id:=c) (ty:=9) (o:=o) (xs:=strs Hd) (ext:=false) (cap:=some 9) (Bv rfl) (by omega)
   have sm:=QC (k:=k+1) hs2 hv (by omega) rdd (by decide) (by decide)
   obtain⟨s,es,hsl⟩:=WT _ (Hz (zs:=zs) (a:=a+1) (l:=strs Hd) (by decide))
   rw[es] at sm
   have ad:=DJ (a:=Bh g) (b:=s) (by omega)
   have sm':AX E (k+4) 21 [.AO o 0,.AU c 0 9 (some 9)] ⟨(c,.cells 9 1 (strs Hd) false)::h1,c+1,lo⟩=_:=sm
   have hbs':=hbs
   have n2':=n2
   generalize hT:tick (⟨(c,.cells 9 1 (strs Hd) false)::h1,c+1,lo⟩:St) o vs (a+1+1)=T at sm'
   have fT:c<=T.c/\T.lo=lo/\top T.h<=T.c/\∀p,p<c->p≠o->AA T.h p=AA h p:=by
    rw[← hT]
    refine⟨by show c<=c+1; omega,rfl,by show top (Aa _ _ _)<=c+1; rw[Gm,BD]; omega,fun p hp hne=>?_⟩
    show AA (Aa _ _ _) p=_
    rw[Jh (Ne.symm hne),Bb (by omega),hh1,Jh (Ne.symm hne)]
   refine⟨Bh g++s,T,?_,by simp; omega,fT⟩
   simp only[Hd,strs,List.map_cons,List.map_nil] at hbs' n2' sm'
   simp[C.f5,h6,hl,n1,k0',k1',hbs',n2',sm',ad,leave,results,AR]
  ·have k1':(kv==1)=false:=by simpa using k1
   refine⟨Bh g,tick st1 o vs (a+1),?_,by omega,tk _⟩
   simp[C.f5,h6,hl,n1,k0',k1',leave,results,AR]
theorem mH {c:Nat}{a b:AV}(ha:a.CF c=true)(hb:b.CF c=true):AV.Cx c [a,b]=true:=by simp[AV.Cx,ha,hb]
theorem iE {k:Nat}{v1 v2:AV}{r1 r2:Bf}{st:St}(h1:Mx v1 r1)(h2:Mx v2 r2)(hl:r1.right.length<1000000)(hb:top st.h<=st.c):AX E (k+2) 44 [v1,v2] st=.ret (.bool (decide (r1=r2)),st):=by
 obtain⟨w1,rfl,s1⟩:=h1
 obtain⟨w2,rfl,s2⟩:=h2
 rw[CY (fn:=C.f44) rfl rfl rfl,Af (by simp)]
 obtain⟨h,c,lo⟩:=st
 have hb':top h<=c:=hb
 have n1:newObj c (.cells 47 3 [.str r1.left,w1,.int .i64 r1.level] false) ⟨h,c+2,c⟩=some ⟨(c,.cells 47 3 [.str r1.left,w1,.int .i64 r1.level] false)::h,c+2,c⟩:=BP hb'
 obtain⟨ha,hha⟩:∃ha:Heap,ha=(c,Al.cells 47 3 [.str r1.left,w1,.int .i64 r1.level] false)::h:=⟨_,rfl⟩
 have tpa:top ha<=c+1:=by rw[hha,BD]; omega
 have n2:newObj (c+1) (.cells 47 3 [.str r2.left,w2,.int .i64 r2.level] false) ⟨ha,c+2,c⟩=some ⟨(c+1,.cells 47 3 [.str r2.left,w2,.int .i64 r2.level] false)::ha,c+2,c⟩:=BP tpa
 obtain⟨hc,hhc⟩:∃hc:Heap,hc=(c+1,Al.cells 47 3 [.str r2.left,w2,.int .i64 r2.level] false)::ha:=⟨_,rfl⟩
 rw[← hha] at n1
 rw[← hhc] at n2
 have f1:AA hc c=some (.cells 47 3 [.str r1.left,w1,.int .i64 r1.level] false):=by rw[hhc,Bb (by omega),hha,Bv rfl]
 have f2:AA hc (c+1)=some (.cells 47 3 [.str r2.left,w2,.int .i64 r2.level] false):=by rw[hhc,Bv rfl]
 have a0:AP hc (.AO c 0)=some (.str r1.left):=by rw[AL f1]; rfl
 have a1:AP hc (.AO c 1)=some w1:=by rw[AL f1]; rfl
 have a2:AP hc (.AO c 2)=some (.int .i64 r1.level):=by rw[AL f1]; rfl
 have b0:AP hc (.AO (c+1) 0)=some (.str r2.left):=by rw[AL f2]; rfl
 have b1:AP hc (.AO (c+1) 1)=some w2:=by rw[AL f2]; rfl
 have b2:AP hc (.AO (c+1) 2)=some (.int .i64 r2.level):=by rw[AL f2]; rfl
 have he:=KU (k:=k) (st:=⟨hc,c+2,c⟩) (Reads.Ub (h:=hc) s1) (Reads.Ub (h:=hc) s2) hl
 have hdec:decide (r1=r2)=((r1.left==r2.left)&&((r1.level==r2.level)&&decide (r1.right=r2.right))):=by
  rw[Bool.eq_iff_iff]
  obtain⟨l1,x1,n1⟩:=r1
  obtain⟨l2,x2,n2⟩:=r2
  simp only[decide_eq_true_eq,Bool.and_eq_true,beq_iff_eq,Bf.mk.injEq]
  exact⟨fun⟨a,b,c⟩=>⟨a,c,b⟩,fun⟨a,b,c⟩=>⟨a,c,b⟩⟩
 rw[hdec]
 cases e1:(r1.left==r2.left) with
 |false=>simp[C.f44,Ap,Aj,n1,n2,a0,b0,e1,leave,results,AR]
 |true=>
  cases e2:(r1.level==r2.level) with
  |false=>simp[C.f44,Ap,Aj,n1,n2,a0,b0,a2,b2,e1,e2,leave,results,AR]
  |true=>simp[C.f44,Ap,Aj,n1,n2,a0,b0,a1,b1,a2,b2,e1,e2,he,leave,results,AR]
set_option maxHeartbeats 2000000 in
theorem Qp {k:Nat}{v1 v2:AV}{l1 l2:List AV}{rs1 rs2:List Bf}{st:St}(h1:Ci v1 3 l1)(h2:Ci v2 3 l2)(q1:Bo l1 rs1)(q2:Bo l2 rs2)(hs:∀r∈rs1,r.right.length<1000000)(hn:rs1.length<1000000)(hb:top st.h<=st.c)(hlo:st.lo<=st.c) :
 (AX E (k+3) 43 [v1,v2,.fn (.func 44) [] []] st).to fun x=>x.1=.bool (decide (rs1=rs2)):=by
 rw[Ai (fn:=C.f43) rfl rfl rfl,Af (by simp)]
 have e1:=q1.length
 have e2:=q2.length
 by_cases hl:rs1.length=rs2.length
 ·have hln:((l1.length:Int) !=(l2.length:Int))=false:=by rw[e1,e2,hl]; simp
  have hlen1:∀S:St,Be .slice v1 S=some (.int .i64 (l1.length:Int),S):=fun S=>h1.len
  have hlen2:∀S:St,Be .slice v2 S=some (.int .i64 (l2.length:Int),S):=fun S=>h2.len
  simp[-bne_self_eq_false,C.f43,hlen1,hlen2,hln]
  refine M.BX (Kb (fun (i:Nat) ts st'=>i<=rs1.length/\top st'.h<=st'.c/\st'.lo<=st'.c/\Has ts [(1,v2),(2,.fn (.func 44) [] []),(15,v1),(16,.int .i64 (rs1.length:Int)),(17,.int .i64 (i:Int))]/\rs1.take i=rs2.take i)
   (fun i=>rs1.length-i) (fun e ts st'=>(e=.exit 0/\rs1=rs2)∨(e=.ret/\ts.get 6=.bool false/\rs1≠rs2)) ?step _ 0 _ _ ?_ ?_) ?_
  case step=>
   rintro i ts ⟨h,c,lo⟩ ⟨hi,tp,hlc,hts,htk⟩
   simp only[KQ,MB,and_true] at hts
   obtain⟨z1,z2,z15,z16,z17⟩:=hts
   by_cases Bc:i<rs1.length
   ·have tp':top h<=c:=tp
    have hlc':lo<=c:=hlc
    obtain⟨w1,a1,a2⟩:=(q1.get i Bc).2
    obtain⟨w2,b1,b2⟩:=(q2.get i (by omega)).2
    have hil1:i<l1.length:=by omega
    have hil2:i<l2.length:=by omega
    obtain⟨c1,hc1⟩:∃c1:List AV,c1=[.str rs1[i].left,w1,.int .i64 rs1[i].level]:=⟨_,rfl⟩
    obtain⟨c2,hc2⟩:∃c2:List AV,c2=[.str (rs2[i]'(by omega)).left,w2,.int .i64 (rs2[i]'(by omega)).level]:=⟨_,rfl⟩
    have ix1:Ad 3 v1 (.int .i64 (i:Int)) ⟨h,c+1,lo⟩=some (.BN l1[i].cells,⟨h,c+1,lo⟩):=h1.idx hil1
    have ce1:l1[i].cells=c1:=by rw[a1,hc1]; rfl
    rw[ce1] at ix1
    have rd1:Ac h (.BN c1) 3=some c1:=by rw[hc1]; rfl
    have n1:newObj c (.cells 47 3 [.str [],.AB,.int .i64 0] false) ⟨h,c+1,lo⟩=some ⟨(c,.cells 47 3 [.str [],.AB,.int .i64 0] false)::h,c+1,lo⟩:=BP tp'
    have t1:=DY (h:=h) (c:=c) (c':=c+1) (lo:=lo) (ty:=47) (n:=3) (zs:=[.str [],.AB,.int .i64 0]) (vs:=c1) (by omega) (by rw[hc1]; rfl) rfl
    obtain⟨h',hh'⟩:∃h':Heap,h'=(c,Al.cells 47 3 c1 false)::h:=⟨_,rfl⟩
    rw[← hh'] at t1
    have tp1:top h'<=c+1:=by rw[hh',BD]; omega
    have ix2:Ad 3 v2 (.int .i64 (i:Int)) ⟨h',c+1+1,lo⟩=some (.BN l2[i].cells,⟨h',c+1+1,lo⟩):=h2.idx hil2
    have ce2:l2[i].cells=c2:=by rw[b1,hc2]; rfl
    rw[ce2] at ix2
    have rd2:Ac h' (.BN c2) 3=some c2:=by rw[hc2]; rfl
    have n2:newObj (c+1) (.cells 47 3 [.str [],.AB,.int .i64 0] false) ⟨h',c+1+1,lo⟩=some ⟨(c+1,.cells 47 3 [.str [],.AB,.int .i64 0] false)::h',c+1+1,lo⟩:=BP tp1
    have t2:=DY (h:=h') (c:=c+1) (c':=c+1+1) (lo:=lo) (ty:=47) (n:=3) (zs:=[.str [],.AB,.int .i64 0]) (vs:=c2) (by omega) (by rw[hc2]; rfl) rfl
    obtain⟨h'',hh''⟩:∃h'':Heap,h''=(c+1,Al.cells 47 3 c2 false)::h':=⟨_,rfl⟩
    rw[← hh''] at t2
    have tp2:top h''<=c+2:=by rw[hh'',BD]; omega
    have r1:Ac h'' (.AO c 0) 3=some c1:=Bj (by rw[hh'',Bb (by omega),hh',Bv rfl]) (by rw[hc1]; rfl)
    have r2:Ac h'' (.AO (c+1) 0) 3=some c2:=Bj (by rw[hh'',Bv rfl]) (by rw[hc2]; rfl)
    have hcl:=iE (k:=k) (v1:=.agg c1) (v2:=.agg c2) (r1:=rs1[i]) (r2:=rs2[i]'(by omega)) (st:=⟨h'',c+1+1,lo⟩) ⟨w1,by rw[hc1],a2⟩ ⟨w2,by rw[hc2],b2⟩ (hs _ (List.getElem_mem Bc)) tp2
    by_cases he:rs1[i]=rs2[i]'(by omega)
    ·rw[decide_eq_true he] at hcl
     simp[C.f43L0,z1,z2,z15,z16,z17,Bc,ix1,-Bp,rd1,n1,t1,ix2,rd2,n2,t2,r1,r2,hcl,wi i]
     refine⟨i+1,by omega,by omega,tp2,by omega,by simp,?_⟩
     rw[List.take_succ_eq_append_getElem Bc,List.take_succ_eq_append_getElem (show i<rs2.length by omega),htk,he]
    ·rw[decide_eq_false he] at hcl
     simp[C.f43L0,z1,z2,z15,z16,z17,Bc,ix1,-Bp,rd1,n1,t1,ix2,rd2,n2,t2,r1,r2,hcl]
     intro e; subst e; exact he rfl
   ·have:i=rs1.length:=by omega
    subst this
    simp[C.f43L0,z1,z2,z15,z16,z17]
    rw[List.take_length,hl,List.take_length] at htk
    exact htk
  ·show rs1.length-0<1000000; omega
  ·exact⟨by omega,hb,hlo,by simp[e1],by simp⟩
  ·rintro⟨e,ts,st1⟩ hh
   rcases hh with⟨rfl,hh⟩|⟨rfl,h6,hh⟩
   ·simp[leave,results,AR,hh]
   ·simp only at h6
    simp[leave,results,AR,h6,hh]
 ·have hln:((l1.length:Int) !=(l2.length:Int))=true:=by rw[e1,e2]; simp; omega
  have hlen1:∀S:St,Be .slice v1 S=some (.int .i64 (l1.length:Int),S):=fun S=>h1.len
  have hlen2:∀S:St,Be .slice v2 S=some (.int .i64 (l2.length:Int),S):=fun S=>h2.len
  have hne:rs1≠rs2:=fun e=>hl (by rw[e])
  simp[C.f43,hlen1,hlen2,hln,leave,results,AR,hne]
theorem PT {k:Nat}{v1 v2:AV}{g1 g2:Ak}{st:St}(h1:Bl v1 g1)(h2:Bl v2 g2)(hs:g1.GA):AX E (k+4) 10 [v1,v2] st=.ret (.bool (decide (g1=g2)),st):=by
 have o1:=h1.LD 0
 have o2:=h2.LD 0
 obtain⟨kv1,rv1,l1,rfl,a1,a2,a3⟩:=h1
 obtain⟨kv2,rv2,l2,rfl,b1,b2,b3⟩:=h2
 rw[DK (fn:=C.f10) rfl rfl rfl (mH o1 o2),Af (by simp)]
 have hkn:=hs.kinds
 have hmany:=hs.many
 have n1:newObj 0 (.cells 29 3 [kv1,.str g1.start,rv1] false) ⟨[],2,0⟩=some ⟨[(0,.cells 29 3 [kv1,.str g1.start,rv1] false)],2,0⟩:=rfl
 obtain⟨h,hh⟩:∃h:Heap,h=[(1,Al.cells 29 3 [kv2,.str g2.start,rv2] false),(0,.cells 29 3 [kv1,.str g1.start,rv1] false)]:=⟨_,rfl⟩
 have n2:newObj 1 (.cells 29 3 [kv2,.str g2.start,rv2] false) ⟨[(0,.cells 29 3 [kv1,.str g1.start,rv1] false)],2,0⟩=some ⟨h,2,0⟩:=by rw[hh]; rfl
 have tp:top h<=2:=by rw[hh,BD,BD]; exact⟨by omega,by omega,Nat.zero_le _⟩
 have f0:AA h 0=some (.cells 29 3 [kv1,.str g1.start,rv1] false):=by rw[hh]; rfl
 have f1:AA h 1=some (.cells 29 3 [kv2,.str g2.start,rv2] false):=by rw[hh]; rfl
 have c0:AP h (.AO 0 0)=some kv1:=by rw[AL f0]; rfl
 have c1:AP h (.AO 0 1)=some (.str g1.start):=by rw[AL f0]; rfl
 have c2:AP h (.AO 0 2)=some rv1:=by rw[AL f0]; rfl
 have d0:AP h (.AO 1 0)=some kv2:=by rw[AL f1]; rfl
 have d1:AP h (.AO 1 1)=some (.str g2.start):=by rw[AL f1]; rfl
 have d2:AP h (.AO 1 2)=some rv2:=by rw[AL f1]; rfl
 have he:=KU (k:=k+2) (st:=⟨h,2,0⟩) (Reads.Ub (h:=h) a1) (Reads.Ub (h:=h) b1) (by omega)
 have hdec:decide (g1=g2)=(decide (g1.kinds=g2.kinds)&&((g1.start==g2.start)&&decide (g1.rules=g2.rules))):=by
  rw[Bool.eq_iff_iff]
  obtain⟨x1,x2,x3⟩:=g1
  obtain⟨y1,y2,y3⟩:=g2
  simp only[decide_eq_true_eq,Bool.and_eq_true,beq_iff_eq,Ak.mk.injEq]
 have main:((BF E (AX E (k+3)) C.f10.body (TS.Cm [.agg [kv1,.str g1.start,rv1],.agg [kv2,.str g2.start,rv2]] 0 .nil) ⟨[],0,0⟩).bind (leave C.f10.results)).to fun x=>x.1=.bool (decide (g1=g2)):=by
  rw[hdec]
  cases e1:decide (g1.kinds=g2.kinds) with
  |false=>
   rw[e1] at he
   simp[C.f10,Ap,Aj,n1,n2,c0,d0,he,leave,results,AR]
  |true=>
   rw[e1] at he
   cases e2:(g1.start==g2.start) with
   |false=>simp[C.f10,Ap,Aj,n1,n2,c0,d0,c1,d1,e2,he,leave,results,AR]
   |true=>
    have hr:=Qp (k:=k) (st:=⟨h,2,0⟩) a2 b2 a3 b3 (fun r hr=>by have:=(hs.rules r hr).right; omega) (by omega) tp (Nat.zero_le _)
    simp[C.f10,Ap,Aj,n1,n2,c0,d0,c1,d1,c2,d2,e2,he,leave,results,AR]
    refine M.BX hr fun x hx=>?_
    obtain⟨w,S⟩:=x
    simp only at hx
    subst hx
    simp
 obtain⟨⟨w,S⟩,m1,m2⟩:=main
 simp only at m2
 subst m2
 rw[m1,M.KC]
 exact DT rfl
theorem bS {o:Nat}{vs:AV}{a:Int}{st st':St}(K:Br st.c o vs a st st')(hc:st'.c=st.c)(hh:HO st)(hvs:vs.CF st.c=true):HO st':=by
 intro p x hm
 have hp:=K.hb p x hm
 rcases K.mem p x hm (by omega) with h|⟨rfl,b,rfl⟩
 ·rw[hc]; exact hh p x h
 ·rw[hc]; simp[Al.CF,AV.Cx,AV.CF,hvs]
end Go.Am
