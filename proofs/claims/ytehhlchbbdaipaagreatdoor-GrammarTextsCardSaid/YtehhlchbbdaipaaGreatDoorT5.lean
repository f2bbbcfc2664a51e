/- A part of the proof of grammarTexts (merged by a program). -/
import Derived.Test.YtehhlchbbdaipaaGreatDoorT4
namespace Go.Am
open Go
set_option maxHeartbeats 2000000 in
theorem Uy {k:Nat}{st:St}{o:Nat}{v:AV}{zs:List Int}{a:Int}{t w:Ay}(hs:Ie st o v a)(hv:Bv v zs)(ha:0<=a/\a<100000000)(htl:t.length<=200000)(hw0:w≠[])(hwl:w.length<1000)(hw:∀b∈w,b.toNat<128) :
 ∃s st',AR E (k+3) 100 [.AO o 0,.str t,.str w] st=.ret (.str s,st')/\s.length<=201000/\(st'=st∨st'=tick st o v (a+1+1+1)):=by
 rw[Af (fn:=C.f100) rfl rfl rfl,Ab (by simp)]
 have hwe:w.isEmpty=false:=by simpa using hw0
 by_cases ht:t=[]
 ·subst ht
  refine⟨w,st,?_,by omega,.inl rfl⟩
  simp[C.f100,Ag,AZ,BG,leave,results,AP]
 ·have hte:t.isEmpty=false:=by simpa using ht
  have htp:0<t.length:=List.length_pos_iff.2 ht
  have hwp:0<w.length:=List.length_pos_iff.2 hw0
  have n1:=FU (k:=k) (n:=(t.length:Int)) hs hv (by omega) (by constructor <;> omega)
  have hs1:=hs.tick (a+1)
  have n2:=FU (k:=k) (n:=(w.length:Int)) hs1 hv (by omega) (by constructor <;> omega)
  rw[Ni] at n2
  have hs2:=hs.tick (a+1+1)
  have n3:=FU (k:=k) (n:=3) hs2 hv (by omega) (by constructor <;> omega)
  rw[Ni] at n3
  obtain⟨i1,i2⟩:=Cf (zs:=zs) (a:=a+1) (n:=(t.length:Int)) (by omega)
  obtain⟨j1,j2⟩:=Cf (zs:=zs) (a:=a+1+1) (n:=(w.length:Int)) (by omega)
  generalize BD zs (a+1) (t.length:Int)=iv at *
  generalize BD zs (a+1+1) (w.length:Int)=jv at *
  generalize BD zs (a+1+1+1) 3=kv at *
  obtain⟨i,rfl⟩:∃i:Nat,iv=(i:Int):=⟨iv.toNat,by omega⟩
  obtain⟨j,rfl⟩:∃j:Nat,jv=(j:Int):=⟨jv.toNat,by omega⟩
  have hi:i<t.length:=by omega
  have hj:j<w.length:=by omega
  obtain⟨b,hb⟩:∃b,b=w[j]:=⟨_,rfl⟩
  have ix:∀S,Bq (.str w) (.int .i64 (j:Int)) S=some (.int .u8 (b.toNat:Int),S):=fun S=>by rw[hb]; exact FW hj
  have hb128:b.toNat<128:=hw b (hb ▸ List.getElem_mem hj)
  have hwrap:IntKind.i32.wrap (b.toNat:Int)=(b.toNat:Int):=by
   have:∀n:Nat,n<128->IntKind.i32.wrap (n:Int)=(n:Int):=by decide +kernel
   exact this _ hb128
  have s1:∀S,Bp false true [.str t,.int .i64 (i:Int)] S=some (.str (t.take i),S):=fun S=>Kv (by omega)
  have s2:∀S,Bp true false [.str t,.int .i64 (i:Int)] S=some (.str (t.drop i),S):=fun S=>GA (by omega)
  have s3:∀S,Bp true false [.str t,.int .i64 ((i:Int)+1)] S=some (.str (t.drop (i+1)),S):=fun S=>GA (i:=i+1) (by omega)
  have d1:=Db (a:=t.take i) (b:=[b]) (by simp; omega)
  have d2:=Db (a:=t.take i++[b]) (b:=t.drop (i+1)) (by simp; omega)
  have d3:=Db (a:=t.take i++[b]) (b:=t.drop i) (by simp; omega)
  have d4:=Db (a:=t.take i) (b:=t.drop (i+1)) (by simp; omega)
  have hwi:=wi i (by omega)
  by_cases k0:kv=0
  ·have k0':(kv==0)=true:=by simpa using k0
   refine⟨t.take i++[b]++t.drop (i+1),tick st o v (a+1+1+1),?_,by simp; omega,.inr rfl⟩
   simp[C.f100,Ag,AZ,BG,hte,hwe,n1,n2,n3,ix,k0',hwrap,hb128,s1,s2,s3,d1,d2,hwi,leave,results,AP]
  ·have k0':(kv==0)=false:=by simpa using k0
   by_cases k1:kv=1
   ·have k1':(kv==1)=true:=by simpa using k1
    refine⟨t.take i++[b]++t.drop i,tick st o v (a+1+1+1),?_,by simp; omega,.inr rfl⟩
    simp[C.f100,Ag,AZ,BG,hte,hwe,n1,n2,n3,ix,k0',k1',hwrap,hb128,s1,s2,s3,d1,d3,hwi,leave,results,AP]
   ·have k1':(kv==1)=false:=by simpa using k1
    refine⟨t.take i++t.drop (i+1),tick st o v (a+1+1+1),?_,by simp; omega,.inr rfl⟩
    simp[C.f100,Ag,AZ,BG,hte,hwe,n1,n2,n3,ix,k0',k1',hwrap,hb128,s1,s2,s3,d4,hwi,leave,results,AP]
def Ha:List Ay:=[[115,32,61,32,47,32,48,10],[115,32,61,32,47,32,55,10],[115,32,61,32,97,32,47,32,98,10],[115,32,61,32,97,32,32,98,10],[115,32,61],[115,32,61,32,97,32,47,32,49,32,10],[116,32,61,32,47,32,47,32,50,10],[115,32,61,32,97,32,47,32,45,53,10],[115,32,61,32,97,32,47,32,48,49,50,51,52,53,54,55,56,57,10]]
theorem Vk:∀x∈strs Ha,∃s:Ay,x=.str s/\s.length<=30:=by
 intro x hx
 obtain⟨s,hs,rfl⟩:=List.mem_map.1 hx
 refine⟨s,rfl,?_⟩
 have:Ha.all (fun s=>decide (s.length<=30))=true:=by decide
 simpa using List.all_eq_true.1 this s hs
set_option maxHeartbeats 2000000 in
theorem PG {k:Nat}{st st1:St}{o:Nat}{vs u:AV}{zs:List Int}{a:Int}{g:Aj}(h6:AR E (k+4) 6 [.AO o 0] st=.ret (u,st1))(hs:Ie st1 o vs a)(hv:Bv vs zs)(ha:0<=a/\a<10000000)(hg:Bo u g)(hsm:g.Small)(hoc:o<st1.c)(tp:top st1.h<=st1.c) :
 ∃s st',AR E (k+5) 35 [.AO o 0] st=.ret (.str s,st')/\s.length<=300000/\st1.c<=st'.c/\st'.lo=st1.lo/\top st'.h<=st'.c/\∀p,p<st1.c->p≠o->AA st'.h p=AA st1.h p:=by
 rw[Af (fn:=C.f35) rfl rfl rfl,Ab (by simp)]
 have hl:=MC (k:=k) (st:=st1) hg hsm
 have htl:=ZT hsm
 have n1:=FU (k:=k+2) (n:=4) hs hv (by omega) (by constructor <;> omega)
 generalize BD zs (a+1) 4=kv at *
 have hs1:=hs.tick (a+1)
 have tk:∀b,st1.c<=(tick st1 o vs b).c/\(tick st1 o vs b).lo=st1.lo/\top (tick st1 o vs b).h<=(tick st1 o vs b).c/\∀p,p<st1.c->p≠o->AA (tick st1 o vs b).h p=AA st1.h p:=fun b=>⟨Nat.le_refl _,rfl,by show top (Aa _ _ _)<=st1.c; rw[FB]; exact tp,fun p _ hp=>HZ (Ne.symm hp)⟩
 by_cases k0:kv=0
 ·have k0':(kv==0)=true:=by simpa using k0
  obtain⟨s,st2,hc,hsl,hst2⟩:=Uy (k:=k+1) (t:=CE g) (w:=[97,98,61,32,47,49,48,10,32,116]) hs1 hv (by omega) (by omega) (by simp) (by decide) (by decide)
  have h2:st1.c<=st2.c/\st2.lo=st1.lo/\top st2.h<=st2.c/\∀p,p<st1.c->p≠o->AA st2.h p=AA st1.h p:=by
   rcases hst2 with rfl|rfl
   ·exact tk _
   ·rw[Ni]; exact tk _
  refine⟨s,st2,?_,by omega,h2⟩
  simp[C.f35,h6,hl,n1,k0',hc,leave,results,AP]
 ·have k0':(kv==0)=false:=by simpa using k0
  by_cases k1:kv=1
  ·have k1':(kv==1)=true:=by simpa using k1
   obtain⟨h,c,lo⟩:=st1
   obtain⟨h1,hh1⟩:∃h1,h1=Aa h o (Ai.cells 25 2 [vs,.int .i64 (a+1)] false):=⟨_,rfl⟩
   have et:tick ⟨h,c,lo⟩ o vs (a+1)=⟨h1,c,lo⟩:=by rw[hh1]; rfl
   rw[et] at n1 hs1
   have tp1:top h1<=c:=by rw[hh1,FB]; exact tp
   have n2:newObj c (.cells 9 1 (strs Ha) false) ⟨h1,c+1,lo⟩=some ⟨(c,.cells 9 1 (strs Ha) false)::h1,c+1,lo⟩:=BC tp1
   have hbs:Aw c 9 1 9 [.str [],.str [],.str [],.str [],.str [],.str [],.str [],.str [],.str []] [0,1,2,3,4,5,6,7,8] (strs Ha)=some (.AY c 0 9 (some 9),.cells 9 1 (strs Ha) false):=by rfl
   have hoc':o<c:=hoc
   have hs2:Ie ⟨(c,.cells 9 1 (strs Ha) false)::h1,c+1,lo⟩ o vs (a+1):=⟨(BP (by omega)).trans hs1.at_,hs1.lo⟩
   have rdd:=Ho (h:=(c,Ai.cells 9 1 (strs Ha) false)::h1) (id:=c) (ty:=9) (o:=o) (xs:=strs Ha) (ext:=false) (cap:=some 9) (BZ rfl) (by omega)
   have sm:=Pj (k:=k+1) hs2 hv (by omega) rdd (by decide) (by decide)
   obtain⟨s,es,hsl⟩:=Vk _ (Hu (zs:=zs) (a:=a+1) (l:=strs Ha) (by decide))
   rw[es] at sm
   have ad:=Db (a:=CE g) (b:=s) (by omega)
   have sm':AR E (k+4) 22 [.AO o 0,.AY c 0 9 (some 9)] ⟨(c,.cells 9 1 (strs Ha) false)::h1,c+1,lo⟩=_:=sm
   have hbs':=hbs
   have n2':=n2
   generalize hT:tick (⟨(c,.cells 9 1 (strs Ha) false)::h1,c+1,lo⟩:St) o vs (a+1+1)=T at sm'
   have fT:c<=T.c/\T.lo=lo/\top T.h<=T.c/\∀p,p<c->p≠o->AA T.h p=AA h p:=by
    rw[← hT]
    refine⟨by show c<=c+1; omega,rfl,by show top (Aa _ _ _)<=c+1; rw[FB,Av]; omega,fun p hp hne=>?_⟩
    show AA (Aa _ _ _) p=_
    rw[HZ (Ne.symm hne),BP (by omega),hh1,HZ (Ne.symm hne)]
   refine⟨CE g++s,T,?_,by simp; omega,fT⟩
   simp only[Ha,strs,List.map_cons,List.map_nil] at hbs' n2' sm'
   simp[C.f35,h6,hl,n1,k0',k1',hbs',n2',sm',ad,leave,results,AP]
  ·have k1':(kv==1)=false:=by simpa using k1
   refine⟨CE g,tick st1 o vs (a+1),?_,by omega,tk _⟩
   simp[C.f35,h6,hl,n1,k0',k1',leave,results,AP]
theorem jr {c:Nat}{a b:AV}(ha:a.Bt c=true)(hb:b.Bt c=true):AV.Cq c [a,b]=true:=by simp[AV.Cq,ha,hb]
theorem gB {k:Nat}{v1 v2:AV}{r1 r2:Bw}{st:St}(h1:Mj v1 r1)(h2:Mj v2 r2)(hl:r1.right.length<1000000)(hb:top st.h<=st.c):AR E (k+2) 99 [v1,v2] st=.ret (.bool (decide (r1=r2)),st):=by
 obtain⟨w1,rfl,s1⟩:=h1
 obtain⟨w2,rfl,s2⟩:=h2
 rw[Cc (fn:=C.f99) rfl rfl rfl,Ab (by simp)]
 obtain⟨h,c,lo⟩:=st
 have hb':top h<=c:=hb
 have n1:newObj c (.cells 68 3 [.str r1.left,w1,.int .i64 r1.level] false) ⟨h,c+2,c⟩=some ⟨(c,.cells 68 3 [.str r1.left,w1,.int .i64 r1.level] false)::h,c+2,c⟩:=BC hb'
 obtain⟨ha,hha⟩:∃ha:Heap,ha=(c,Ai.cells 68 3 [.str r1.left,w1,.int .i64 r1.level] false)::h:=⟨_,rfl⟩
 have tpa:top ha<=c+1:=by rw[hha,Av]; omega
 have n2:newObj (c+1) (.cells 68 3 [.str r2.left,w2,.int .i64 r2.level] false) ⟨ha,c+2,c⟩=some ⟨(c+1,.cells 68 3 [.str r2.left,w2,.int .i64 r2.level] false)::ha,c+2,c⟩:=BC tpa
 obtain⟨hc,hhc⟩:∃hc:Heap,hc=(c+1,Ai.cells 68 3 [.str r2.left,w2,.int .i64 r2.level] false)::ha:=⟨_,rfl⟩
 rw[← hha] at n1
 rw[← hhc] at n2
 have f1:AA hc c=some (.cells 68 3 [.str r1.left,w1,.int .i64 r1.level] false):=by rw[hhc,BP (by omega),hha,BZ rfl]
 have f2:AA hc (c+1)=some (.cells 68 3 [.str r2.left,w2,.int .i64 r2.level] false):=by rw[hhc,BZ rfl]
 have a0:AQ hc (.AO c 0)=some (.str r1.left):=by rw[AL f1]; rfl
 have a1:AQ hc (.AO c 1)=some w1:=by rw[AL f1]; rfl
 have a2:AQ hc (.AO c 2)=some (.int .i64 r1.level):=by rw[AL f1]; rfl
 have b0:AQ hc (.AO (c+1) 0)=some (.str r2.left):=by rw[AL f2]; rfl
 have b1:AQ hc (.AO (c+1) 1)=some w2:=by rw[AL f2]; rfl
 have b2:AQ hc (.AO (c+1) 2)=some (.int .i64 r2.level):=by rw[AL f2]; rfl
 have he:=Jy (k:=k) (st:=⟨hc,c+2,c⟩) (Reads.Tz (h:=hc) s1) (Reads.Tz (h:=hc) s2) hl
 have hdec:decide (r1=r2)=((r1.left==r2.left)&&((r1.level==r2.level)&&decide (r1.right=r2.right))):=by
  rw[Bool.eq_iff_iff]
  obtain⟨l1,x1,n1⟩:=r1
  obtain⟨l2,x2,n2⟩:=r2
  simp only[decide_eq_true_eq,Bool.and_eq_true,beq_iff_eq,Bw.mk.injEq]
  exact⟨fun⟨a,b,c⟩=>⟨a,c,b⟩,fun⟨a,b,c⟩=>⟨a,c,b⟩⟩
 rw[hdec]
 cases e1:(r1.left==r2.left) with
 |false=>simp[C.f99,Ag,AZ,n1,n2,a0,b0,e1,leave,results,AP]
 |true=>
  cases e2:(r1.level==r2.level) with
  |false=>simp[C.f99,Ag,AZ,n1,n2,a0,b0,a2,b2,e1,e2,leave,results,AP]
  |true=>simp[C.f99,Ag,AZ,n1,n2,a0,b0,a1,b1,a2,b2,e1,e2,he,leave,results,AP]
set_option maxHeartbeats 2000000 in
theorem QV {k:Nat}{v1 v2:AV}{l1 l2:List AV}{rs1 rs2:List Bw}{st:St}(h1:Ce v1 3 l1)(h2:Ce v2 3 l2)(q1:Bg l1 rs1)(q2:Bg l2 rs2)(hs:∀r∈rs1,r.right.length<1000000)(hn:rs1.length<1000000)(hb:top st.h<=st.c)(hlo:st.lo<=st.c) :
 (AR E (k+3) 98 [v1,v2,.fn (.func 99) [] []] st).to fun x=>x.1=.bool (decide (rs1=rs2)):=by
 rw[Af (fn:=C.f98) rfl rfl rfl,Ab (by simp)]
 have e1:=q1.length
 have e2:=q2.length
 by_cases hl:rs1.length=rs2.length
 ·have hln:((l1.length:Int) !=(l2.length:Int))=false:=by rw[e1,e2,hl]; simp
  have hlen1:∀S:St,BX .slice v1 S=some (.int .i64 (l1.length:Int),S):=fun S=>h1.len
  have hlen2:∀S:St,BX .slice v2 S=some (.int .i64 (l2.length:Int),S):=fun S=>h2.len
  simp[-bne_self_eq_false,C.f98,hlen1,hlen2,hln]
  refine M.BN (KH (fun (i:Nat) ts st'=>i<=rs1.length/\top st'.h<=st'.c/\st'.lo<=st'.c/\Has ts [(1,v2),(2,.fn (.func 99) [] []),(15,v1),(16,.int .i64 (rs1.length:Int)),(17,.int .i64 (i:Int))]/\rs1.take i=rs2.take i)
   (fun i=>rs1.length-i) (fun e ts st'=>(e=.exit 0/\rs1=rs2)∨(e=.ret/\ts.get 6=.bool false/\rs1≠rs2)) ?step _ 0 _ _ ?_ ?_) ?_
  case step=>
   rintro i ts ⟨h,c,lo⟩ ⟨hi,tp,hlc,hts,htk⟩
   simp only[Gs,IY,and_true] at hts
   obtain⟨z1,z2,z15,z16,z17⟩:=hts
   by_cases BQ:i<rs1.length
   ·have tp':top h<=c:=tp
    have hlc':lo<=c:=hlc
    obtain⟨w1,a1,a2⟩:=(q1.get i BQ).2
    obtain⟨w2,b1,b2⟩:=(q2.get i (by omega)).2
    have hil1:i<l1.length:=by omega
    have hil2:i<l2.length:=by omega
    obtain⟨c1,hc1⟩:∃c1:List AV,c1=[.str rs1[i].left,w1,.int .i64 rs1[i].level]:=⟨_,rfl⟩
    obtain⟨c2,hc2⟩:∃c2:List AV,c2=[.str (rs2[i]'(by omega)).left,w2,.int .i64 (rs2[i]'(by omega)).level]:=⟨_,rfl⟩
    have ix1:AU 3 v1 (.int .i64 (i:Int)) ⟨h,c+1,lo⟩=some (.BA l1[i].cells,⟨h,c+1,lo⟩):=h1.idx hil1
    have ce1:l1[i].cells=c1:=by rw[a1,hc1]; rfl
    rw[ce1] at ix1
    have rd1:Ac h (.BA c1) 3=some c1:=by rw[hc1]; rfl
    have n1:newObj c (.cells 68 3 [.str [],.AB,.int .i64 0] false) ⟨h,c+1,lo⟩=some ⟨(c,.cells 68 3 [.str [],.AB,.int .i64 0] false)::h,c+1,lo⟩:=BC tp'
    have t1:=DK (h:=h) (c:=c) (c':=c+1) (lo:=lo) (ty:=68) (n:=3) (zs:=[.str [],.AB,.int .i64 0]) (vs:=c1) (by omega) (by rw[hc1]; rfl) rfl
    obtain⟨h',hh'⟩:∃h':Heap,h'=(c,Ai.cells 68 3 c1 false)::h:=⟨_,rfl⟩
    rw[← hh'] at t1
    have tp1:top h'<=c+1:=by rw[hh',Av]; omega
    have ix2:AU 3 v2 (.int .i64 (i:Int)) ⟨h',c+1+1,lo⟩=some (.BA l2[i].cells,⟨h',c+1+1,lo⟩):=h2.idx hil2
    have ce2:l2[i].cells=c2:=by rw[b1,hc2]; rfl
    rw[ce2] at ix2
    have rd2:Ac h' (.BA c2) 3=some c2:=by rw[hc2]; rfl
    have n2:newObj (c+1) (.cells 68 3 [.str [],.AB,.int .i64 0] false) ⟨h',c+1+1,lo⟩=some ⟨(c+1,.cells 68 3 [.str [],.AB,.int .i64 0] false)::h',c+1+1,lo⟩:=BC tp1
    have t2:=DK (h:=h') (c:=c+1) (c':=c+1+1) (lo:=lo) (ty:=68) (n:=3) (zs:=[.str [],.AB,.int .i64 0]) (vs:=c2) (by omega) (by rw[hc2]; rfl) rfl
    obtain⟨h'',hh''⟩:∃h'':Heap,h''=(c+1,Ai.cells 68 3 c2 false)::h':=⟨_,rfl⟩
    rw[← hh''] at t2
    have tp2:top h''<=c+2:=by rw[hh'',Av]; omega
    have r1:Ac h'' (.AO c 0) 3=some c1:=Bf (by rw[hh'',BP (by omega),hh',BZ rfl]) (by rw[hc1]; rfl)
    have r2:Ac h'' (.AO (c+1) 0) 3=some c2:=Bf (by rw[hh'',BZ rfl]) (by rw[hc2]; rfl)
    have hcl:=gB (k:=k) (v1:=.agg c1) (v2:=.agg c2) (r1:=rs1[i]) (r2:=rs2[i]'(by omega)) (st:=⟨h'',c+1+1,lo⟩) ⟨w1,by rw[hc1],a2⟩ ⟨w2,by rw[hc2],b2⟩ (hs _ (List.getElem_mem BQ)) tp2
    by_cases he:rs1[i]=rs2[i]'(by omega)
    ·rw[decide_eq_true he] at hcl
     simp[C.f98L0,z1,z2,z15,z16,z17,BQ,ix1,-Bh,rd1,n1,t1,ix2,rd2,n2,t2,r1,r2,hcl,wi i]
     refine⟨i+1,by omega,by omega,tp2,by omega,by simp,?_⟩
     rw[List.take_succ_eq_append_getElem BQ,List.take_succ_eq_append_getElem (show i<rs2.length by omega),htk,he]
    ·rw[decide_eq_false he] at hcl
     simp[C.f98L0,z1,z2,z15,z16,z17,BQ,ix1,-Bh,rd1,n1,t1,ix2,rd2,n2,t2,r1,r2,hcl]
     intro e; subst e; exact he rfl
   ·have:i=rs1.length:=by omega
    subst this
    simp[C.f98L0,z1,z2,z15,z16,z17]
    rw[List.take_length,hl,List.take_length] at htk
    exact htk
  ·show rs1.length-0<1000000; omega
  ·exact⟨by omega,hb,hlo,by simp[e1],by simp⟩
  ·rintro⟨e,ts,st1⟩ hh
   rcases hh with⟨rfl,hh⟩|⟨rfl,h6,hh⟩
   ·simp[leave,results,AP,hh]
   ·simp only at h6
    simp[leave,results,AP,h6,hh]
 ·have hln:((l1.length:Int) !=(l2.length:Int))=true:=by rw[e1,e2]; simp; omega
  have hlen1:∀S:St,BX .slice v1 S=some (.int .i64 (l1.length:Int),S):=fun S=>h1.len
  have hlen2:∀S:St,BX .slice v2 S=some (.int .i64 (l2.length:Int),S):=fun S=>h2.len
  have hne:rs1≠rs2:=fun e=>hl (by rw[e])
  simp[C.f98,hlen1,hlen2,hln,leave,results,AP,hne]
theorem Oy {k:Nat}{v1 v2:AV}{g1 g2:Aj}{st:St}(h1:Bo v1 g1)(h2:Bo v2 g2)(hs:g1.FP):AR E (k+4) 34 [v1,v2] st=.ret (.bool (decide (g1=g2)),st):=by
 have o1:=h1.KE 0
 have o2:=h2.KE 0
 obtain⟨kv1,rv1,l1,rfl,a1,a2,a3⟩:=h1
 obtain⟨kv2,rv2,l2,rfl,b1,b2,b3⟩:=h2
 rw[Ca (fn:=C.f34) rfl rfl rfl (jr o1 o2),Ab (by simp)]
 have hkn:=hs.kinds
 have hmany:=hs.many
 have n1:newObj 0 (.cells 29 3 [kv1,.str g1.start,rv1] false) ⟨[],2,0⟩=some ⟨[(0,.cells 29 3 [kv1,.str g1.start,rv1] false)],2,0⟩:=rfl
 obtain⟨h,hh⟩:∃h:Heap,h=[(1,Ai.cells 29 3 [kv2,.str g2.start,rv2] false),(0,.cells 29 3 [kv1,.str g1.start,rv1] false)]:=⟨_,rfl⟩
 have n2:newObj 1 (.cells 29 3 [kv2,.str g2.start,rv2] false) ⟨[(0,.cells 29 3 [kv1,.str g1.start,rv1] false)],2,0⟩=some ⟨h,2,0⟩:=by rw[hh]; rfl
 have tp:top h<=2:=by rw[hh,Av,Av]; exact⟨by omega,by omega,Nat.zero_le _⟩
 have f0:AA h 0=some (.cells 29 3 [kv1,.str g1.start,rv1] false):=by rw[hh]; rfl
 have f1:AA h 1=some (.cells 29 3 [kv2,.str g2.start,rv2] false):=by rw[hh]; rfl
 have c0:AQ h (.AO 0 0)=some kv1:=by rw[AL f0]; rfl
 have c1:AQ h (.AO 0 1)=some (.str g1.start):=by rw[AL f0]; rfl
 have c2:AQ h (.AO 0 2)=some rv1:=by rw[AL f0]; rfl
 have d0:AQ h (.AO 1 0)=some kv2:=by rw[AL f1]; rfl
 have d1:AQ h (.AO 1 1)=some (.str g2.start):=by rw[AL f1]; rfl
 have d2:AQ h (.AO 1 2)=some rv2:=by rw[AL f1]; rfl
 have he:=Jy (k:=k+2) (st:=⟨h,2,0⟩) (Reads.Tz (h:=h) a1) (Reads.Tz (h:=h) b1) (by omega)
 have hdec:decide (g1=g2)=(decide (g1.kinds=g2.kinds)&&((g1.start==g2.start)&&decide (g1.rules=g2.rules))):=by
  rw[Bool.eq_iff_iff]
  obtain⟨x1,x2,x3⟩:=g1
  obtain⟨y1,y2,y3⟩:=g2
  simp only[decide_eq_true_eq,Bool.and_eq_true,beq_iff_eq,Aj.mk.injEq]
 have main:((BB E (AR E (k+3)) C.f34.body (TS.Cy [.agg [kv1,.str g1.start,rv1],.agg [kv2,.str g2.start,rv2]] 0 .nil) ⟨[],0,0⟩).bind (leave C.f34.results)).to fun x=>x.1=.bool (decide (g1=g2)):=by
  rw[hdec]
  cases e1:decide (g1.kinds=g2.kinds) with
  |false=>
   rw[e1] at he
   simp[C.f34,Ag,AZ,n1,n2,c0,d0,he,leave,results,AP]
  |true=>
   rw[e1] at he
   cases e2:(g1.start==g2.start) with
   |false=>simp[C.f34,Ag,AZ,n1,n2,c0,d0,c1,d1,e2,he,leave,results,AP]
   |true=>
    have hr:=QV (k:=k) (st:=⟨h,2,0⟩) a2 b2 a3 b3 (fun r hr=>by have:=(hs.rules r hr).right; omega) (by omega) tp (Nat.zero_le _)
    simp[C.f34,Ag,AZ,n1,n2,c0,d0,c1,d1,c2,d2,e2,he,leave,results,AP]
    refine M.BN hr fun x hx=>?_
    obtain⟨w,S⟩:=x
    simp only at hx
    subst hx
    simp
 obtain⟨⟨w,S⟩,m1,m2⟩:=main
 simp only at m2
 subst m2
 rw[m1,M.Iy]
 exact Cs rfl
theorem aD {o:Nat}{vs:AV}{a:Int}{st st':St}(K:Br st.c o vs a st st')(hc:st'.c=st.c)(hh:HO st)(hvs:vs.Bt st.c=true):HO st':=by
 intro p x hm
 have hp:=K.hb p x hm
 rcases K.mem p x hm (by omega) with h|⟨rfl,b,rfl⟩
 ·rw[hc]; exact hh p x h
 ·rw[hc]; simp[Ai.Bt,AV.Cq,AV.Bt,hvs]
end Go.Am
