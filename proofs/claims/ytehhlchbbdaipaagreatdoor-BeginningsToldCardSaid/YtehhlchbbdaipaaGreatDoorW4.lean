/- A part of the proof of beginningsTold (merged by a program). -/
import Derived.Test.YtehhlchbbdaipaaGreatDoorW7
namespace Go.Am
open Go
theorem Vb {k n fc:Nat}{w:AV}{a b:List AV}{el:Nat->Int}{p:Nat->Bool}{st:St}(hlen:Bq w=some n)(hn:n<1000000)(hat:∀i,i<n->∃q,Aa 1 w (.int .i64 (i:Int)) st=some (q,st)/\AP st.h q=some (.int .i64 (el i)))(hcall:∀i,i<n->AU E k fc (a++([.int .i64 (el i)]++b)) st=.ret (.bool (p i),st)) :
 ∃r:Int,AU E (k+1) 189 [w,.fn (.func fc) a b] st=.ret (.int .i64 r,st)/\-1<=r/\(0<=r↔∃i,i<n/\p i=true):=by
 have main:(Dj E (AU E k) C.f189 [w,.fn (.func fc) a b] st).to fun x=>∃r:Int,x=(.int .i64 r,st)/\-1<=r/\(0<=r↔∃i,i<n/\p i=true):=by
  rw[Ad (by simp)]
  simp[C.f189,BO,hlen]
  refine M.Al (DU (fun (i:Nat) ts st'=>st'=st/\i<=n/\ts.get 0=w/\ts.get 1=.fn (.func fc) a b/\ts.get 7=.int .i64 (n:Int)/\ts.get 8=.int .i64 (i:Int)/\∀j,j<i->p j=false)
   (fun i=>n-i) (fun e ts st'=>st'=st/\((e=.exit 0/\∀j,j<n->p j=false)∨(e=.ret/\∃i:Nat,i<n/\p i=true/\ts.get 4=.int .i64 (i:Int)))) ?step _ 0 _ _ ?_ ?_) ?_
  case step=>
   rintro i ts st' ⟨rfl,hi,h0,h1,h7,h8,hj⟩
   by_cases Au:i<n
   ·obtain⟨q,a1,b1⟩:=hat i Au
    have hc:=hcall i Au
    simp only[List.singleton_append] at hc
    cases hp:p i with
    |true=>
     rw[hp] at hc
     simp[C.f189L0,h0,h1,h7,h8,Au,a1,b1,hc]
     exact⟨i,Au,hp,rfl⟩
    |false=>
     rw[hp] at hc
     simp[C.f189L0,h0,h1,h7,h8,Au,a1,b1,hc,wi i]
     refine⟨i+1,by omega,by omega,by simp,fun j hji=>?_⟩
     by_cases e:j=i
     ·subst e; exact hp
     ·exact hj j (by omega)
   ·have:i=n:=by omega
    subst this
    simp[C.f189L0,h0,h1,h7,h8]
    exact hj
  ·show n-0<1000000; omega
  ·simp
  ·rintro⟨e,ts,st'⟩ ⟨rfl,h⟩
   rcases h with⟨rfl,h⟩|⟨rfl,i,hi,hp,h4⟩
   ·simp[leave,results,AY]
    intro i hi; simp[h i hi]
   ·simp[h4,leave,results,AY]
    exact⟨i,hi,hp⟩
 rw[Ap (fn:=C.f189) rfl rfl rfl]
 obtain⟨x,h1,r,rfl,h2⟩:=main
 exact⟨r,h1,h2⟩
theorem MR {k n fc:Nat}{w:AV}{a b:List AV}{el:Nat->Int}{p:Nat->Bool}{st:St}(hlen:Bq w=some n)(hn:n<1000000)(hat:∀i,i<n->∃q,Aa 1 w (.int .i64 (i:Int)) st=some (q,st)/\AP st.h q=some (.int .i64 (el i)))(hcall:∀i,i<n->AU E k fc (a++([.int .i64 (el i)]++b)) st=.ret (.bool (p i),st)) :
 AU E (k+2) 135 [w,.fn (.func fc) a b] st=.ret (.bool (decide (∃i,i<n/\p i=true)),st):=by
 obtain⟨r,h1,h2,h3⟩:=Vb hlen hn hat hcall
 rw[Ap (fn:=C.f135) rfl rfl rfl,Ad (by simp)]
 have:decide (0<=r)=decide (∃i,i<n/\p i=true):=by simp only[h3]
 simp[C.f135,h1,leave,results,AY]
 simpa using this
def BJ (l:List Bool):List AV:=l.map .bool
@[simp] theorem PY (l:List Bool):(BJ l).length=l.length:=by simp[BJ]
theorem bools_get? (B:List Bool)(j:Nat)(h:j<B.length):(BJ B)[j]?=some (.bool (B.getD j false)):=by simp[BJ,List.getD,h]
theorem Jl (B:List Bool)(j:Nat)(b:Bool):(BJ B).set j (.bool b)=BJ (B.set j b):=by simp[BJ,List.map_set]
theorem DT {B:List Bool}{i:Nat}{a:Bool}(h:i<B.length)(p:Nat):(B.set i a).getD p false=if p=i then a else B.getD p false:=by
 simp only[List.getD,List.getElem?_set]
 by_cases e:p=i
 ·subst e; simp[h]
 ·rw[if_neg (Ne.symm e),if_neg e]
theorem BI.jX {v:AV}{l:List Nat}{st:St}(h:BI v 1 (ints l)){i:Nat}(hi:i<l.length):Aa 1 v (.int .i64 i) st=some (.BC [.int .i64 (l[i]:Nat)],st):=by
 rw[h.idx (by simpa using hi)]; simp[ints,AV.cells]
theorem uV {k A ib n:Nat}{B:List Bool}{x:Nat}{st:St}(hA:AA st.h A=some (.cells 4 1 (BJ B) false))(hn:B.length=n)(hib:AA st.h ib=some (.cells 79 1 [.AQ A 0 n (some n)] false))(hx:x<n) :
 AU E (k+1) 187 [.int .i64 (x:Int),.AO ib 0] st=.ret (.bool (!B.getD x false),st):=by
 rw[BS (fn:=C.f187) rfl rfl rfl,Ad (by simp)]
 have r:AP st.h (.AO ib 0)=some (.AQ A 0 n (some n)):=by rw[AB hib]; rfl
 have rA:AP st.h (.AO A x)=some (.bool (B.getD x false)):=by rw[AB hA,bools_get? _ _ (by omega)]
 have ix:=Gc (st:=⟨st.h,st.c,st.c⟩) (n:=n) (cap:=some n) hA hx
 generalize B.getD x false=b at rA
 simp[C.f187,r,ix,rA,leave,results,AY]
theorem rP {k A ib n:Nat}{B:List Bool}{w:AV}{l:List Nat}{st:St}(hw:BI w 1 (ints l))(hl:l.length<=1000)(hln:∀x∈l,x<n)(hA:AA st.h A=some (.cells 4 1 (BJ B) false))(hn:B.length=n)(hib:AA st.h ib=some (.cells 79 1 [.AQ A 0 n (some n)] false)) :
 AU E (k+3) 135 [w,.fn (.func 187) [] [.AO ib 0]] st=.ret (.bool (!l.all fun x=>B.getD x false),st):=by
 have hc:=MR (k:=k+1) (n:=l.length) (fc:=187) (w:=w) (a:=[]) (b:=[.AO ib 0]) (el:=fun j=>(l.getD j 0:Nat)) (p:=fun j=>!B.getD (l.getD j 0) false) (st:=st)
  (by rw[hw.QL]; simp) (by omega) (fun i hi=>⟨_,hw.jX hi,by simp[List.getD,hi]⟩) (fun i hi=>uV hA hn hib (by
   have:l.getD i 0=l[i]:=by simp[List.getD,hi]
   rw[this]; exact hln _ (List.getElem_mem hi)))
 have e:decide (∃i,i<l.length/\(!B.getD (l.getD i 0) false)=true)=!l.all fun x=>B.getD x false:=by
  rw[Bool.eq_iff_iff]
  simp only[decide_eq_true_eq,Bool.not_eq_true',List.all_eq_false]
  constructor
  ·rintro⟨i,hi,h⟩
   have e:l.getD i 0=l[i]:=by simp[List.getD,hi]
   rw[e] at h
   exact⟨l[i],List.getElem_mem hi,by rw[h]; simp⟩
  ·rintro⟨s,hs,h⟩
   obtain⟨i,hi,rfl⟩:=List.getElem_of_mem hs
   have e:l.getD i 0=l[i]:=by simp[List.getD,hi]
   exact⟨i,hi,by rw[e]; simpa using h⟩
 rw[e] at hc
 exact hc
def okB (g:AX)(B:List Bool)(r:Ba):Bool:=(r.right.map g.ix).all fun x=>B.getD x false
def QU (g:AX)(B:List Bool):Nat:=g.rules.countP fun r=>!B.getD (g.ix r.left) false
theorem nG {g:AX}{B B':List Bool}(h:∀x,B.getD x false=true->B'.getD x false=true){r:Ba}(hr:r∈g.rules)(h1:B.getD (g.ix r.left) false=false)(h2:B'.getD (g.ix r.left) false=true):QU g B'<QU g B:=
 Jk (fun x _ hx=>by
  cases hb:B.getD (g.ix x.left) false with
  |true=>rw[h _ hb] at hx; cases hx
  |false=>rfl) hr (by rw[h2]; rfl) (by rw[h1]; rfl)
theorem Rj {g:AX}{s:Aj}(h:s∈g.names):g.ix s<g.names.length:=(DF h).1
theorem dm {g:AX}(hok:g.Ok){B:List Bool}{base:Aj->Prop}(hB:∀s,s∈g.names->B.getD (g.ix s) false=true->VB base g s){r:Ba}(hr:r∈g.rules)(h:okB g B r=true):VB base g r.left:=by
 refine .KP hr fun x hx=>?_
 unfold okB at h
 rw[List.all_eq_true] at h
 exact hB x (AX.FK hok hr hx) (h _ (List.mem_map_of_mem hx))
theorem Za {g:AX}(hok:g.Ok){B:List Bool}{base:Aj->Prop}(hb:∀s,base s->B.getD (g.ix s) false=true)(hc:∀r∈g.rules,okB g B r=true->B.getD (g.ix r.left) false=true){s:Aj}(h:VB base g s):B.getD (g.ix s) false=true:=by
 induction h with
 |base h=>exact hb _ h
 |KP hr _ ih=>
  refine hc _ hr ?_
  unfold okB
  rw[List.all_eq_true]
  intro x hx
  obtain⟨y,hy,rfl⟩:=List.mem_map.1 hx
  exact ih y hy
structure EV (cv:AV)(A ib gb n:Nat)(B:List Bool)(st:St):Prop where
 hb:HB st
 lo:st.lo<=A
 a:AA st.h A=some (.cells 4 1 (BJ B) false)
 len:B.length=n
 i:AA st.h ib=some (.cells 79 1 [.AQ A 0 n (some n)] false)
 g:AA st.h gb=some (.cells 77 1 [cv] false)
 ids:A<st.c/\ib<st.c/\gb<st.c/\A≠ib/\A≠gb/\st.lo<=st.c
section
variable {cv:AV}{g:AX}{A ib gb:Nat}{base:Aj->Prop}
set_option maxHeartbeats 2000000 in
theorem Xw {k:Nat}(hC:FC cv g)(hs:g.Small)(hok:g.Ok)(rv:AV)(lr:List AV)(h2:BI rv 3 lr)(h3:lr.length=g.rules.length)(h4:∀j (hj:j<g.rules.length),∃w,lr[j]?=some (.agg [.int .i64 (g.ix g.rules[j].left:Nat),w,.int .i64 g.rules[j].level])/\BI w 1 (ints (g.rules[j].right.map g.ix)))(B0:List Bool)(st:St)(H:EV cv A ib gb g.names.length B0 st)(hB0:∀s,s∈g.names->B0.getD (g.ix s) false=true->VB base g s)(ts0:TS)(z0:ts0.get 0=.AO gb 0)(z1:ts0.get 1=.AO ib 0)(z3:ts0.get 3=.bool false)(z9:ts0.get 9=rv)(z10:ts0.get 10=.int .i64 (g.rules.length:Int))(z11:ts0.get 11=.int .i64 ((0:Nat):Int)) :
 (CJ (Ar E (AU E (k+3)) C.f186L0) E.k ts0 st).to fun x=>x.1=.exit 0/\∃B more,x.2.1.get 3=.bool more/\EV cv A ib gb g.names.length B x.2.2/\(∀s,s∈g.names->B.getD (g.ix s) false=true->VB base g s)/\(∀x,B0.getD x false=true->B.getD x false=true) /\
  ((more=true/\QU g B<QU g B0)∨(more=false/\∀r∈g.rules,okB g B r=true->B.getD (g.ix r.left) false=true)):=by
 have hmany:=hs.many
 refine Be (fun (i:Nat) ts st=>i<=g.rules.length/\ts.get 0=.AO gb 0/\ts.get 1=.AO ib 0/\ts.get 9=rv/\ts.get 10=.int .i64 (g.rules.length:Int)/\ts.get 11=.int .i64 (i:Int)/\∃B more,ts.get 3=.bool more/\EV cv A ib gb g.names.length B st/\(∀s,s∈g.names->B.getD (g.ix s) false=true->VB base g s)/\(∀x,B0.getD x false=true->B.getD x false=true) /\
  ((more=true/\QU g B<QU g B0)∨(more=false/\B=B0/\∀j (hj:j<g.rules.length),j<i->okB g B g.rules[j]=true->B.getD (g.ix g.rules[j].left) false=true)))
  (fun i=>g.rules.length-i) ?_ _ 0 _ _ ?_ ?_
 ·rintro i ts st ⟨hi,z0,z1,z9,z10,z11,B,more,z3,H,hB,hBB,hM⟩
  by_cases Au:i<g.rules.length
  ·have hil:i<lr.length:=by omega
   obtain⟨w,e1,e2⟩:=h4 i Au
   rw[List.getElem?_eq_getElem hil,Option.some.injEq] at e1
   have hmem:=List.getElem_mem Au
   have hsr:=(hs.rules _ hmem).right
   obtain⟨h,c,lo⟩:=st
   have hb':∀p x,(p,x)∈h->p<c:=H.hb
   obtain⟨i1,i2,i3,i4,i5,i6⟩:=H.ids
   have i1':A<c:=i1
   have i2':ib<c:=i2
   have i3':gb<c:=i3
   have i6':lo<=c:=i6
   obtain⟨sI,hsI⟩:∃s,s=g.ix g.rules[i].left:=⟨_,rfl⟩
   have hsn:sI<g.names.length:=hsI ▸ Rj (AX.Ch hmem)
   rw[← hsI] at e1
   obtain⟨rc,hrc⟩:∃rc:List AV,rc=[.int .i64 (sI:Int),w,.int .i64 g.rules[i].level]:=⟨_,rfl⟩
   obtain⟨h',hh'⟩:∃h':Af,h'=(c,Ai.cells 160 3 rc false)::h:=⟨_,rfl⟩
   have hbS:HB ⟨h',c+1,lo⟩:=hh' ▸ HB.cons (h:=h) (c:=c) (lo:=lo) H.hb (by omega) (by omega)
   have fr:∀p,p<c->AA h' p=AA h p:=fun p hp=>by rw[hh',Ao hp]
   have H':EV cv A ib gb g.names.length B ⟨h',c+1,lo⟩:=⟨hbS,H.lo,(fr A i1').trans H.a,H.len,(fr ib i2').trans H.i,(fr gb i3').trans H.g,by
    refine⟨?_,?_,?_,i4,i5,?_⟩
    ·show A<c+1; omega
    ·show ib<c+1; omega
    ·show gb<c+1; omega
    ·show lo<=c+1; omega⟩
   have hix:Aa 3 rv (.int .i64 (i:Int)) ⟨h,c+1,lo⟩=some (.BC lr[i].cells,⟨h,c+1,lo⟩):=h2.idx hil
   have hcells:lr[i].cells=rc:=by rw[e1,hrc]; rfl
   rw[hcells] at hix
   have hn:newObj c (.cells 160 3 [.int .i64 0,.AJ,.int .i64 0] false) ⟨h,c+1,lo⟩=some ⟨(c,.cells 160 3 [.int .i64 0,.AJ,.int .i64 0] false)::h,c+1,lo⟩:=Ac hb'
   have hst:=CO (h:=h) (c:=c) (c':=c+1) (lo:=lo) (ty:=160) (n:=3) (zs:=[.int .i64 0,.AJ,.int .i64 0]) (vs:=rc) (by omega) (by rw[hrc]; rfl) rfl
   rw[← hh'] at hst
   have hrd3:AZ h (.BC rc) 3=some rc:=by rw[hrc]; rfl
   have fc:AA h' c=some (.cells 160 3 rc false):=by rw[hh',AL,if_pos rfl]
   have rc0:AP h' (.AO c 0)=some (.int .i64 (sI:Int)):=by rw[AB fc,hrc]; rfl
   have rc1:AP h' (.AO c 1)=some w:=by rw[AB fc,hrc]; rfl
   have ri:AP h' (.AO ib 0)=some (.AQ A 0 g.names.length (some g.names.length)):=by rw[AB H'.i]; rfl
   have ixA:=Gc (st:=⟨h',c+1,lo⟩) (n:=g.names.length) (cap:=some g.names.length) H'.a hsn
   have hlenB:=H'.len
   have rA:AP h' (.AO A sI)=some (.bool (B.getD sI false)):=by rw[AB H'.a,bools_get? _ _ (by omega)]
   have hbad:=rP (k:=k) (l:=g.rules[i].right.map g.ix) (st:=⟨h',c+1,lo⟩) e2 (by simp; omega) (fun x hx=>by
    obtain⟨y,hy,rfl⟩:=List.mem_map.1 hx
    exact Rj (AX.FK hok hmem hy)) H'.a H'.len H'.i
   have hbad':AU E (k+3) 135 [w,.fn (.func 187) [] [.AO ib 0]] ⟨h',c+1,lo⟩=.ret (.bool (!okB g B g.rules[i]),⟨h',c+1,lo⟩):=hbad
   have hnext:∀B':List Bool,B'=B->(∀j (hj:j<g.rules.length),j<i->okB g B g.rules[j]=true->B.getD (g.ix g.rules[j].left) false=true)->(okB g B g.rules[i]=true->B.getD (g.ix g.rules[i].left) false=true)->∀j (hj:j<g.rules.length),j<i+1->okB g B g.rules[j]=true->B.getD (g.ix g.rules[j].left) false=true:=fun _ _ hall hthis j hj hji=>by
    rcases Nat.lt_or_ge j i with h|h
    ·exact hall j hj h
    ·have:j=i:=by omega
     subst this; exact hthis
   cases hin:B.getD sI false with
   |true=>
    rw[hin] at rA
    simp[-Bool.exists_bool,-List.getD_eq_getElem?_getD,C.f186L0,Az,Av,z0,z1,z3,z9,z10,z11,Au,hix,-Aw,hrd3,hn,hst,ri,rc0,ixA,rA,wi i]
    refine⟨i+1,by omega,by omega,by simp,B,H',hB,hBB,?_⟩
    rcases hM with⟨m1,m2⟩|⟨m1,m2,m3⟩
    ·exact .inl ⟨m1,m2⟩
    ·exact .inr ⟨m1,m2,hnext B rfl m3 fun _=>by rw[← hsI]; exact hin⟩
   |false=>
    rw[hin] at rA
    cases hok':okB g B g.rules[i] with
    |false=>
     rw[hok'] at hbad'
     simp[-Bool.exists_bool,-List.getD_eq_getElem?_getD,C.f186L0,Az,Av,z0,z1,z3,z9,z10,z11,Au,hix,-Aw,hrd3,hn,hst,ri,rc0,rc1,ixA,rA,hbad',wi i]
     refine⟨i+1,by omega,by omega,by simp,B,H',hB,hBB,?_⟩
     rcases hM with⟨m1,m2⟩|⟨m1,m2,m3⟩
     ·exact .inl ⟨m1,m2⟩
     ·exact .inr ⟨m1,m2,hnext B rfl m3 fun h=>by rw[hok'] at h; cases h⟩
    |true=>
     rw[hok'] at hbad'
     have s1:=BX (st:=⟨h',c+1,lo⟩) (off:=sI) (v:=.bool true) H'.a H'.lo (by simp; omega) rfl rfl
     rw[Jl] at s1
     simp[-Bool.exists_bool,-List.getD_eq_getElem?_getD,C.f186L0,Az,Av,z0,z1,z3,z9,z10,z11,Au,hix,-Aw,hrd3,hn,hst,ri,rc0,rc1,ixA,rA,hbad',s1,wi i]
     have hsB:sI<B.length:=by omega
     have hg':∀x,B.getD x false=true->(B.set sI true).getD x false=true:=fun x hx=>by
      rw[DT hsB]; split
      ·rfl
      ·exact hx
     have F:∀p,p≠A->AA (Ab h' A (.cells 4 1 (BJ (B.set sI true)) false)) p=AA h' p:=fun p hp=>by rw[AR H'.a,if_neg (Ne.symm hp)]
     refine⟨i+1,by omega,by omega,by simp,B.set sI true,⟨HB.Ab (st:=⟨h',c+1,lo⟩) hbS,H'.lo,?_,by simpa using H'.len,(F ib (Ne.symm i4)).trans H'.i,(F gb (Ne.symm i5)).trans H'.g,H'.ids⟩,fun s hs hx=>?_,fun x hx=>hg' x (hBB x hx),?_⟩
     ·show AA (Ab h' A _) A=_
      rw[AR H'.a,if_pos rfl]
     ·rw[DT hsB] at hx
      split at hx
      ·rename_i e
       have:=dm hok hB hmem hok'
       have es:s=g.rules[i].left:=by
        obtain⟨q1,q2⟩:=DF hs
        obtain⟨q3,q4⟩:=DF (AX.Ch hmem)
        have e':GY s g.names=GY g.rules[i].left g.names:=e.trans hsI
        rw[← q2,← q4]; simp only[e']
       rw[es]; exact this
      ·exact hB s hs hx
     ·have hlt':QU g (B.set sI true)<QU g B:=nG hg' hmem (by rw[← hsI]; exact hin) (by rw[← hsI,DT hsB,if_pos rfl])
      rcases hM with⟨m1,m2⟩|⟨m1,m2,m3⟩
      ·omega
      ·rw[← m2]; exact hlt'
  ·have:i=g.rules.length:=by omega
   subst this
   simp[-Bool.exists_bool,-List.getD_eq_getElem?_getD,C.f186L0,z0,z1,z3,z9,z10,z11]
   refine⟨B,H,hB,hBB,?_⟩
   rcases hM with⟨m1,m2⟩|⟨m1,m2,m3⟩
   ·exact .inl ⟨m1,m2⟩
   ·refine .inr ⟨m1,fun r hr=>?_⟩
    obtain⟨j,hj,rfl⟩:=List.getElem_of_mem hr
    exact m3 j hj hj
 ·show g.rules.length-0<1000000; omega
 ·exact⟨by omega,z0,z1,z9,z10,z11,B0,false,z3,H,hB0,fun _ h=>h,.inr ⟨rfl,rfl,fun j _ h=>by omega⟩⟩
end
section
variable {cv:AV}{g:AX}{A ib gb:Nat}{base:Aj->Prop}
theorem aB {k:Nat}(hC:FC cv g)(hs:g.Small)(hok:g.Ok)(B0:List Bool)(st:St)(H:EV cv A ib gb g.names.length B0 st)(hB0:∀s,s∈g.names->B0.getD (g.ix s) false=true->VB base g s) :
 (AU E (k+4) 186 [.AO gb 0,.AO ib 0] st).to fun x=>∃B more,x.1=.bool more/\EV cv A ib gb g.names.length B x.2/\(∀s,s∈g.names->B.getD (g.ix s) false=true->VB base g s)/\(∀x,B0.getD x false=true->B.getD x false=true) /\
  ((more=true/\QU g B<QU g B0)∨(more=false/\∀r∈g.rules,okB g B r=true->B.getD (g.ix r.left) false=true)):=by
 obtain⟨nv,rv,ov,lr,lo,e0,h1,h2,h3,h4,h5,h6,h7⟩:=hC.out
 rw[Ap (fn:=C.f186) rfl rfl rfl,Ad (by simp)]
 have rg:AP st.h (.AO gb 0)=some cv:=by rw[AB H.g]; rfl
 have hlr:∀S':St,BO .slice rv S'=some (.int .i64 (g.rules.length:Int),S'):=fun S'=>by have:=h2.len (st:=S'); rw[this,h3]
 rw[e0] at rg
 simp[-Bool.exists_bool,-List.getD_eq_getElem?_getD,C.f186,rg,hlr]
 refine M.Al (Xw (k:=k) hC hs hok rv lr h2 h3 h4 B0 st H hB0 _ (by simp) (by simp) (by simp) (by simp) (by simp) (by simp)) fun x hx=>?_
 obtain⟨e,ts1,st1⟩:=x
 obtain⟨ee,B,more,g3,H',hB,hBB,hM⟩:=hx
 simp only at ee g3 H'
 subst ee
 simp[-Bool.exists_bool,-List.getD_eq_getElem?_getD,g3,leave,results,AY]
 exact⟨B,H',hB,hBB,hM⟩
theorem Xx {k:Nat}(hC:FC cv g)(hs:g.Small)(hok:g.Ok)(B0:List Bool)(st:St)(H:EV cv A ib gb g.names.length B0 st)(hB0:∀s,s∈g.names->B0.getD (g.ix s) false=true->VB base g s)(hb:∀s,base s->B0.getD (g.ix s) false=true) :
 (AU E (k+5) 156 [.fn (.func 186) [] [.AO gb 0,.AO ib 0]] st).to fun x=>∃B,EV cv A ib gb g.names.length B x.2/\(∀s,s∈g.names->(B.getD (g.ix s) false=true↔VB base g s)):=by
 have hmany:=hs.many
 have hcnt:QU g B0<=g.rules.length:=List.countP_le_length
 rw[Ap (fn:=C.f156) rfl rfl rfl,Ad (by simp)]
 simp[-Bool.exists_bool,-List.getD_eq_getElem?_getD,C.f156]
 refine M.Al (DU (fun (n:Nat) ts st=>ts.get 0=.fn (.func 186) [] [.AO gb 0,.AO ib 0]/\∃B,EV cv A ib gb g.names.length B st/\(∀s,s∈g.names->B.getD (g.ix s) false=true->VB base g s)/\(∀x,B0.getD x false=true->B.getD x false=true)/\QU g B<n)
  (fun n=>n) (fun e ts st=>e=.exit 0/\∃B,EV cv A ib gb g.names.length B st/\(∀s,s∈g.names->(B.getD (g.ix s) false=true↔VB base g s))) ?step _ (g.rules.length+1) _ _ ?_ ?_) ?_
 case step=>
  rintro n ts st ⟨z0,B,H,hB,hBB,Au⟩
  have pass:=aB (k:=k) hC hs hok B st H hB
  simp[-Bool.exists_bool,-List.getD_eq_getElem?_getD,C.f156L0,z0]
  refine M.Al pass fun x hx=>?_
  obtain⟨v,st1⟩:=x
  obtain⟨B',more',e1,H',hB',hBB',hM⟩:=hx
  simp only at e1 H'
  subst e1
  rcases hM with⟨rfl,m2⟩|⟨rfl,m2⟩
  ·simp[-Bool.exists_bool,-List.getD_eq_getElem?_getD,z0]
   exact⟨QU g B,Au,⟨B',H',hB',fun x hx=>hBB' x (hBB x hx),m2⟩⟩
  ·simp[-Bool.exists_bool,-List.getD_eq_getElem?_getD,z0]
   exact⟨B',H',fun s hs=>⟨hB' s hs,Za hok (fun s h=>hBB' _ (hBB _ (hb s h))) m2⟩⟩
 ·show g.rules.length+1<1000000; omega
 ·exact⟨by simp,B0,H,hB0,fun _ h=>h,by omega⟩
 ·rintro⟨e,ts,st1⟩ ⟨e1,B,H',hB⟩
  simp only at e1 H'
  subst e1
  simp[-List.getD_eq_getElem?_getD,leave,results,AY]
  exact⟨B,H',hB⟩
theorem TM {k:Nat}(hC:FC cv g)(hs:g.Small)(hok:g.Ok)(B0:List Bool)(st:St)(hb:HB st)(hlo:st.lo<=A)(hA:A<st.c)(hf:AA st.h A=some (.cells 4 1 (BJ B0) false))(hl:B0.length=g.names.length)(hB0:∀s,s∈g.names->B0.getD (g.ix s) false=true->base s)(hbase:∀s,base s->B0.getD (g.ix s) false=true) :
 (AU E (k+6) 126 [cv,.AQ A 0 g.names.length (some g.names.length)] st).to fun x=>x.1=.AQ A 0 g.names.length (some g.names.length)/\∃B,AA x.2.h A=some (.cells 4 1 (BJ B) false)/\B.length=g.names.length/\(∀s,s∈g.names->(B.getD (g.ix s) false=true↔VB base g s)):=by
 obtain⟨nv,rv,ov,lr,lo',e0,_⟩:=hC.out
 rw[Ap (fn:=C.f126) rfl rfl rfl,Ad (by simp)]
 obtain⟨h,c,lo⟩:=st
 have hA':A<c:=hA
 have hlo':lo<=A:=hlo
 have hbx:Dr c 77 1 cv=some (.AO c 0,.cells 77 1 [cv] false):=by rw[e0]; rfl
 have hbx2:Dr (c+1) 79 1 (.AQ A 0 g.names.length (some g.names.length))=some (.AO (c+1) 0,.cells 79 1 [.AQ A 0 g.names.length (some g.names.length)] false):=rfl
 have n1:newObj c (.cells 77 1 [cv] false) ⟨h,c+2,lo⟩=some ⟨(c,.cells 77 1 [cv] false)::h,c+2,lo⟩:=Ac hb
 have hb1:HB ⟨(c,.cells 77 1 [cv] false)::h,c+1,lo⟩:=HB.cons (h:=h) (c:=c) (lo:=lo) hb (by omega) (by omega)
 have n2:newObj (c+1) (.cells 79 1 [.AQ A 0 g.names.length (some g.names.length)] false) ⟨(c,.cells 77 1 [cv] false)::h,c+2,lo⟩=some ⟨(c+1,.cells 79 1 [.AQ A 0 g.names.length (some g.names.length)] false)::(c,.cells 77 1 [cv] false)::h,c+2,lo⟩:=Ac hb1
 obtain⟨S,hS⟩:∃S:St,S=⟨(c+1,.cells 79 1 [.AQ A 0 g.names.length (some g.names.length)] false)::(c,.cells 77 1 [cv] false)::h,c+2,lo⟩:=⟨_,rfl⟩
 rw[← hS] at n2
 have EV0:EV cv A (c+1) c g.names.length B0 S:=by
  subst hS
  refine⟨HB.cons (h:=(c,.cells 77 1 [cv] false)::h) (c:=c+1) (lo:=lo) hb1 (by omega) (by omega),hlo',?_,hl,?_,?_,?_,?_,?_,by omega,by omega,?_⟩
  ·show AA (_::_::h) A=_; rw[Ao (by omega),Ao hA']; exact hf
  ·show AA (_::_::h) (c+1)=_; rw[AL,if_pos rfl]
  ·show AA (_::_::h) c=_; rw[Ao (by omega),AL,if_pos rfl]
  ·show A<c+2; omega
  ·show c+1<c+2; omega
  ·show c<c+2; omega
  ·show lo<=c+2; omega
 have gr:=Xx (k:=k) (base:=base) hC hs hok B0 S EV0 (fun s hs h=>.base (hB0 s hs h)) hbase
 simp[-List.getD_eq_getElem?_getD,C.f126,hbx,hbx2,n1,n2]
 refine M.Al gr fun x hx=>?_
 obtain⟨v,st1⟩:=x
 obtain⟨B,H',hB⟩:=hx
 simp only at H'
 have ri:AP st1.h (.AO (c+1) 0)=some (.AQ A 0 g.names.length (some g.names.length)):=by rw[AB H'.i]; rfl
 simp[-List.getD_eq_getElem?_getD,ri,leave,results,AY]
 exact⟨B,H'.a,H'.len,hB⟩
end
theorem OH (c:Nat)(l:List Bool):AV.CL c (BJ l)=true:=JE fun x hx=>by
 simp only[BJ,List.mem_map] at hx
 obtain⟨n,_,rfl⟩:=hx; rfl
theorem BI.uH {v:AV}{l:List Bool}(h:BI v 1 (BJ l))(c:Nat):v.Bw c=true:=by
 rcases h.out with⟨rfl,_⟩|⟨t,rfl⟩
 ·rfl
 ·exact OH c _
theorem OB {h:Af}{A n:Nat}{B:List Bool}(hf:AA h A=some (.cells 4 1 (BJ B) false))(hl:B.length=n):Bp 0 h 64 (.AQ A 0 n (some n))=some (.list true 1 (BJ B)):=by
 have ht:CP (Bp 0 h 63) (((BJ B).drop 0).take (n*1))=some (BJ B):=by
  rw[List.drop_zero,Nat.mul_one,List.take_of_length_le (by simp; omega)]; exact DY (OH 0 _)
 rw[FN (Nat.zero_le _) hf (by omega) (by simp; omega) ht]
 have:rows 1 n (BJ B)=BJ B:=by
  have:=IZ (BJ B); rwa [PY,hl] at this
 simp[this,beq_eq]
theorem Ox {o n:Nat}(hn:n<=1000):GH o 4 1 1 [.bool false] (.int .i64 (n:Int)) (.int .i64 (n:Int))=some (.AQ o 0 n (some n),.cells 4 1 (BJ (List.replicate n false)) false):=by
 have hroom:n*1<=room/\n<=room:=by unfold room; constructor <;> omega
 simp[GH,Bb,ble_eq,blt_eq,beq_eq,hroom.2,Lj,BJ]
theorem LJ {k:Nat}{cv:AV}{g:AX}{st:St}(hC:FC cv g)(hs:g.Small)(hok:g.Ok) :
 ∃w B,AU E (k+7) 58 [cv] st=.ret (w,st)/\BI w 1 (BJ B)/\B.length=g.names.length/\∀s,s∈g.names->(B.getD (g.ix s) false=true↔Im g s):=by
 have hold:=hC.Gi 0
 have hnl:=AX.DD hs
 obtain⟨nv,rv,ov,lr,lo',e0,h1,_⟩:=hC.out
 rw[BZ (fn:=C.f58) rfl rfl rfl (by simp[AV.CL,hold]),Ad (by simp)]
 have hln:∀S':St,BO .slice nv S'=some (.int .i64 (g.names.length:Int),S'):=fun S'=>by have:=h1.len (st:=S'); simpa using this
 have hmk:=Ox (o:=0) (n:=g.names.length) (by omega)
 obtain⟨S,hS⟩:∃S:St,S=⟨[(0,.cells 4 1 (BJ (List.replicate g.names.length false)) false)],1,0⟩:=⟨_,rfl⟩
 have hn:newObj 0 (.cells 4 1 (BJ (List.replicate g.names.length false)) false) ⟨[],1,0⟩=some S:=by rw[hS]; rfl
 have hb:HB S:=by
  subst hS
  intro p x hp
  rcases List.mem_cons.1 hp with e|e
  ·cases e; exact Nat.zero_lt_one
  ·cases e
 have hf:AA S.h 0=some (.cells 4 1 (BJ (List.replicate g.names.length false)) false):=by rw[hS]; rfl
 have hrep:∀x,(List.replicate g.names.length false).getD x false=false:=fun x=>by
  simp only[List.getD,List.getElem?_replicate]; split <;> rfl
 have run:=TM (k:=k) (A:=0) (base:=fun _=>False) hC hs hok (List.replicate g.names.length false) S hb (by rw[hS]; exact Nat.le_refl _) (by rw[hS]; exact Nat.zero_lt_one) hf (by simp) (fun s _ h=>by rw[hrep] at h; cases h) (fun s h=>h.elim)
 obtain⟨⟨v,st1⟩,r1,r2,B,r3,r4,r5⟩:=run
 simp only at r2 r3
 subst r2
 refine⟨.list true 1 (BJ B),B,?_,⟨.inr ⟨_,rfl⟩⟩,r4,r5⟩
 subst e0
 simp[C.f58,hln,hmk,hn,r1,leave,results,AY,BA,Bu,OB r3 r4]
theorem Vp {n:Nat}{g:AX}{m:Nat}(hm:m<=g.names.length)(hn:g.names.length<=1000){A:Nat}(st:St)(hb:HB st)(hlo:st.lo<=A)(hf:AA st.h A=some (.cells 4 1 (BJ (List.replicate g.names.length false)) false))(a0:AV)(ts0:TS)(z0:ts0.get 0=a0)(z3:ts0.get 3=.AQ A 0 g.names.length (some g.names.length))(z14:ts0.get 14=.int .i64 (m:Int))(z15:ts0.get 15=.int .i64 ((0:Nat):Int)) :
 (CJ (Ar E (AU E n) C.f63L0) E.k ts0 st).to fun x=>x.1=.exit 0/\x.2.1.get 0=a0/\x.2.1.get 3=.AQ A 0 g.names.length (some g.names.length)/\HB x.2.2/\x.2.2.lo=st.lo/\x.2.2.c=st.c/\∃B,AA x.2.2.h A=some (.cells 4 1 (BJ B) false)/\B.length=g.names.length/\∀x,B.getD x false=decide (x<m):=by
 refine Be (fun (i:Nat) ts st'=>i<=m/\ts.get 0=a0/\ts.get 3=.AQ A 0 g.names.length (some g.names.length)/\ts.get 14=.int .i64 (m:Int)/\ts.get 15=.int .i64 (i:Int)/\HB st'/\st'.lo=st.lo/\st'.c=st.c/\∃B,AA st'.h A=some (.cells 4 1 (BJ B) false)/\B.length=g.names.length/\∀x,B.getD x false=decide (x<i))
  (fun i=>m-i) ?_ _ 0 _ _ ?_ ?_
 ·rintro i ts st' ⟨hi,z0,z3,z14,z15,hb',hl',hc',B,hB,hBl,hBd⟩
  by_cases Au:i<m
  ·have ix:=Gc (st:=st') (n:=g.names.length) (cap:=some g.names.length) hB (show i<g.names.length by omega)
   have s1:=BX (st:=st') (off:=i) (v:=.bool true) hB (by rw[hl']; exact hlo) (by simp; omega) rfl rfl
   rw[Jl] at s1
   simp[-List.getD_eq_getElem?_getD,C.f63L0,z0,z3,z14,z15,Au,ix,s1,wi i]
   refine⟨i+1,by omega,by omega,by simp,HB.Ab hb',hl',hc',B.set i true,?_,by simpa using hBl,fun x=>?_⟩
   ·show AA (Ab st'.h A _) A=_
    rw[AR hB,if_pos rfl]
   ·rw[DT (by omega),hBd]
    by_cases e:x=i
    ·rw[if_pos e]; symm; rw[decide_eq_true_eq]; omega
    ·rw[if_neg e,decide_eq_decide]; omega
  ·have:i=m:=by omega
   subst this
   simp[-List.getD_eq_getElem?_getD,C.f63L0,z0,z3,z14,z15]
   exact⟨hb',hl',hc',B,hB,hBl,hBd⟩
 ·show m-0<1000000; omega
 ·refine⟨by omega,z0,z3,z14,z15,hb,rfl,rfl,List.replicate g.names.length false,hf,by simp,fun x=>?_⟩
  rw[show decide (x<0)=false by simp]
  simp only[List.getD,List.getElem?_replicate]; split <;> rfl
theorem VX {g:AX}(hok:g.Ok){s:Aj}(h:s∈g.names):g.ix s<g.kinds.length↔s∈g.kinds:=by
 obtain⟨h1,h2⟩:=DF h
 constructor
 ·intro Au
  rw[← h2]
  have:g.names[GY s g.names]'h1=g.kinds[GY s g.names]'Au:=List.getElem_append_left Au
  rw[this]; exact List.getElem_mem _
 ·intro hk
  obtain⟨i,hi,rfl⟩:=List.getElem_of_mem hk
  have hin:i<g.names.length:=by unfold AX.names; rw[List.length_append]; omega
  have e:g.names[i]'hin=g.kinds[i]:=List.getElem_append_left hi
  have:=Mr (AX.KX hok) hin
  rw[e] at this
  show GY g.kinds[i] g.names<_
  rw[this]; exact hi
theorem RX {k:Nat}{cv:AV}{g:AX}{st:St}(hC:FC cv g)(hs:g.Small)(hok:g.Ok) :
 ∃w B,AU E (k+7) 63 [cv] st=.ret (w,st)/\BI w 1 (BJ B)/\B.length=g.names.length/\∀s,s∈g.names->(B.getD (g.ix s) false=true↔Md g s):=by
 have hold:=hC.Gi 0
 have hnl:=AX.DD hs
 obtain⟨nv,rv,ov,lr,lo',e0,h1,_⟩:=hC.out
 rw[BZ (fn:=C.f63) rfl rfl rfl (by simp[AV.CL,hold]),Ad (by simp)]
 have hln:∀S':St,BO .slice nv S'=some (.int .i64 (g.names.length:Int),S'):=fun S'=>by have:=h1.len (st:=S'); simpa using this
 have hmk:=Ox (o:=0) (n:=g.names.length) (by omega)
 obtain⟨S,hS⟩:∃S:St,S=⟨[(0,.cells 4 1 (BJ (List.replicate g.names.length false)) false)],1,0⟩:=⟨_,rfl⟩
 have hn:newObj 0 (.cells 4 1 (BJ (List.replicate g.names.length false)) false) ⟨[],1,0⟩=some S:=by rw[hS]; rfl
 have hb:HB S:=by
  subst hS
  intro p x hp
  rcases List.mem_cons.1 hp with e|e
  ·cases e; exact Nat.zero_lt_one
  ·cases e
 have hf:AA S.h 0=some (.cells 4 1 (BJ (List.replicate g.names.length false)) false):=by rw[hS]; rfl
 have hSc:S.c=1:=by rw[hS]
 have hSl:S.lo=0:=by rw[hS]
 have hkn:g.kinds.length<=g.names.length:=by unfold AX.names; rw[List.length_append]; omega
 have goal:((Ar E (AU E (k+6)) C.f63.body (TS.CY [cv] 0 .nil) ⟨[],0,0⟩).bind (leave C.f63.results)).to fun x=>x.1=.AQ 0 0 g.names.length (some g.names.length)/\∃B,AA x.2.h 0=some (.cells 4 1 (BJ B) false)/\B.length=g.names.length/\∀s,s∈g.names->(B.getD (g.ix s) false=true↔Md g s):=by
  have e0':=e0
  subst e0'
  simp[-List.getD_eq_getElem?_getD,C.f63,hln,hmk,hn]
  refine M.Al (Vp (n:=k+6) (m:=g.kinds.length) hkn (by omega) S hb (by rw[hSl]; exact Nat.le_refl _) hf _ _ (by simp; rfl) (by simp) (by simp) (by simp)) fun x hx=>?_
  obtain⟨e,ts1,st1⟩:=x
  obtain⟨ee,g0,g3,hb1,hl1,hc1,B0,f1,f2,f3⟩:=hx
  simp only at ee g0 g3 hb1 hl1 hc1 f1
  subst ee
  have run:=TM (k:=k) (A:=0) (base:=(·∈g.kinds)) hC hs hok B0 st1 hb1 (by rw[hl1,hSl]; exact Nat.le_refl _) (by rw[hc1,hSc]; exact Nat.zero_lt_one) f1 f2 (fun s hs h=>by
   rw[f3,decide_eq_true_eq] at h; exact (VX hok hs).1 h) (fun s h=>by
   rw[f3,decide_eq_true_eq]; exact (VX hok (List.mem_append.2 (.inl h))).2 h)
  simp[-List.getD_eq_getElem?_getD,g0,g3]
  refine M.Al run fun x hx=>?_
  obtain⟨v,st2⟩:=x
  obtain⟨r2,B,r3,r4,r5⟩:=hx
  simp only at r2 r3
  subst r2
  simp[-List.getD_eq_getElem?_getD,leave,results,AY]
  exact⟨B,r3,r4,r5⟩
 obtain⟨⟨v,st1⟩,r1,r2,B,r3,r4,r5⟩:=goal
 simp only at r2 r3
 subst r2
 refine⟨.list true 1 (BJ B),B,?_,⟨.inr ⟨_,rfl⟩⟩,r4,r5⟩
 rw[r1]
 simp[BA,Bu,OB r3 r4]
theorem La.tq {h:Af}{w:AV}{L:List Aj}{c:Nat}(H:La h w L)(hc:∀p,Ah w=some p->c<=p):∃w',BI w' 1 (strs L)/\∀n,2<=n->Bp c h n w=some w':=by
 have key:∀(id:Nat) (cap:Option Nat) (ext:Bool),c<=id->AA h id=some (.cells 9 1 (strs L) ext)->∃w',BI w' 1 (strs L)/\∀n,2<=n->Bp c h n (.AQ id 0 L.length cap)=some w':=fun id cap ext hid hf=>by
  refine⟨.list (match cap with|some c=>Nat.beq c L.length|none=>false) 1 (strs L),⟨.inr ⟨_,rfl⟩⟩,fun n hn=>?_⟩
  obtain⟨m,rfl⟩:∃m,n=m+2:=⟨n-2,by omega⟩
  have hl:(strs L).length=L.length:=DZ L
  have ht:CP (Am.Bp c h (m+1)) (((strs L).drop 0).take (L.length*1))=some (strs L):=by
   rw[List.drop_zero,Nat.mul_one,← hl,List.take_length]; exact DY (Dq c L)
  rw[FN hid hf (by omega) (by omega) ht,← hl,IZ]
  cases cap <;> rfl
 cases H with
 |nl=>exact⟨.AJ,⟨.inl ⟨rfl,rfl⟩⟩,fun n hn=>by obtain⟨m,rfl⟩:∃m,n=m+1:=⟨n-1,by omega⟩; exact Fe rfl⟩
 |ob id _ h0 hf=>exact key id _ _ (hc id rfl) hf
 |lit id _ h0 hf=>exact key id _ _ (hc id rfl) hf
def pick (g:AX)(p:Nat->Bool)(j:Nat):List Aj:=(g.CB.take j).filter fun s=>p (g.ix s)
def nX (k f:Nat)(v:AV)(g:AX)(L:List Aj):Prop:=∀st,(g.fault≠0->AU E k f [v] st=.ret (.tuple [.AJ,.int .i64 g.fault],st))/\(g.fault=0->∃w,AU E k f [v] st=.ret (.tuple [w,.int .i64 0],st)/\BI w 1 (strs L))
inductive Rs (h:Af):AV->List Nat->Prop
 |nl:Rs h .AJ []
 |ob (id:Nat) (L:List Nat) (rest:List AV) (ext:Bool) (cap:Option Nat) (hf:AA h id=some (.cells 3 1 (ints L++rest) ext)) (hc:(cap=none/\ext=true)∨cap=some (L.length+rest.length)):Rs h (.AQ id 0 L.length cap) L
theorem Rs.len {h:Af}{w:AV}{L:List Nat}(H:Rs h w L):Bq w=some L.length:=by cases H <;> rfl
theorem Rs.heap {h h':Af}{w:AV}{L:List Nat}(H:Rs h w L)(e:∀o,Ah w=some o->AA h' o=AA h o):Rs h' w L:=by
 cases H with
 |nl=>exact .nl
 |ob id _ rest ext cap hf hc=>exact .ob id _ rest ext cap ((e id rfl).trans hf) hc
theorem Rs.ofM {h:Af}{w:AV}{L:List Nat}(H:Fa h 3 1 w (ints L)):Rs h w L:=by
 generalize hx:ints L=xs at H
 cases H with
 |nl=>
  have:L=[]:=Lv.1 hx
  subst this; exact .nl
 |mt id ext hf=>
  have:L=[]:=Lv.1 hx
  subst this; exact .ob id [] [] ext (some 0) hf (.inr rfl)
 |ob id _ h0 hc hf=>
  subst hx
  rw[Jj] at hf
  rw[IU]
  exact .ob id L [] true none (by simpa using hf) (.inl ⟨rfl,rfl⟩)
theorem Rs.top {h:Af}{w:AV}{L:List Nat}{x:Nat}(H:Rs h w (L++[x])){st:St}(hs:st.h=h) :
 ∃q,Aa 1 w (.int .i64 (L.length:Nat)) st=some (q,st)/\AP h q=some (.int .i64 (x:Nat)):=by
 generalize hL:L++[x]=LL at H
 cases H with
 |nl=>simp at hL
 |ob id _ rest ext cap hf hc=>
  subst hs hL
  refine⟨_,Gc hf (by simp),?_⟩
  rw[AB hf,List.getElem?_append_left (by simp)]
  simp[ints]
theorem Rs.pop {h:Af}{w:AV}{L:List Nat}{x:Nat}(H:Rs h w (L++[x])){st:St}(hs:st.h=h) :
 ∃w',CF 1 false true false [w,.int .i64 (L.length:Nat)] st=some (w',st)/\Rs h w' L/\∀p,Ah w'=some p->Ah w=some p:=by
 generalize hL:L++[x]=LL at H
 cases H with
 |nl=>simp at hL
 |ob id _ rest ext cap hf hc=>
  subst hs hL
  have hf':AA st.h id=some (.cells 3 1 (ints L++(.int .i64 (x:Nat)::rest)) ext):=by rw[hf]; simp[ints]
  refine⟨.AQ id 0 L.length cap,?_,.ob id L (.int .i64 (x:Nat)::rest) ext cap hf' ?_,fun p hp=>hp⟩
  ·have d1:decide (L.length<=(ints (L++[x])).length+rest.length)=true:=decide_eq_true (by simp; omega)
   have d2:decide (L.length<=L.length+1+rest.length)=true:=decide_eq_true (by omega)
   rcases hc with⟨rfl,_⟩|rfl
   ·simp[CF,Dc,Bb,Cz,hf,beq_eq,blt_eq,Du,ble_eq,d1,d2]
   ·simp[CF,Dc,Bb,Cz,hf,beq_eq,blt_eq,Du,ble_eq,d1,d2]
  ·rcases hc with h|h
   ·exact .inl h
   ·refine .inr ?_
    rw[h]; simp; omega
theorem Rs.push {h:Af}{c lo o:Nat}{w:AV}{L:List Nat}(N:List Nat)(hS:Rs h w L)(hb:HB ⟨h,c,lo⟩)(hn:∀p x,(p,x)∈h->p≠o)(ho:o<c)(hw:∀p,Ah w=some p->lo<=p/\p≠o)(hl:L.length+N.length<=100000) :
 ∃w' h',BK o 3 1 8 w N.length (ints N) ⟨h,c,lo⟩=some (w',⟨h',c,lo⟩)/\HB ⟨h',c,lo⟩/\Rs h' w' (L++N)/\(∀p,Ah w'=some p->p=o∨Ah w=some p)/\∀p,p≠o->Ah w≠some p->AA h' p=AA h p:=by
 have hroom:(L.length+N.length)*8<=room/\L.length+N.length<=room:=by unfold room; constructor <;> omega
 by_cases hN:N.length=0
 ·have:N=[]:=List.eq_nil_of_length_eq_zero hN
  subst this
  cases hS with
  |nl=>exact⟨.AJ,h,by simp[BK,beq_eq],hb,.nl,fun p hp=>.inr hp,fun _ _ _=>rfl⟩
  |ob id _ rest ext cap hf hc=>exact⟨_,h,by simp[BK,beq_eq],hb,by rw[List.append_nil]; exact .ob id L rest ext cap hf hc,fun p hp=>.inr hp,fun _ _ _=>rfl⟩
 ·have happ:ints L++ints N=ints (L++N):=by simp[ints]
  cases hS with
  |nl=>
   obtain⟨h2,p1,p2,p3,p4⟩:=Fh (y:=.cells 3 1 (ints N) true) hn hb ho
   simp only[List.length_nil,Nat.zero_add] at hroom
   refine⟨.AQ o 0 N.length none,h2,by simp[BK,beq_eq,hN,grow,ble_eq,hroom.1,hroom.2,p1],p3,.ob o N [] true none (by rw[p2,if_pos rfl]; simp) (.inl ⟨rfl,rfl⟩),fun p hp=>?_,fun p hp _=>by rw[p2,if_neg (Ne.symm hp)]⟩
   simp only[Ah,Option.some.injEq] at hp; exact .inl hp.symm
  |ob id _ rest ext cap hf hc=>
   have hid:=hw id rfl
   have hcl:(ints L++rest).length=L.length+rest.length:=by simp
   have htk:(ints L++rest).take L.length=ints L:=by rw[List.take_append_of_le_length (by simp),List.take_of_length_le (by simp)]
   have hbl:Nat.blt id lo=false:=by rw[blt_eq]; simp; omega
   have lenLN:(L++N).length=L.length+N.length:=by simp
   have inplace:L.length+N.length<=L.length+rest.length->∃h',Bl ⟨h,c,lo⟩ id L.length (ints N)=some ⟨h',c,lo⟩/\HB ⟨h',c,lo⟩/\AA h' id=some (.cells 3 1 (ints (L++N)++rest.drop N.length) ext)/\∀p,p≠id->AA h' p=AA h p:=fun hle=>by
    refine⟨Ab h id (.cells 3 1 (ints (L++N)++rest.drop N.length) ext),?_,HB.Ab (st:=⟨h,c,lo⟩) hb,by rw[AR hf,if_pos rfl],fun p hp=>by rw[AR hf,if_neg (Ne.symm hp)]⟩
    have hsp:BM (ints L++rest) L.length (ints N)=ints (L++N)++rest.drop N.length:=by
     unfold BM
     rw[htk,IU,← happ,List.append_assoc]
     congr 2
     rw[List.drop_append]; simp
    have hle':N.length<=rest.length:=by omega
    simp[Bl,hbl,hf,ble_eq,hle',hsp]
   have grown:∀h1:Af,(∀p x,(p,x)∈h1->(p,x)∈h)->∃h',grow o 3 1 8 L.length N.length (ints (L++N)) ⟨h1,c,lo⟩=some (.AQ o 0 (L.length+N.length) none,⟨h',c,lo⟩)/\HB ⟨h',c,lo⟩/\AA h' o=some (.cells 3 1 (ints (L++N)) true)/\∀p,p≠o->AA h' p=AA h1 p:=fun h1 hsub=>by
    obtain⟨h2,p1,p2,p3,p4⟩:=Fh (y:=.cells 3 1 (ints (L++N)) true) (h:=h1) (c:=c) (lo:=lo) (o:=o) (fun p x hm=>hn p x (hsub p x hm)) (fun p x hm=>hb p x (hsub p x hm)) ho
    exact⟨h2,by simp[grow,ble_eq,hroom.1,hroom.2,p1],p3,by rw[p2,if_pos rfl],fun p hp=>by rw[p2,if_neg (Ne.symm hp)]⟩
   have obN:∀{h':Af},AA h' o=some (.cells 3 1 (ints (L++N)) true)->Rs h' (.AQ o 0 (L.length+N.length) none) (L++N):=fun hf'=>by
    have:=Rs.ob (h:=_) o (L++N) [] true none (by rw[hf',List.append_nil]) (.inl ⟨rfl,rfl⟩)
    rwa [lenLN] at this
   rcases hc with⟨rfl,rfl⟩|rfl
   ·by_cases hle:L.length+N.length<=L.length+rest.length
    ·obtain⟨h',w1,w2,w3,w4⟩:=inplace hle
     refine⟨.AQ id 0 (L.length+N.length) none,h',?_,w2,?_,fun p hp=>.inr hp,fun p _ hne=>w4 p fun e=>hne (by rw[e]; rfl)⟩
     ·have hle':N.length<=rest.length:=by omega
      simp[BK,beq_eq,hN,Cn,hf,ble_eq,hle',w1]
     ·have:=Rs.ob (h:=h') id (L++N) (rest.drop N.length) true none w3 (.inl ⟨rfl,rfl⟩)
      rwa [lenLN] at this
    ·obtain⟨h',w1,w2,w3,w4⟩:=grown (HY h id) fun p x hm=>Gy hm
     have hle':¬N.length<=rest.length:=by omega
     refine⟨.AQ o 0 (L.length+N.length) none,h',?_,w2,obN w3,fun p hp=>?_,fun p hp hne=>?_⟩
     ·simp[BK,beq_eq,hN,Cn,hf,ble_eq,hle',hid.1,htk,happ,w1]
     ·simp only[Ah,Option.some.injEq] at hp; exact .inl hp.symm
     ·rw[w4 p hp,Dw,if_neg fun e=>hne (by rw[e]; rfl)]
   ·by_cases hle:L.length+N.length<=L.length+rest.length
    ·obtain⟨h',w1,w2,w3,w4⟩:=inplace hle
     refine⟨.AQ id 0 (L.length+N.length) (some (L.length+rest.length)),h',?_,w2,?_,fun p hp=>.inr hp,fun p _ hne=>w4 p fun e=>hne (by rw[e]; rfl)⟩
     ·have hle':N.length<=rest.length:=by omega
      simp[BK,beq_eq,hN,Cn,hf,ble_eq,hle',w1]
     ·have:=Rs.ob (h:=h') id (L++N) (rest.drop N.length) ext (some (L.length+rest.length)) w3 (.inr (by congr 1; simp; omega))
      rwa [lenLN] at this
    ·obtain⟨h',w1,w2,w3,w4⟩:=grown h fun p x hm=>hm
     have hle':¬N.length<=rest.length:=by omega
     refine⟨.AQ o 0 (L.length+N.length) none,h',?_,w2,obN w3,fun p hp=>?_,fun p hp hne=>w4 p hp⟩
     ·simp[BK,beq_eq,hN,Cn,hf,ble_eq,hle',htk,happ,w1]
     ·simp only[Ah,Option.some.injEq] at hp; exact .inl hp.symm
theorem append_eq {o:Nat}{w y:AV}{st:St}{N:List Nat}(h1:lenOf y=some N.length)(h2:BH st.h 1 N.length y=some (ints N)):BU o 3 1 8 w y st=BK o 3 1 8 w N.length (ints N) st:=by
 cases y <;> simp_all [BU]
 all_goals simp[BH] at h2
def iB (n:Nat)(B:List Bool):Nat:=(List.range n).countP fun x=>!B.getD x false
theorem lF {n x:Nat}{B:List Bool}(hx:x<n)(hl:B.length=n)(h:B.getD x false=false):iB n (B.set x true)<iB n B:=
 Jk (fun y _ hy=>by
  rw[DT (by omega)] at hy
  split at hy
  ·cases hy
  ·exact hy) (List.mem_range.2 hx) (by rw[DT (by omega),if_pos rfl]; rfl) (by rw[h]; rfl)
theorem ou (n:Nat)(B:List Bool):iB n B<=n:=by
 have:=List.countP_le_length (p:=fun x=>!B.getD x false) (l:=List.range n)
 simpa [iB] using this
structure RC (A n:Nat)(B:List Bool)(w:AV)(L:List Nat)(st:St):Prop where
 hb:HB st
 lo:st.lo=0
 a:AA st.h A=some (.cells 4 1 (BJ B) false)
 len:B.length=n
 ac:A<st.c
 sk:Rs st.h w L
 own:∀p,Ah w=some p->p<st.c/\p≠A
theorem RC.put {A n:Nat}{B:List Bool}{w:AV}{L:List Nat}{h:Af}{c:Nat}(H:RC A n B w L ⟨h,c,0⟩){x:Nat}(hx:x<n)(hL:L.length<=4000) :
 Bc 1 (.AO A x) (.bool true) ⟨h,c,0⟩=some (.undef,⟨Ab h A (.cells 4 1 (BJ (B.set x true)) false),c,0⟩) /\
 newObj c (.cells 3 1 [.int .i64 (x:Nat)] false) ⟨Ab h A (.cells 4 1 (BJ (B.set x true)) false),c+2,0⟩=some ⟨(c,.cells 3 1 [.int .i64 (x:Nat)] false)::Ab h A (.cells 4 1 (BJ (B.set x true)) false),c+2,0⟩ /\
 ∃w' h',BU (c+1) 3 1 8 w (.AQ c 0 1 (some 1)) ⟨(c,.cells 3 1 [.int .i64 (x:Nat)] false)::Ab h A (.cells 4 1 (BJ (B.set x true)) false),c+2,0⟩=some (w',⟨h',c+2,0⟩)/\RC A n (B.set x true) w' (L++[x]) ⟨h',c+2,0⟩/\∀p,p<c->p≠A->Ah w≠some p->AA h' p=AA h p:=by
 have hac:A<c:=H.ac
 have hlen:=H.len
 have hown:∀p,Ah w=some p->p<c/\p≠A:=H.own
 have s1:=BX (st:=⟨h,c,0⟩) (off:=x) (v:=.bool true) H.a (Nat.zero_le _) (by simp; omega) rfl rfl
 rw[Jl] at s1
 obtain⟨h1,hh1⟩:∃h1,h1=Ab h A (.cells 4 1 (BJ (B.set x true)) false):=⟨_,rfl⟩
 have hb1:HB ⟨h1,c,0⟩:=hh1 ▸ HB.Ab (st:=⟨h,c,0⟩) H.hb
 have F1:∀p,p≠A->AA h1 p=AA h p:=fun p hp=>by rw[hh1,AR H.a,if_neg (Ne.symm hp)]
 have a1:AA h1 A=some (.cells 4 1 (BJ (B.set x true)) false):=by rw[hh1,AR H.a,if_pos rfl]
 refine⟨s1,Ac (hh1 ▸ hb1),?_⟩
 rw[← hh1]
 obtain⟨h2,hh2⟩:∃h2:Af,h2=(c,Ai.cells 3 1 [.int .i64 (x:Nat)] false)::h1:=⟨_,rfl⟩
 rw[← hh2]
 have hb2:HB ⟨h2,c+1,0⟩:=hh2 ▸ HB.cons (h:=h1) (c:=c) (lo:=0) hb1 (by omega) (by omega)
 have S2:Rs h2 w L:=H.sk.heap fun o ho=>by rw[hh2,Ao (hown o ho).1]; exact F1 o (hown o ho).2
 have hcs:BH h2 1 1 (.AQ c 0 1 (some 1))=some [.int .i64 (x:Nat)]:=by
  have:AA h2 c=some (.cells 3 1 [.int .i64 (x:Nat)] false):=by rw[hh2,AL,if_pos rfl]
  simp[BH,this,beq_eq,ble_eq]
 obtain⟨w',h',p1,p2,p3,p4,p5⟩:=S2.push [x] (o:=c+1) (c:=c+2) (lo:=0) (hb2.up (by omega)) (fun p y hm e=>by have:p<c+1:=hb2 p y hm; omega) (by omega) (fun p hp=>⟨Nat.zero_le _,by have:=(hown p hp).1; omega⟩) (by simp; omega)
 refine⟨w',h',?_,⟨p2,rfl,?_,by simpa using hlen,by show A<c+2; omega,p3,fun p hp=>?_⟩,fun p hp hA hne=>?_⟩
 ·rw[append_eq (N:=[x]) rfl (by simpa [ints] using hcs)]; exact p1
 ·show AA h' A=_
  rw[p5 A (by omega) fun e=>(hown A e).2 rfl,hh2,Ao hac]; exact a1
 ·rcases p4 p hp with e|e
  ·subst e; exact⟨by show c+1<c+2; omega,by omega⟩
  ·have:=hown p e
   exact⟨by show p<c+2; omega,this.2⟩
 ·rw[p5 p (by omega) hne,hh2,Ao hp]; exact F1 p hA
structure RI (g:AX)(Z:Nat->Prop)(B:List Bool)(L:List Nat):Prop where
 sound:∀s,s∈g.names->B.getD (g.ix s) false=true->Reach g s
 sN:∀x∈L,x<g.names.length/\B.getD x false=true
 cl:∀r∈g.rules,B.getD (g.ix r.left) false=true->g.ix r.left∈L∨Z (g.ix r.left)∨∀y∈r.right,B.getD (g.ix y) false=true
 start:B.getD (g.ix g.start) false=true
theorem RI.mark {g:AX}{Z:Nat->Prop}{B:List Bool}{L:List Nat}(H:RI g Z B L)(hl:B.length=g.names.length){y:Aj}(hy:y∈g.names)(hr:Reach g y):RI g Z (B.set (g.ix y) true) (L++[g.ix y]):=by
 have hyl:g.ix y<B.length:=by rw[hl]; exact Rj hy
 have mono:∀x,B.getD x false=true->(B.set (g.ix y) true).getD x false=true:=fun x hx=>by
  rw[DT hyl]; split
  ·rfl
  ·exact hx
 refine⟨fun s hs h=>?_,fun x hx=>?_,fun r hrr h=>?_,mono _ H.start⟩
 ·rw[DT hyl] at h
  split at h
  ·rename_i e
   have:s=y:=by
    obtain⟨q1,q2⟩:=DF hs
    obtain⟨q3,q4⟩:=DF hy
    have e':GY s g.names=GY y g.names:=e
    rw[← q2,← q4]; simp only[e']
   rw[this]; exact hr
  ·exact H.sound s hs h
 ·rcases List.mem_append.1 hx with h|h
  ·exact⟨(H.sN x h).1,mono _ (H.sN x h).2⟩
  ·simp only[List.mem_singleton] at h
   subst h
   exact⟨Rj hy,by rw[DT hyl,if_pos rfl]⟩
 ·rw[DT hyl] at h
  split at h
  ·rename_i e
   exact .inl (List.mem_append.2 (.inr (by rw[e]; simp)))
  ·rcases H.cl r hrr h with h|h|h
   ·exact .inl (List.mem_append.2 (.inl h))
   ·exact .inr (.inl h)
   ·exact .inr (.inr fun y hy=>mono _ (h y hy))
section
variable {cv:AV}{g:AX}{A:Nat}{n:Nat}
set_option maxHeartbeats 1000000 in
theorem ZO (hs:g.Small){r:Ba}{w1:AV}(hok:g.Ok)(hr:r∈g.rules)(e2:BI w1 1 (ints (r.right.map g.ix)))(hR:Reach g r.left)(Z:Nat->Prop)(μ:Nat)(hμ:μ<=1000)(a0 a5 a47 a48 a49:AV)(st:St){B0:List Bool}{w0:AV}{L0:List Nat}(H0:RC A g.names.length B0 w0 L0 st)(I0:RI g Z B0 L0)(hM0:2*iB g.names.length B0+L0.length<=μ)(ts0:TS)(z0:ts0.get 0=a0)(z3:ts0.get 3=.AQ A 0 g.names.length (some g.names.length))(z4:ts0.get 4=w0)(z5:ts0.get 5=a5)(z47:ts0.get 47=a47)(z48:ts0.get 48=a48)(z49:ts0.get 49=a49)(z60:ts0.get 60=w1)(z61:ts0.get 61=.int .i64 (r.right.length:Int))(z62:ts0.get 62=.int .i64 ((0:Nat):Int)) :
 (CJ (Ar E (AU E n) C.f67L2) E.k ts0 st).to fun x=>x.1=.exit 4/\x.2.1.get 0=a0/\x.2.1.get 3=.AQ A 0 g.names.length (some g.names.length)/\x.2.1.get 5=a5/\x.2.1.get 47=a47/\x.2.1.get 48=a48/\x.2.1.get 49=a49/\∃B w L,x.2.1.get 4=w/\RC A g.names.length B w L x.2.2/\RI g Z B L/\2*iB g.names.length B+L.length<=μ/\(∀x,B0.getD x false=true->B.getD x false=true)/\∀y∈r.right,B.getD (g.ix y) false=true:=by
 have hsr:=(hs.rules r hr).right
 refine Be (fun (i:Nat) ts st=>i<=r.right.length/\ts.get 0=a0/\ts.get 3=.AQ A 0 g.names.length (some g.names.length)/\ts.get 5=a5/\ts.get 47=a47/\ts.get 48=a48/\ts.get 49=a49/\ts.get 60=w1/\ts.get 61=.int .i64 (r.right.length:Int)/\ts.get 62=.int .i64 (i:Int)/\∃B w L,ts.get 4=w/\RC A g.names.length B w L st/\RI g Z B L/\2*iB g.names.length B+L.length<=μ/\(∀x,B0.getD x false=true->B.getD x false=true)/\∀j (hj:j<r.right.length),j<i->B.getD (g.ix r.right[j]) false=true)
  (fun i=>r.right.length-i) ?_ _ 0 _ _ ?_ ?_
 ·rintro i ts st ⟨hi,z0,z3,z5,z47,z48,z49,z60,z61,z62,B,w,L,z4,H,I,hM,hBB,hall⟩
  by_cases Au:i<r.right.length
  ·obtain⟨h,c,lo⟩:=st
   have hlo:lo=0:=H.lo
   subst hlo
   have hym:r.right[i]∈g.names:=AX.FK hok hr (List.getElem_mem Au)
   obtain⟨x,hx⟩:∃x,g.ix r.right[i]=x:=⟨_,rfl⟩
   have hxn:x<g.names.length:=hx ▸ Rj hym
   have ix1:=e2.jX (st:=⟨h,c,0⟩) (i:=i) (by simpa using Au)
   rw[List.getElem_map,hx] at ix1
   have hlen:=H.len
   have ixA:=Gc (st:=⟨h,c,0⟩) (n:=g.names.length) (cap:=some g.names.length) H.a hxn
   have rA:AP h (.AO A x)=some (.bool (B.getD x false)):=by rw[AB H.a,bools_get? _ _ (by omega)]
   have hnext:∀B':List Bool,(∀x,B.getD x false=true->B'.getD x false=true)->B'.getD x false=true->∀j (hj:j<r.right.length),j<i+1->B'.getD (g.ix r.right[j]) false=true:=fun B' h1 h2 j hj hji=>by
    rcases Nat.lt_or_ge j i with h|h
    ·exact h1 _ (hall j hj h)
    ·have:j=i:=by omega
     subst this; rw[hx]; exact h2
   cases hb:B.getD x false with
   |true=>
    rw[hb] at rA
    simp[-List.getD_eq_getElem?_getD,C.f67L2,z0,z3,z4,z5,z47,z48,z49,z60,z61,z62,Au,ix1,ixA,rA,wi i]
    exact⟨i+1,by omega,by omega,by simp,B,L,H,I,hM,hBB,hnext B (fun _ h=>h) hb⟩
   |false=>
    rw[hb] at rA
    have hLl:L.length<=4000:=by omega
    obtain⟨s1,n1,w',h',p1,RC',_⟩:=H.put hxn hLl
    simp[-List.getD_eq_getElem?_getD,C.f67L2,z0,z3,z4,z5,z47,z48,z49,z60,z61,z62,Au,ix1,ixA,rA,s1,kG,n1,p1,wi i]
    have hu:=lF hxn hlen hb
    have mono:∀q,B.getD q false=true->(B.set x true).getD q false=true:=fun q hq=>by
     rw[DT (by omega)]; split
     ·rfl
     ·exact hq
    have I':=I.mark hlen hym (.step hr hR (List.getElem_mem Au))
    rw[hx] at I'
    exact⟨i+1,by omega,by omega,by simp,B.set x true,L++[x],RC',I',by rw[List.length_append,List.length_singleton]; omega,fun q hq=>mono q (hBB q hq),hnext _ mono (by rw[DT (by omega),if_pos rfl])⟩
  ·have:i=r.right.length:=by omega
   subst this
   simp[-List.getD_eq_getElem?_getD,C.f67L2,z0,z3,z4,z5,z47,z48,z49,z60,z61,z62]
   refine⟨B,L,H,I,hM,hBB,fun y hy=>?_⟩
   obtain⟨j,hj,rfl⟩:=List.getElem_of_mem hy
   exact hall j hj hj
 ·show r.right.length-0<1000000; omega
 ·exact⟨by omega,z0,z3,z5,z47,z48,z49,z60,z61,z62,B0,w0,L0,z4,H0,I0,hM0,fun _ h=>h,fun j _ h=>by omega⟩
end
theorem jB {g:AX}{i s j:Nat}:j∈Mk g i s↔j<i/\g.ix (g.rules.getD j default).left=s:=by
 unfold Mk; simp
theorem RI.closed {g:AX}{B:List Bool}(hok:g.Ok)(H:RI g (fun _=>False) B []){s:Aj}(h:Reach g s):B.getD (g.ix s) false=true:=by
 induction h with
 |start=>exact H.start
 |step hr _ hx ih=>
  rcases H.cl _ hr ih with h|h|h
  ·cases h
  ·exact h.elim
  ·exact h _ hx
section
variable {cv:AV}{g:AX}{A:Nat}{n:Nat}
set_option maxHeartbeats 1000000 in
theorem ZP (hs:g.Small)(hok:g.Ok){nv rv ov:AV}{lr:List AV}{mv m1 m2:AV}(h3:BI rv 3 lr)(h4:lr.length=g.rules.length)(h5:∀j (hj:j<g.rules.length),∃w,lr[j]?=some (.agg [.int .i64 (g.ix g.rules[j].left:Nat),w,.int .i64 g.rules[j].level])/\BI w 1 (ints (g.rules[j].right.map g.ix)))(s:Nat){wS:AV}(hS:BI wS 1 (ints (Mk g g.rules.length s)))(hsr:∀r∈g.rules,g.ix r.left=s->Reach g r.left)(μ:Nat)(hμ:μ<=1000)(a5:AV)(st:St){B0:List Bool}{w0:AV}{L0:List Nat}(H0:RC A g.names.length B0 w0 L0 st)(I0:RI g (·=s) B0 L0)(hM0:2*iB g.names.length B0+L0.length<=μ)(ts0:TS)(z0:ts0.get 0=.BC [nv,m1,m2,rv,ov,mv])(z3:ts0.get 3=.AQ A 0 g.names.length (some g.names.length))(z4:ts0.get 4=w0)(z47:ts0.get 47=wS)(z48:ts0.get 48=.int .i64 ((Mk g g.rules.length s).length:Int))(z49:ts0.get 49=.int .i64 ((0:Nat):Int)) :
 (CJ (Ar E (AU E n) C.f67L1) E.k ts0 st).to fun x=>x.1=.exit 2/\x.2.1.get 0=.BC [nv,m1,m2,rv,ov,mv]/\x.2.1.get 3=.AQ A 0 g.names.length (some g.names.length)/\∃B w L,x.2.1.get 4=w/\RC A g.names.length B w L x.2.2/\RI g (fun _=>False) B L/\2*iB g.names.length B+L.length<=μ:=by
 have hmany:=hs.many
 have hofl:=Qn g g.rules.length s
 obtain⟨N,hN⟩:∃N,N=Mk g g.rules.length s:=⟨_,rfl⟩
 rw[← hN] at hS z48 hofl
 have hNm:∀j,j∈N↔j<g.rules.length/\g.ix (g.rules.getD j default).left=s:=fun j=>by rw[hN]; exact jB
 refine Be (fun (i:Nat) ts st=>i<=N.length/\ts.get 0=.BC [nv,m1,m2,rv,ov,mv]/\ts.get 3=.AQ A 0 g.names.length (some g.names.length)/\ts.get 47=wS/\ts.get 48=.int .i64 (N.length:Int)/\ts.get 49=.int .i64 (i:Int)/\∃B w L,ts.get 4=w/\RC A g.names.length B w L st/\RI g (·=s) B L/\2*iB g.names.length B+L.length<=μ/\∀j∈N.take i,∀y∈(g.rules.getD j default).right,B.getD (g.ix y) false=true)
  (fun i=>N.length-i) ?_ _ 0 _ _ ?_ ?_
 ·rintro i ts st ⟨hi,z0,z3,z47,z48,z49,B,w,L,z4,H,I,hM,hall⟩
  by_cases Au:i<N.length
  ·have hjm:=(hNm N[i]).1 (List.getElem_mem Au)
   obtain⟨j,hj⟩:∃j,N[i]=j:=⟨_,rfl⟩
   rw[hj] at hjm
   obtain⟨hjr,hjs⟩:=hjm
   have hg:g.rules.getD j default=g.rules[j]:=by simp[List.getD,hjr]
   rw[hg] at hjs
   have hmem:=List.getElem_mem hjr
   have Rj:=hS.jX (st:=st) Au
   rw[hj] at Rj
   obtain⟨w1,e1,e2⟩:=h5 j hjr
   have hjl:j<lr.length:=by omega
   rw[List.getElem?_eq_getElem hjl,Option.some.injEq] at e1
   have ixr:Aa 3 rv (.int .i64 (j:Int)) st=some (.BC [.int .i64 (g.ix g.rules[j].left:Nat),w1,.int .i64 g.rules[j].level],st):=by rw[h3.idx hjl,e1]; rfl
   have hlr:BO .slice w1 st=some (.int .i64 (g.rules[j].right.length:Int),st):=by have:=e2.len (st:=st); simpa using this
   have loop:=ZO (A:=A) (n:=n) (r:=g.rules[j]) hs hok hmem e2 (hsr _ hmem hjs) (·=s) μ hμ (.BC [nv,m1,m2,rv,ov,mv])
   simp[-List.getD_eq_getElem?_getD,C.f67L1,z0,z3,z4,z47,z48,z49,Au,Rj,ixr,hlr]
   refine M.Al (loop _ _ _ _ st H I hM _ (by simp[z0]) (by simp[z3]) (by simp[z4]) (by simp; rfl) (by simp[z47]; rfl) (by simp[z48]; rfl) (by simp[z49]; rfl) (by simp) (by simp) (by simp)) fun x hx=>?_
   obtain⟨e,ts1,st1⟩:=x
   obtain⟨ee,g0,g3,g5,g47,g48,g49,B',w',L',g4,H',I',hM',hBB,hy⟩:=hx
   simp only at ee g0 g3 g5 g47 g48 g49 g4 H'
   subst ee
   simp[-List.getD_eq_getElem?_getD,g0,g3,g4,g5,g47,g48,g49,wi i]
   refine⟨i+1,by omega,by omega,by simp,B',L',H',I',hM',fun q hq y hyq=>?_⟩
   rw[List.take_succ_eq_append_getElem Au,List.mem_append,List.mem_singleton,hj] at hq
   rcases hq with hq|hq
   ·exact hBB _ (hall q hq y hyq)
   ·subst hq; rw[hg] at hyq; exact hy y hyq
  ·have:i=N.length:=by omega
   subst this
   rw[List.take_length] at hall
   simp[-List.getD_eq_getElem?_getD,C.f67L1,z0,z3,z4,z47,z48,z49]
   refine⟨B,L,H,⟨I.sound,I.sN,fun r hr hb=>?_,I.start⟩,hM⟩
   rcases I.cl r hr hb with h|h|h
   ·exact .inl h
   ·refine .inr (.inr fun y hy=>?_)
    obtain⟨j,hj,rfl⟩:=List.getElem_of_mem hr
    have hg:g.rules.getD j default=g.rules[j]:=by simp[List.getD,hj]
    exact hall j ((hNm j).2 ⟨hj,by rw[hg]; exact h⟩) y (by rw[hg]; exact hy)
   ·exact .inr (.inr h)
 ·show N.length-0<1000000; omega
 ·exact⟨by omega,z0,z3,z47,z48,z49,B0,w0,L0,z4,H0,I0,hM0,fun j h=>by simp at h⟩
set_option maxHeartbeats 1000000 in
theorem ZQ (hC:FC cv g)(hs:g.Small)(hok:g.Ok)(st:St){B0:List Bool}{w0:AV}{L0:List Nat}(H0:RC A g.names.length B0 w0 L0 st)(I0:RI g (fun _=>False) B0 L0)(hM0:L0.length<=1)(ts0:TS)(z0:ts0.get 0=cv)(z3:ts0.get 3=.AQ A 0 g.names.length (some g.names.length))(z4:ts0.get 4=w0) :
 (CJ (Ar E (AU E n) C.f67L0) E.k ts0 st).to fun x=>x.1=.exit 0/\x.2.1.get 3=.AQ A 0 g.names.length (some g.names.length)/\∃B,AA x.2.2.h A=some (.cells 4 1 (BJ B) false)/\B.length=g.names.length/\∀s,s∈g.names->(B.getD (g.ix s) false=true↔Reach g s):=by
 have hnl:=AX.DD hs
 have hul:=ou g.names.length B0
 obtain⟨nv,rv,ov,lr,lo,e0,h1,h3,h4,h5,h6,h7,h8⟩:=hC.out
 refine Be (fun (m:Nat) ts st=>m<=1000/\ts.get 0=cv/\ts.get 3=.AQ A 0 g.names.length (some g.names.length)/\∃B w L,ts.get 4=w/\RC A g.names.length B w L st/\RI g (fun _=>False) B L/\2*iB g.names.length B+L.length<=m)
  (fun m=>m) ?_ _ 100 _ _ ?_ ?_
 ·rintro m ts st ⟨hm,z0,z3,B,w,L,z4,H,I,hM⟩
  have hlen:∀S:St,BO .slice w S=some (.int .i64 (L.length:Int),S):=fun S=>by simp[BO,H.sk.len]
  rcases List.eq_nil_or_concat L with rfl|⟨L',s,rfl⟩
  ·simp[-List.getD_eq_getElem?_getD,C.f67L0,z0,z3,z4,hlen]
   exact⟨B,H.a,H.len,fun s hs=>⟨I.sound s hs,I.closed hok⟩⟩
  ·simp only[List.concat_eq_append] at *
   obtain⟨q,t1,t2⟩:=H.sk.top (st:=st) rfl
   obtain⟨w',p1,p2,p3⟩:=H.sk.pop (st:=st) rfl
   have hLl:(L'++[s]).length=L'.length+1:=by simp
   rw[hLl] at hlen hM
   have hpos:(0:Int)<((L'.length+1:Nat):Int):=by omega
   have hcast:((L'.length+1:Nat):Int)-1=(L'.length:Int):=by omega
   obtain⟨hsn,hsb⟩:=I.sN s (by simp)
   obtain⟨wS,o1,o2⟩:=h8 s hsn
   have hsl:s<lo.length:=by omega
   rw[List.getElem?_eq_getElem hsl,Option.some.injEq] at o1
   have hwone:wS.cells=[wS]:=by rcases o2.out with⟨rfl,_⟩|⟨t,rfl⟩ <;> rfl
   have ixo:Aa 1 ov (.int .i64 (s:Int)) st=some (.BC [wS],st):=by rw[h6.idx hsl,o1,hwone]
   have hlS:BO .slice wS st=some (.int .i64 ((Mk g g.rules.length s).length:Int),st):=by have:=o2.len (st:=st); simpa using this
   rw[e0] at z0
   have H':RC A g.names.length B w' L' st:=⟨H.hb,H.lo,H.a,H.len,H.ac,p2,fun p hp=>H.own p (p3 p hp)⟩
   have I':RI g (·=s) B L':=⟨I.sound,fun x hx=>I.sN x (by simp[hx]),fun r hr hb=>by
    rcases I.cl r hr hb with h|h|h
    ·rcases List.mem_append.1 h with h|h
     ·exact .inl h
     ·exact .inr (.inl (by simpa using h))
    ·exact h.elim
    ·exact .inr (.inr h),I.start⟩
   have loop:=ZP (n:=n) (A:=A) (nv:=nv) (ov:=ov) (m1:=.int .i64 (g.kinds.length:Nat)) (m2:=.int .i64 (g.ix g.start:Nat)) (mv:=.GM (strs g.names) (ints (List.range g.names.length))) hs hok h3 h4 h5 s o2 (fun r hr he=>I.sound _ (AX.Ch hr) (by rw[he]; exact hsb)) (m-1) (by omega) (.int .i64 (s:Nat)) st H' I' (by omega)
   simp[-List.getD_eq_getElem?_getD,C.f67L0,z0,z3,z4,hlen,hpos,hcast,wrap64 (n:=(L'.length:Int)) (by omega) (by omega),t1,t2,p1,ixo,hlS]
   refine M.Al (loop _ (by simp[z0]) (by simp[z3]) (by simp) (by simp) (by simp) (by simp)) fun x hx=>?_
   obtain⟨e,ts1,st1⟩:=x
   obtain⟨ee,g0,g3,B',w'',L'',g4,H'',I'',hM''⟩:=hx
   simp only at ee g0 g3 g4 H''
   subst ee
   simp[-List.getD_eq_getElem?_getD,g0,g3,g4]
   exact⟨m-1,by omega,by omega,e0.symm,B',L'',H'',I'',hM''⟩
 ·show 100<1000000; omega
 ·exact⟨by omega,z0,z3,B0,w0,L0,z4,H0,I0,by omega⟩
end
theorem MQ {k:Nat}{cv:AV}{g:AX}{st:St}(hC:FC cv g)(hs:g.Small)(hok:g.Ok) :
 ∃w B,AU E (k+7) 67 [cv] st=.ret (w,st)/\BI w 1 (BJ B)/\B.length=g.names.length/\∀s,s∈g.names->(B.getD (g.ix s) false=true↔Reach g s):=by
 have hold:=hC.Gi 0
 have hnl:=AX.DD hs
 obtain⟨nv,rv,ov,lr,lo',e0,h1,_⟩:=hC.out
 rw[BZ (fn:=C.f67) rfl rfl rfl (by simp[AV.CL,hold]),Ad (by simp)]
 have hsm:g.start∈g.names:=List.mem_append.2 (.inr hok.start)
 obtain⟨x0,hx0⟩:∃x,x=g.ix g.start:=⟨_,rfl⟩
 have hxn:x0<g.names.length:=hx0 ▸ Rj hsm
 have hln:∀S':St,BO .slice nv S'=some (.int .i64 (g.names.length:Int),S'):=fun S'=>by have:=h1.len (st:=S'); simpa using this
 have hmk:=Ox (o:=0) (n:=g.names.length) (by omega)
 obtain⟨h,hh⟩:∃h:Af,h=[(0,.cells 4 1 (BJ (List.replicate g.names.length false)) false)]:=⟨_,rfl⟩
 have hn:newObj 0 (.cells 4 1 (BJ (List.replicate g.names.length false)) false) ⟨[],1,0⟩=some ⟨h,1,0⟩:=by rw[hh]; rfl
 have hb:HB ⟨h,1,0⟩:=by
  subst hh
  intro p x hp
  rcases List.mem_cons.1 hp with e|e
  ·cases e; exact Nat.zero_lt_one
  ·cases e
 have hf:AA h 0=some (.cells 4 1 (BJ (List.replicate g.names.length false)) false):=by rw[hh]; rfl
 have ixA:=Gc (st:=⟨h,1,0⟩) (n:=g.names.length) (cap:=some g.names.length) hf hxn
 have s1:=BX (st:=⟨h,1,0⟩) (off:=x0) (v:=.bool true) hf (Nat.zero_le _) (by simp; omega) rfl rfl
 rw[Jl] at s1
 obtain⟨B0,hB0⟩:∃B,B=(List.replicate g.names.length false).set x0 true:=⟨_,rfl⟩
 rw[← hB0] at s1
 obtain⟨h2,hh2⟩:∃h2,h2=Ab h 0 (.cells 4 1 (BJ B0) false):=⟨_,rfl⟩
 have hb2:HB ⟨h2,1,0⟩:=hh2 ▸ HB.Ab (st:=⟨h,1,0⟩) hb
 have f2:AA h2 0=some (.cells 4 1 (BJ B0) false):=by rw[hh2,AR hf,if_pos rfl]
 rw[← hh2] at s1
 obtain⟨h3,hh3⟩:∃h3:Af,h3=(1,Ai.cells 3 1 [.int .i64 (x0:Nat)] false)::h2:=⟨_,rfl⟩
 have n3:newObj 1 (.cells 3 1 [.int .i64 (x0:Nat)] false) ⟨h2,2,0⟩=some ⟨h3,2,0⟩:=by rw[hh3]; exact Ac hb2
 have hb3:HB ⟨h3,2,0⟩:=hh3 ▸ HB.cons (h:=h2) (c:=1) (lo:=0) hb2 (by omega) (by omega)
 have hB0l:B0.length=g.names.length:=by rw[hB0]; simp
 have hB0d:∀q,B0.getD q false=decide (q=x0):=fun q=>by
  rw[hB0,DT (by simpa using hxn)]
  by_cases e:q=x0
  ·simp[e]
  ·rw[if_neg e]
   simp only[List.getD,List.getElem?_replicate]
   split <;> simp[e]
 have R0:RC 0 g.names.length B0 (.AQ 1 0 1 (some 1)) [x0] ⟨h3,2,0⟩:=⟨hb3,rfl,by show AA h3 0=_; rw[hh3,Ao (by omega)]; exact f2,hB0l,by show 0<2; omega,.ob 1 [x0] [] false (some 1) (by show AA h3 1=_; rw[hh3,AL,if_pos rfl]; rfl) (.inr rfl),fun p hp=>by
  simp only[Ah,Option.some.injEq] at hp
  subst hp
  exact⟨by show 1<2; omega,by omega⟩⟩
 have I0:RI g (fun _=>False) B0 [x0]:=by
  refine⟨fun s hs h=>?_,fun x hx=>?_,fun r hr h=>?_,by rw[hB0d,← hx0]; simp⟩
  ·rw[hB0d,decide_eq_true_eq] at h
   have:s=g.start:=by
    obtain⟨q1,q2⟩:=DF hs
    obtain⟨q3,q4⟩:=DF hsm
    have e':GY s g.names=GY g.start g.names:=h.trans hx0
    rw[← q2,← q4]; simp only[e']
   rw[this]; exact .start
  ·simp only[List.mem_singleton] at hx
   subst hx
   exact⟨hxn,by rw[hB0d]; simp⟩
  ·rw[hB0d,decide_eq_true_eq] at h
   exact .inl (by rw[h]; simp)
 have goal:((Ar E (AU E (k+6)) C.f67.body (TS.CY [cv] 0 .nil) ⟨[],0,0⟩).bind (leave C.f67.results)).to fun x=>x.1=.AQ 0 0 g.names.length (some g.names.length)/\∃B,AA x.2.h 0=some (.cells 4 1 (BJ B) false)/\B.length=g.names.length/\∀s,s∈g.names->(B.getD (g.ix s) false=true↔Reach g s):=by
  have e0':=e0
  rw[← hx0] at e0'
  simp[-List.getD_eq_getElem?_getD,C.f67,e0',hln,hmk,hn,ixA,s1,kG,n3]
  refine M.Al (ZQ (n:=k+6) (A:=0) hC hs hok _ R0 I0 (by simp) _ (by simp[e0']) (by simp) (by simp)) fun x hx=>?_
  obtain⟨e,ts1,st1⟩:=x
  obtain⟨ee,g3,B,f1,f2,f3⟩:=hx
  simp only at ee g3 f1
  subst ee
  simp[-List.getD_eq_getElem?_getD,g3,leave,results,AY]
  exact⟨B,f1,f2,f3⟩
 obtain⟨⟨v,st1⟩,r1,r2,B,r3,r4,r5⟩:=goal
 simp only at r2 r3
 subst r2
 refine⟨.list true 1 (BJ B),B,?_,⟨.inr ⟨_,rfl⟩⟩,r4,r5⟩
 rw[r1]
 simp[BA,Bu,OB r3 r4]
theorem Zq {k:Nat}{cv:AV}{g:AX}{st:St}(hC:FC cv g)(x:Nat):AU E (k+1) 88 [cv,.int .i64 (x:Int)] st=.ret (.bool (decide (x<g.kinds.length)),st):=by
 obtain⟨nv,rv,ov,lr,lo',e0,_⟩:=hC.out
 subst e0
 rw[Ap (fn:=C.f88) rfl rfl rfl,Ad (by simp)]
 have:decide ((x:Int)<(g.kinds.length:Int))=decide (x<g.kinds.length):=by rw[decide_eq_decide]; omega
 simp[C.f88,leave,results,AY]
def xO (B:List Bool)(r:List Nat)(q:Nat):Bool:=((r.take q).all fun y=>B.getD y false)&&(r.drop (q+1)).all fun y=>B.getD y false
structure TO (nw:AV)(n:Nat)(R:Nat->Nat)(ol:List AV)(K:Nat->List Nat)(st:St):Prop where
 hb:HB st
 lo:st.lo=0
 c1:1<st.c
 n0:AA st.h 0=some (.cells 79 1 [nw] false)
 f1:AA st.h 1=some (.cells 22 1 ol false)
 len:ol.length=n
 to:∀s,s<n->∃w,ol[s]?=some w/\Fa st.h 3 1 w (ints (K s))/\∀p,Ah w=some p->1<p/\p<st.c/\R p=s
theorem TO.later {nw:AV}{n:Nat}{R:Nat->Nat}{ol:List AV}{K:Nat->List Nat}{st st':St}(H:TO nw n R ol K st)(hb:HB st')(lo:st'.lo=0)(c:st.c<=st'.c)(fr:∀p,p<st.c->AA st'.h p=AA st.h p):TO nw n R ol K st' where
 hb:=hb
 lo:=lo
 c1:=Nat.lt_of_lt_of_le H.c1 c
 n0:=(fr 0 (by have:=H.c1; omega)).trans H.n0
 f1:=(fr 1 H.c1).trans H.f1
 len:=H.len
 to:=fun s hs=>by
  obtain⟨w,h1,h2,h3⟩:=H.to s hs
  exact⟨w,h1,h2.heap fun o ho=>fr o (h3 o ho).2.1,fun p hp=>⟨(h3 p hp).1,Nat.lt_of_lt_of_le (h3 p hp).2.1 c,(h3 p hp).2.2⟩⟩
def Yh (K:Nat->List Nat)(s x:Nat):Nat->List Nat:=fun q=>if q=s then K s++[x] else K q
theorem TO.push {nw:AV}{n:Nat}{R:Nat->Nat}{ol:List AV}{K:Nat->List Nat}{h:Af}{c:Nat}(H:TO nw n R ol K ⟨h,c,0⟩){s:Nat}(hs:s<n)(x:Nat)(hK:(K s).length<=900) :
 ∃wof h6 ol',AP h (.AO 1 s)=some wof/\newObj c (.cells 3 1 [.int .i64 (x:Nat)] false) ⟨h,c+2,0⟩=some ⟨(c,.cells 3 1 [.int .i64 (x:Nat)] false)::h,c+2,0⟩ /\
  BU (c+1) 3 1 8 wof (.AQ c 0 1 (some 1)) ⟨(c,.cells 3 1 [.int .i64 (x:Nat)] false)::h,c+2,0⟩=some (.AQ (c+1) 0 ((K s).length+1) none,⟨h6,c+2,0⟩) /\
  AA h6 1=some (.cells 22 1 ol false)/\(∀p,p<c->p≠1->R p≠s->AA h6 p=AA h p) /\
  Bc 1 (.AO 1 s) (.AQ (c+1) 0 ((K s).length+1) none) ⟨h6,c+2,0⟩=some (.undef,⟨Ab h6 1 (.cells 22 1 ol' false),c+2,0⟩) /\
  (∀p,p<c->p≠1->(∀w,ol[s]?=some w->Ah w≠some p)->AA (Ab h6 1 (.cells 22 1 ol' false)) p=AA h p)/\(∀p,p<c->(∀w,ol[s]?=some w->Ah w≠some p)->AA h6 p=AA h p) /\
  TO nw n (fun p=>if p<c then R p else s) ol' (Yh K s x) ⟨Ab h6 1 (.cells 22 1 ol' false),c+2,0⟩:=by
 have hc1:1<c:=H.c1
 obtain⟨wof,q1,q2,q3⟩:=H.to s hs
 have q3':∀p,Ah wof=some p->1<p/\p<c/\R p=s:=q3
 obtain⟨n5,h6,t1,t2,t3,t4⟩:=iX x H.hb q2 (fun p hp=>(q3' p hp).2.1) (by omega)
 have hw1:Ah wof≠some 1:=fun e=>by have:=(q3' 1 e).1; omega
 have hw0:Ah wof≠some 0:=fun e=>by have:=(q3' 0 e).1; omega
 have f6:AA h6 1=some (.cells 22 1 ol false):=(t4 1 hc1 hw1).trans H.f1
 have hlen:=H.len
 have s6:=BX (st:=⟨h6,c+2,0⟩) (off:=s) (v:=.AQ (c+1) 0 ((K s).length+1) none) f6 (Nat.zero_le _) (by omega) rfl rfl
 have F:∀{y:Ai} p,p<c->p≠1->Ah wof≠some p->AA (Ab h6 1 y) p=AA h p:=fun {y} p hp h1 hne=>by rw[AR f6,if_neg (Ne.symm h1)]; exact t4 p hp hne
 refine⟨wof,h6,ol.set s (.AQ (c+1) 0 ((K s).length+1) none),by rw[AB H.f1]; exact q1,n5,t1,f6,fun p hp h1 hR=>t4 p hp fun e=>hR (q3' p e).2.2,s6,fun p hp h1 hne=>F p hp h1 (hne wof q1),fun p hp hne=>t4 p hp (hne wof q1),HB.Ab (st:=⟨h6,c+2,0⟩) t2,rfl,by show 1<c+2; omega,(F 0 (by omega) (by omega) hw0).trans H.n0,?_,by rw[List.length_set]; exact hlen,fun q hq=>?_⟩
 ·show AA (Ab h6 1 _) 1=_
  rw[AR f6,if_pos rfl]
 ·by_cases e:q=s
  ·subst e
   refine⟨.AQ (c+1) 0 ((K q).length+1) none,by rw[List.getElem?_set_self (by omega)],?_,fun p hp=>?_⟩
   ·have:Yh K q x q=K q++[x]:=by unfold Yh; rw[if_pos rfl]
    rw[this]
    refine t3.heap fun o ho=>?_
    simp only[Ah,Option.some.injEq] at ho
    subst ho
    show AA (Ab h6 1 _) (c+1)=_
    rw[AR f6,if_neg (by omega)]
   ·simp only[Ah,Option.some.injEq] at hp
    subst hp
    exact⟨by omega,by show c+1<c+2; omega,by rw[if_neg (by omega)]⟩
  ·obtain⟨w',a1,a2,a3⟩:=H.to q hq
   have a3':∀p,Ah w'=some p->1<p/\p<c/\R p=q:=a3
   refine⟨w',by rw[List.getElem?_set_ne (Ne.symm e)]; exact a1,?_,fun p hp=>?_⟩
   ·have:Yh K s x q=K q:=by unfold Yh; rw[if_neg e]
    rw[this]
    refine a2.heap fun o ho=>?_
    obtain⟨b1,b2,b3⟩:=a3' o ho
    exact F o b2 (by omega) fun e'=>by have:=(q3' o e').2.2; omega
   ·obtain⟨b1,b2,b3⟩:=a3' p hp
    exact⟨b1,by show p<c+2; omega,by rw[if_pos b2]; exact b3⟩
def lone (m:Nat)(B:List Bool)(rl:List Nat)(q:Nat):Bool:=!decide (rl.getD q 0<m)&&xO B rl q
inductive BN (K:Nat->List Nat) (s:Nat):Nat->Prop
 |one {x:Nat} (h:x∈K s):BN K s x
 |more {x y:Nat} (h:BN K s x) (k:y∈K x):BN K s y
structure DS (A n:Nat)(st0:St)(B:List Bool)(w:AV)(L:List Nat)(st:St):Prop where
 hb:HB st
 lo:st.lo=0
 fr:∀p,p<A->AA st.h p=AA st0.h p
 a:AA st.h A=some (.cells 4 1 (BJ B) false)
 len:B.length=n
 ac:A<st.c
 sk:Rs st.h w L
 own:∀p,Ah w=some p->A<p/\p<st.c
structure DI (K:Nat->List Nat)(n s:Nat)(B:List Bool)(L:List Nat):Prop where
 sound:∀x,B.getD x false=true->BN K s x
 sN:∀x∈L,x<n/\BN K s x
 cl:∀x,B.getD x false=true->∀y∈K x,B.getD y false=true∨y∈L
 root:∀y∈K s,B.getD y false=true∨y∈L
theorem DI.fin {K:Nat->List Nat}{n s:Nat}{B:List Bool}(H:DI K n s B [])(x:Nat):B.getD x false=true↔BN K s x:=by
 refine⟨H.sound x,fun h=>?_⟩
 induction h with
 |one h=>exact (H.root _ h).elim id fun h=>by cases h
 |more _ h ih=>exact (H.cl _ ih _ h).elim id fun h=>by cases h
end Go.Am
