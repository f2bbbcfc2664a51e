/- A part of tablesStay. -/
import Derived.Test.YthnghmpbgomacaaGreatDoorC
import Derived.Lib.AppendIntMem
import Derived.Shelf.GgSortFunc.RowK
import Derived.Shelf.SlSortCmp.NoneTotal
set_option linter.unusedSectionVars false
namespace Go.Am
open Go Go.RowKit
section
variable {α:Type}
theorem fI[Inhabited α]{b:α->α->Bool}(h:MR b){d a:Array α}(k:Go.Sort.PermIn 0 d.size d a)(o:Go.Sort.SortedIn b 0 d.size a):a.toList=Hl b d.toList:=by
 obtain⟨f,_,e⟩:=k;have l:(a.extract 0 d.size).toList=a.toList:=by rw[←f];simp
 have n:(d.extract 0 d.size).toList=d.toList:=by simp
 rw[l,n]at e;refine wF h e (List.pairwise_iff_getElem.2 fun i j m g c=>?_);have:=o i j (CZ _) c (by rw[←f];simpa using g);rw[Jr a i (by simpa using m),Jr a j (by simpa using g)]at this;simpa using this
end
section
variable {base:Nat}{w0:Start}{I:HY}{μ:Mu}{st st':St}{w:World}
theorem xM(F:Array Value)(a:List Value)(h:a.length=F.size):Go.Sort.setMany F 0 a=a.toArray:=by
 apply Array.ext
 ·simp[h]
 ·intro i b d;have:=Go.Sort.get_setMany a 0 F i (by simpa using b);rw[Jr _ i b]at this;rw[this];have c:i<a.length:=by simpa using d
  rw[AX ⟨CZ _,by omega⟩,OJ,Jr _ i c];simp
theorem lq(P:Program)(H:CQ base w0 I μ st w){o c:Nat}{e:Pl}(i:μ o=some e){k:List AV}{d a:List Value}(t:BR I μ k d)(m:One d)(q:d.length=a.length)(h:Go.Sort.Holds id w e.r (e.b+c) a.toArray)(p:CO st o c k=some st')(n:Nat)(l:Array Obj) :
 CQ base w0 I μ st' (Go.Sort.grow (Go.Sort.putRow id (Go.Sort.ahead w n) e.r (e.b+c) d.toArray) l):=by
 obtain⟨u,g,H1⟩:=Rj (P:=P) H i t m p;have key:=run_storeCells_cells (P:=P) e.r (e.b+c) d 0 w (fun j s=>by
  rw[IK,(h j (by simp;omega)).1];rfl) (fun j s=>by
  rw[IK];exact (h j (by simp;omega)).2) m
 rw[key]at g;injection g with _ g;rw[IK]at g;have f:=Go.Sort.putRow_self id w e.r (e.b+c) a.toArray h;have Ah:=Go.Sort.setCells_putRow w e.r (e.b+c) d 0 a.toArray (by simp;omega);rw[f,IK,xM _ _ (by simpa using q)]at Ah;rw[Ah]at g;subst g;exact H1.grown (Go.Lib.below_grow _ _ (Ao _) n l)
end
section
variable {α:Type}
theorem dQ{β:Type}{f:α->List β}{l m:List α}(h:l.Perm m):(l.flatMap f).length=(m.flatMap f).length:=by
 induction h with
 |nil=>rfl
 |cons x _ a=>simp[Cn,a]
 |swap x y l=>simp[Cn];omega
 |trans _ _ c b=>exact c.trans b
structure Ph (k:Nat)(dec:List AV->Option (List α))(encA:α->List AV)(enc:α->List Value):Prop where
 back:∀{cs xs},dec cs=some xs->cs=xs.flatMap encA
 len:∀x,(encA x).length=k
 one:∀x,One (enc x)
 rel:∀(I:HY) (μ:Mu) (x:α),BR I μ (encA x) (enc x)
 inv:∀(I:HY) (μ:Mu) (x:α) (rv:List Value),BR I μ (encA x) rv->rv=enc x
variable {k:Nat}{dec:List AV->Option (List α)}{encA:α->List AV}{enc:α->List Value}
theorem Ph.AFK(R:Ph k dec encA enc)(I:HY)(μ:Mu):∀a:List α,BR I μ (a.flatMap encA) (a.flatMap enc)
 |[]=>.nil
 |x::a=>by rw[Cn,Cn];exact (R.rel I μ x).append (R.AFK I μ a)
theorem Ph.AFo(R:Ph k dec encA enc)(I:HY)(μ:Mu):∀(a:List α) (b:List Value),BR I μ (a.flatMap encA) b->b=a.flatMap enc
 |[],b,h=>by cases h;rfl
 |x::a,b,h=>by rw[Cn]at h;obtain⟨d,c⟩:=h.split;rw[Cn,←R.inv I μ x _ d,←R.AFo I μ a _ c,Kq]
theorem Ph.AHG(R:Ph k dec encA enc)(a:List α):One (a.flatMap enc):=by intro v b;obtain⟨x,_,c⟩:=Ka.1 b;exact R.one x v c
theorem Ph.lens(R:Ph k dec encA enc):∀a:List α,(a.flatMap encA).length=a.length*k
 |[]=>by simp
 |x::a=>by rw[Cn,Bd,R.len,R.lens a,FV,Il];omega
def kS(P:Program)(f:Nat)(enc:α->List Value)(lt:α->α->Bool)(rf:Value)(w:World):Prop:=
 (∀(a:Option Addr) (cap:Nat),Calls P f #[.slice a 0 cap,rf] w fun e w'=>e=.returned (.tuple #[])/\w'=w) /\
 ∀(blk off cap:Nat) (xs:List α),Go.Sort.Holds id w blk off (xs.flatMap enc).toArray->blk<w.heap.size->xs.length<4611686018427387904 ->
  Calls P f #[.slice (some ⟨blk,off,none⟩) xs.length cap,rf] w fun e w'=>e=.returned (.tuple #[])/\∃n os,w'=Go.Sort.grow (Go.Sort.putRow id (Go.Sort.ahead w n) blk off ((Hl lt xs).flatMap enc).toArray) os
theorem fK{P:Program}{GT:Nat->Option AV}{f:Nat}{J:AV->Option (α->α->Bool)}(hk:0<k)(R:Ph k dec encA enc)(a7:∀args W,(callFunc f args).run P W=.ok (.enter f args) W)(L:∀{cs l},dec cs=some l->l.length<4611686018427387904)(hC:∀(T:AV) (D:α->α->Bool),J T=some D->∀(base:Nat) (w0:Start) (I:HY) (μ:Mu) (x:St) (w:World) (rf:Value),Ht GT I->CQ base w0 I μ x w->BO I μ T rf->kS P f enc D rf w) :
 TJ P GT f (JY k dec encA J):=by
 intro args v x m g base w0 I μ w a0 hG H b9 hR;unfold JY at g;split at g
 ·rename_i s T;split at g
  ·rename_i D a4;cases hR with
   |cons _ r1 _ c1 g1 q1=>
    cases q1 with
    |cons _ r2 _ b4 g2 q2=>
     cases q2;have C:=hC T D a4 base w0 I μ x w r2 hG H g2;refine⟨fun W=>a7 _ W,?_⟩;split at g
     ·cases g;cases g1;refine (C.1 none 0).mono ?_;rintro e w' ⟨rfl,rfl⟩;exact⟨_,I,rfl,.tuple [] [] .nil,H,HY.le_refl I,rfl,rfl,fun _ _ _=>rfl⟩
     ·rename_i o i len cap;rw[beq_eq,Ad]at g;split at g
      ·rename_i V;simp only[Aw]at V;subst V;cases g;cases g1;refine (C.1 _ _).mono ?_;rintro e w' ⟨rfl,rfl⟩;exact⟨_,I,rfl,.tuple [] [] .nil,H,HY.le_refl I,rfl,rfl,fun _ _ _=>rfl⟩
      rename_i V;simp only[Aw]at V;split at g
      ·rename_i cs d;split at g
       ·rename_i l O;split at g
        ·rename_i b5 a;cases g;cases g1 with
         |AU _ _ _ _ y ad K U hz ha c3 b1=>
          simp only[BS]at d;split at d
          ·rename_i ty t b7 ext Y;simp only[beq_eq,ble_eq,Ad,Aq,Aw]at d;split at d
           ·rename_i hb;obtain⟨⟨a9,c2⟩,c4⟩:=hb;subst a9;have d:=JK d;obtain⟨c0,c,fz,B,u1,a5,hn,he,A,b6,b0,Q,b3,a6⟩:=H.cells Y U;rw[U]at u1;cases u1;have b8:=Q.length;have u:=R.back O;have hd:=(Q.drop i).take (len*t);rw[d,u]at hd;have F:=R.AFo I μ l _ hd;have a3:l.length=len:=by
             have h1:=R.lens l;rw[←u,←d,Gv,IV]at h1;have h2:len*t=l.length*t:=by omega
             exact (Nat.eq_of_mul_eq_mul_right hk h2).symm
            have Z:(l.flatMap enc).length=len*t:=by rw[←F,Gv,IV];omega
            have z:∀p,p<x.c->μ p=none->AA m.h p=AA x.h p/\m.c=x.c/\m.lo=x.lo:=fun p hp q=>by
             unfold CO at a;rw[Ad]at a;split at a
             ·cases a
             rw[Y]at a;simp only at a;rw[Ad]at a;split at a
             ·cases a;refine⟨?_,rfl,rfl⟩;show AA (Ah _ _ _) p=_;rw[JU _ _ _ (by rw[Y];rfl),AJ];intro e;subst e;rw[U]at q;cases q
             ·cases a
            have S:m.c=x.c/\m.lo=x.lo:=by
             unfold CO at a;rw[Ad]at a;split at a
             ·cases a
             rw[Y]at a;simp only at a;rw[Ad]at a;split at a
             ·cases a;exact⟨rfl,rfl⟩
             ·cases a
            have hH:Go.Sort.Holds id w y.r (y.b+i) (l.flatMap enc).toArray:=fun j hj=>by
             have a8:j<len*t:=by simpa [Z]using hj
             have e1:(l.flatMap enc)[j]? =B[i+j]?:=by rw[←F,List.getElem?_take_of_lt a8,QU]
             have N:i+j<B.length:=by omega
             have e2:(l.flatMap enc).toArray[j]! =B[i+j]:=by
              rw[Jr _ j hj,List.getElem_toArray];have:j<(l.flatMap enc).length:=by omega
              rw[Bu this,Bu N]at e1;exact JK e1
             refine⟨?_,?_⟩
             ·rw[GV A,Fg,a6 (i+j) N,e2];rfl
             ·rw[Nb A];simp only[Ji];have b2:y.fin=y.b+y.n+y.e:=rfl;exact b0 _ (by omega) (by omega)
            have a2:∀p,p<x.c->μ p=none->AA m.h p=AA x.h p:=fun p hp hn=>(z p hp hn).1
            ·have a1:ad=⟨y.r,y.b+i,none⟩:=ha.2 (by omega);subst a1;have Cr:=C.2 y.r (y.b+i) K l hH (NT A) (L O);rw[a3]at Cr;refine Cr.mono ?_;rintro e w' ⟨rfl,n,os,rfl⟩;refine⟨_,I,rfl,.tuple [] [] .nil,?_,HY.le_refl I,S.1,S.2,a2⟩;refine lq P H U (R.AFK I μ (Hl D l)) (R.AHG _) ?_ hH a n os;exact dQ (Ip D l)
           ·cases d
          ·cases d
        ·cases g
       ·cases g
      ·cases g
     ·cases g
  ·cases g
 ·cases g
end
section
variable {α:Type}
theorem jH{β:Type}{f:α->List β}{k:Nat}(d:0<k)(a:∀x,(f x).length=k):∀(b:List α) (t:Nat),(b.flatMap f)[t]? =(b[t / k]?).bind fun x=>(f x)[t % k]?
 |[],t=>by simp
 |x::b,t=>by
  rw[Cn];by_cases h:t<k
  ·rw[Oo (by rw[a];exact h),Nat.div_eq_of_lt h,Nat.mod_eq_of_lt h];rfl
  ·have c:k<=t:=by omega
   rw[NV (by rw[a];exact c),a,jH d a b (t-k),Nat.mod_eq_sub_mod c,Nat.div_eq_sub_div d c];rfl
theorem Yz[Inhabited α]{a:α->List Value}{k:Nat}(j:0<k)(f:∀x,(a x).length=k)(d:Array α):Go.Sort.flatK a k d=(d.toList.flatMap a).toArray:=by
 have m:(d.toList.flatMap a).length=d.size*k:=by
  have:∀b:List α,(b.flatMap a).length=b.length*k:=fun b=>by
   induction b with
   |nil=>simp
   |cons x b n=>rw[Cn,Bd,f,n,FV,Il];omega
  rw[this];simp
 apply Array.ext
 ·simp[m]
 ·intro t l o;have c:t<d.size*k:=by simpa using l
  have e:=Go.Sort.get_flatK a k d t c;rw[Jr _ t l]at e;rw[e,List.getElem_toArray];have g:=jH j f d.toList t;rw[Bu (by omega)]at g;have h:t / k<d.size:=Nat.div_lt_of_lt_mul (by rw[Nat.mul_comm];exact c);have i:t % k<k:=Nat.mod_lt _ j;rw[Bu (by simpa using h),Option.bind_some,Bu (by rw[f];exact i)]at g;rw[Jr d _ h,Jr (a d[t / k]) (t % k) (by rw[f];exact i)];simpa using (JK g).symm
end
end Go.Am
namespace Go.Am
open Go Go.RowKit Go.Proofs Go.Shelf
section
variable {P:Program}{ρ:Ren}{α:Type}[Inhabited α]
theorem MR.swo{a:α->α->Bool}(h:MR a):Go.Sort.SWO a:=
 ⟨h.irr,h.tr,fun x y z b c=>h.le_trans c b⟩
theorem ll(L:SlLaysF0.n6 P ρ){k:Nat}(m:0<k)(A:∀w,(isAgg (ρ.t 24)).run P w=.ok true w)(B:∀w,(Go.sizeOf (ρ.t 24)).run P w=.ok k w){h:α->List Value}(q:∀x,(h x).length=k)(F:∀x,One (h x))(p:α->α->Int)(z:MR (ltOf p))(g:Nat)(s:Array Value)(H:∀args w,(callFunc g args).run P w=.ok (.enter g args) w)(w:World)(o:∀(b i:Nat) (l:List α),Go.Sort.Holds id w b i (l.flatMap h).toArray->b<w.heap.size->CmpLays P g s h k p b i l.length w):kS P (ρ.f 6) h (ltOf p) (.func (.func g) #[] s) w:=by
 refine⟨fun a cap=>AnyF.slices_SortFunc_none L a cap _ w,fun b i cap l y j r=>?_⟩;have u:Go.Sort.HoldsK h k w b i l.toArray:=by unfold Go.Sort.HoldsK;rw[Yz m q];exact y
 have c:=AnyQ.slices_SortFunc L k A B h q (fun x v K=>F x v K) p z.swo g s b i cap l.toArray w H (by simpa using o b i l y j) u j (by simpa using r);simp only[List.size_toArray]at c;refine c.mono ?_;rintro e N ⟨rfl,O,n,D,I,J,rfl⟩;refine⟨rfl,n,D,?_⟩;have e:=fI (d:=l.toArray) z (by simpa using I) (by simpa using J);simp only at e;unfold sortWorldK Go.Sort.putRowK;rw[Yz m q,e]
end
end Go.Am
