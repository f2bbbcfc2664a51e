/- A part of tablesStay. -/
import Derived.Test.YthnghmpbgomacaaGreatDoorA
import Derived.IntWalk
import Derived.Laws.BytesString
import Derived.Laws.Cells
import Derived.Laws.IdiomCopy
import Derived.Laws.Strings
import Derived.Laws.StructEq
import Derived.Lib.Builder
import Derived.Lib.UnsafeStr
import Derived.WideLaws
namespace Go.Am
open Go Go.RowKit
structure Pl where
 r:Nat
 b:Nat
 n:Nat
 e:Nat
 sz:Nat
structure HY where
 cell:Nat->Nat->Option Value
 map:Nat->Option Obj
def HY.le(I J:HY):Prop:=(∀r o v,I.cell r o=some v->J.cell r o=some v)/\(∀r x,I.map r=some x->J.map r=some x)
theorem HY.le_refl(I:HY):I.le I:=⟨fun _ _ _ h=>h,fun _ _ h=>h⟩
theorem HY.le_trans{I J K:HY}(h:I.le J)(k:J.le K):I.le K:=⟨fun r o v x=>k.1 r o v (h.1 r o v x),fun r x y=>k.2 r x (h.2 r x y)⟩
abbrev Mu:=Nat->Option Pl
def One(l:List Value):Prop:=∀v∈l,v.oneCell'=true
def VQ(pl:Pl)(off:Nat)(cap:Option Nat)(rcap:Nat):Prop:=
 match cap with
 |some c=>rcap=c/\off+c*pl.sz<=pl.n
 |none=>off<=pl.n/\rcap*pl.sz=pl.n-off+pl.e
 mutual
inductive BO (I:HY) (μ:Mu):AV->Value->Prop
 |bool (b:Bool):BO I μ (.bool b) (.bool b)
 |int (k:IntKind) (n:Int):BO I μ (.int k n) (.int k n)
 |str (l:List UInt8):BO I μ (.str l) (.string ⟨⟨l⟩⟩)
 |DY:BO I μ .DY (.pointer none)
 |AL (o off:Nat) (pl:Pl) (h:μ o=some pl):BO I μ (.AL o off) (.pointer (some ⟨pl.r,pl.b+off,none⟩))
 |CB (cs:List AV) (r off:Nat) (rvs:List Value) (hI:∀(i:Nat) (h:i<rvs.length),I.cell r (off+i)=some rvs[i]) (h1:One rvs)
  (h:BR I μ cs rvs):BO I μ (.CB cs) (.pointer (some ⟨r,off,none⟩))
 |AO:BO I μ .AO (.slice none 0 0)
 |list (tight:Bool) (sz:Nat) (xs:List AV) (r off cap:Nat) (rvs:List Value) (hI:∀(i:Nat) (h:i<rvs.length),I.cell r (off+i)=some rvs[i]) (h1:One rvs)
  (hs:∀x∈xs,x.cells.length=sz) (h:BR I μ (xs.flatMap AV.cells) rvs) (hc:xs.length<=cap) (ht:tight=true->cap=xs.length) :
  BO I μ (.list tight sz xs) (.slice (some ⟨r,off,none⟩) xs.length cap)
 |AU (o off len:Nat) (cap:Option Nat) (pl:Pl) (a:Addr) (rcap:Nat) (h:μ o=some pl) (hz:0<pl.sz)
  (ha:a.spot=none/\(0<rcap->a=⟨pl.r,pl.b+off,none⟩)) (hl:len<=rcap) (hc:VQ pl off cap rcap):BO I μ (.AU o off len cap) (.slice (some a) len rcap)
 |IZ:BO I μ .IZ (.map none)
 |Cq (o:Nat) (pl:Pl) (h:μ o=some pl):BO I μ (.Cq o) (.map (some pl.r))
 |CR (ks vs:List AV) (r:Nat) (es:Array MapEntry) (clock:Nat) (hI:I.map r=some (.map es clock)) (hk:BR I μ ks (es.toList.map (·.key)))
  (hv:BR I μ vs (es.toList.map (·.val))):BO I μ (.CR ks vs) (.map (some r))
 |fn (f:Fn) (a b:List AV) (ra rb:List Value) (ha:BR I μ a ra) (hb:BR I μ b rb):BO I μ (.fn f a b) (.func f ra.toArray rb.toArray)
 |Nc:BO I μ .Nc .nilFunc
 |iface (t:Nat) (v:AV) (rv:Value) (h:BO I μ v rv):BO I μ (.iface t v) (.iface t rv)
 |Ij:BO I μ .Ij .nilIface
 |agg (cs:List AV) (rvs:List Value) (h:BR I μ cs rvs) (h1:One rvs):BO I μ (.agg cs) (.agg rvs.toArray)
 |tuple (cs:List AV) (rvs:List Value) (h:BR I μ cs rvs):BO I μ (.tuple cs) (.tuple rvs.toArray)
inductive BR (I:HY) (μ:Mu):List AV->List Value->Prop
 |nil:BR I μ [] []
 |cons (v:AV) (rv:Value) (l:List AV) (rl:List Value) (h:BO I μ v rv) (t:BR I μ l rl):BR I μ (v::l) (rv::rl)
end
section
variable {I J:HY}{μ ν:Mu}
theorem BR.length{l:List AV}{a:List Value}(h:BR I μ l a):l.length=a.length:=by
 induction l generalizing a with
 |nil=>cases h;rfl
 |cons v l b=>cases h with|cons _ _ _ _ _ t=>simp[b t]
theorem BR.get{l:List AV}{b:List Value}(h:BR I μ l b):∀(i:Nat) (v:AV),l[i]? =some v->∃c,b[i]? =some c/\BO I μ v c:=by
 induction l generalizing b with
 |nil=>intro i v a;simp at a
 |cons x l d=>
  cases h with
  |cons _ c _ b h t=>
   intro i v a;cases i with
   |zero=>simp at a;subst a;exact⟨c,rfl,h⟩
   |succ i=>simpa using d t i v (by simpa using a)
theorem BR.append{a b:List AV}{c e:List Value}(d:BR I μ a c)(g:BR I μ b e):BR I μ (a++b) (c++e):=by
 induction a generalizing c with
 |nil=>cases d;exact g
 |cons x l f=>cases d with|cons _ _ _ _ h t=>exact .cons _ _ _ _ h (f t)
theorem BR.drop{l:List AV}{a:List Value}(h:BR I μ l a):∀n,BR I μ (l.drop n) (a.drop n):=by
 induction l generalizing a with
 |nil=>cases h;intro n;simp;exact .nil
 |cons x l b=>cases h with
  |cons _ _ _ _ h t=>intro n;cases n with
   |zero=>exact .cons _ _ _ _ h t
   |succ n=>simpa using b t n
theorem BR.take{l:List AV}{a:List Value}(h:BR I μ l a):∀n,BR I μ (l.take n) (a.take n):=by
 induction l generalizing a with
 |nil=>cases h;intro n;simp;exact .nil
 |cons x l b=>cases h with
  |cons _ _ _ _ h t=>intro n;cases n with
   |zero=>exact .nil
   |succ n=>exact .cons _ _ _ _ h (b t n)
theorem BR.split{a b:List AV}{r:List Value}(h:BR I μ (a++b) r):BR I μ a (r.take a.length)/\BR I μ b (r.drop a.length):=by have d:=h.take a.length;have c:=h.drop a.length;simp at d c;exact⟨d,c⟩
def Mu.le(μ ν:Mu):Prop:=∀o pl,μ o=some pl->ν o=some pl
 mutual
theorem BO.mono(hI:I.le J) (hμ:μ.le ν):∀{v:AV} {rv:Value},BO I μ v rv->BO J ν v rv
 |_,_,.bool b=>.bool b
 |_,_,.int k n=>.int k n
 |_,_,.str l=>.str l
 |_,_,.DY=>.DY
 |_,_,.AL o off pl h=>.AL o off pl (hμ _ _ h)
 |_,_,.CB cs r off rvs h h1 t=>.CB cs r off rvs (fun i hi=>hI.1 _ _ _ (h i hi)) h1 (BR.mono hI hμ t)
 |_,_,.AO=>.AO
 |_,_,.list tight sz xs r off cap rvs h h1 hs t hc ht=>.list tight sz xs r off cap rvs (fun i hi=>hI.1 _ _ _ (h i hi)) h1 hs (BR.mono hI hμ t) hc ht
 |_,_,.AU o off len cap pl a rcap h hz ha hl hc=>.AU o off len cap pl a rcap (hμ _ _ h) hz ha hl hc
 |_,_,.IZ=>.IZ
 |_,_,.Cq o pl h=>.Cq o pl (hμ _ _ h)
 |_,_,.CR ks vs r es clock h hk hv=>.CR ks vs r es clock (hI.2 _ _ h) (BR.mono hI hμ hk) (BR.mono hI hμ hv)
 |_,_,.fn f a b ra rb ha hb=>.fn f a b ra rb (BR.mono hI hμ ha) (BR.mono hI hμ hb)
 |_,_,.Nc=>.Nc
 |_,_,.iface t v rv h=>.iface t v rv (BO.mono hI hμ h)
 |_,_,.Ij=>.Ij
 |_,_,.agg cs rvs h h1=>.agg cs rvs (BR.mono hI hμ h) h1
 |_,_,.tuple cs rvs h=>.tuple cs rvs (BR.mono hI hμ h)
theorem BR.mono(hI:I.le J) (hμ:μ.le ν):∀{l:List AV} {rl:List Value},BR I μ l rl->BR J ν l rl
 |_,_,.nil=>.nil
 |_,_,.cons v rv l rl h t=>.cons v rv l rl (BO.mono hI hμ h) (BR.mono hI hμ t)
end
theorem BO.cells{v:AV}{rv:Value}(h:BO I μ v rv)(j:v.isTuple=false):∃rvs,rv.cells.toList=rvs/\BR I μ v.cells rvs/\One rvs:=by
 have one:∀{x:AV} {y:Value},BO I μ x y->y.oneCell'=true->BR I μ [x] [y]/\One [y]:=fun h d=>⟨.cons _ _ _ _ h .nil,fun v i=>by simp at i;rw[i];exact d⟩
 cases h with
 |agg q rvs h d=>exact⟨rvs,by simp[Value.cells],h,d⟩
 |tuple=>simp[AV.isTuple]at j
 |bool b=>exact⟨_,rfl,one (.bool b) rfl⟩
 |int k n=>exact⟨_,rfl,one (.int k n) rfl⟩
 |str l=>exact⟨_,rfl,one (.str l) rfl⟩
 |DY=>exact⟨_,rfl,one .DY rfl⟩
 |AL o c g h=>exact⟨_,rfl,one (.AL o c g h) rfl⟩
 |CB q r c rvs h d t=>exact⟨_,rfl,one (.CB q r c rvs h d t) rfl⟩
 |AO=>exact⟨_,rfl,one .AO rfl⟩
 |list tight F K r c cap rvs h d N t p u=>exact⟨_,rfl,one (.list tight F K r c cap rvs h d N t p u) rfl⟩
 |AU o c len cap g a e h D m H p=>exact⟨_,rfl,one (.AU o c len cap g a e h D m H p) rfl⟩
 |IZ=>exact⟨_,rfl,one .IZ rfl⟩
 |Cq o g h=>exact⟨_,rfl,one (.Cq o g h) rfl⟩
 |CR w B r L clock h A i=>exact⟨_,rfl,one (.CR w B r L clock h A i) rfl⟩
 |fn f a b s J m z=>exact⟨_,rfl,one (.fn f a b s J m z) rfl⟩
 |Nc=>exact⟨_,rfl,one .Nc rfl⟩
 |iface t v rv h=>exact⟨_,rfl,one (.iface t v rv h) rfl⟩
 |Ij=>exact⟨_,rfl,one .Ij rfl⟩
end
theorem beq_eq(a b:Nat):Nat.beq a b=decide (a=b):=by
 cases h:Nat.beq a b with
 |true=>simp[Cb h]
 |false=>simp[Nat.ne_of_beq_eq_false h]
theorem ble_eq(a b:Nat):Nat.ble a b=decide (a<=b):=by
 cases h:Nat.ble a b with
 |true=>simp[ND h]
 |false=>simp;exact Nat.lt_of_not_le fun c=>by rw[Dv c]at h;cases h
theorem blt_eq(a b:Nat):Nat.blt a b=decide (a<b):=by show Nat.ble (a+1) b=_;rw[ble_eq];simp only[Nat.lt_iff_add_one_le]
theorem AZ(i:Nat)(x:BJ)(h:Aa)(o:Nat):AA ((i,x)::h) o=if i=o then some x else AA h o:=by simp[AA,beq_eq,Ad]
theorem JU(h:Aa)(o:Nat)(y:BJ)(a:(AA h o).isSome)(p:Nat):AA (Ah h o y) p=if o=p then some y else AA h p:=by
 induction h with
 |nil=>simp[AA]at a
 |cons q h b=>
  obtain⟨i,x⟩:=q;by_cases hi:i=o
  ·subst hi;simp only[Ah,beq_eq,Ff,Ba,AZ];by_cases hp:i=p<;>simp[hp]
  ·simp only[Ah,beq_eq,hi,Lb,Bj,AZ];rw[AZ,AJ hi]at a;rw[b a];by_cases hp:i=p
   ·subst hp;simp[Aj hi]
   ·simp[hp]
theorem LD{h b:Aa}{o:Nat}{y:BJ}(a:Qw h o y=some b)(p:Nat):AA b p=if o=p then some y else AA h p:=by
 induction h generalizing b with
 |nil=>simp[Qw]at a;subst a;simp[AZ]
 |cons q h d=>
  obtain⟨i,x⟩:=q;simp only[Qw,blt_eq,beq_eq]at a;by_cases h1:i<o
  ·simp[h1]at a;subst a;simp[AZ]
  ·by_cases h2:i=o
   ·simp[h2]at a
   ·simp only[h1,h2,Lb,Bj]at a;cases hq:Qw h o y with
    |none=>simp[hq]at a
    |some c=>
     simp[hq]at a;subst a;rw[AZ,d hq,AZ];by_cases h3:i=p
     ·subst h3;simp[Aj h2]
     ·simp[h3]
theorem Gz(h:Aa)(o p:Nat):AA (Jv h o) p=if o=p then none else AA h p:=by
 induction h with
 |nil=>simp[Jv,AA]
 |cons q h a=>
  obtain⟨i,x⟩:=q;by_cases hi:i=o
  ·subst hi;simp only[Jv,beq_eq,Ff,Ba,a,AZ];by_cases hp:i=p<;>simp[hp]
  ·simp only[Jv,beq_eq,hi,Lb,Bj,AZ,a];by_cases hp:i=p
   ·subst hp;simp[Aj hi]
   ·simp[hp]
def Pl.fin(pl:Pl):Nat:=pl.b+pl.n+pl.e
inductive Qc (I:HY) (μ:Mu) (w:World) (pl:Pl):BJ->Prop
 |cells (ty sz:Nat) (cs:List AV) (ext:Bool) (c:Array Value) (fz:Nat×Nat) (rvs:List Value) (hsz:pl.sz=sz) (hn:pl.n=cs.length)
  (he:ext=false->pl.e=0/\pl.b=0) (hw:w.heap[pl.r]? =some (.cells c ty fz)) (hb:pl.fin<=c.size)
  (hf:∀i,pl.b<=i->i<pl.fin->¬(fz.1<=i/\i<fz.2)) (h:BR I μ cs rvs) (h1:One rvs)
  (hc:∀(i:Nat) (h:i<rvs.length),c[pl.b+i]? =some rvs[i]):Qc I μ w pl (.cells ty sz cs ext)
 |map (ks vs:List AV) (bs:List Nat) (clock:Nat) (es:Array MapEntry) (hb:pl.b=0) (hn:pl.n=1) (he:pl.e=0) (hw:w.heap[pl.r]? =some (.map es clock))
  (hk:BR I μ ks (es.toList.map (·.key))) (hv:BR I μ vs (es.toList.map (·.val))) (hbs:bs=es.toList.map (·.born)) (hs:bs.Pairwise (·<·)) (hc:∀b∈bs,b<clock) :
  Qc I μ w pl (.map ks vs bs clock)
 |MB (since:Nat) (seen:List Nat) (stepped:Nat) (hb:pl.b=0) (hn:pl.n=1) (he:pl.e=0) (hw:w.heap[pl.r]? =some (.mapIter none since seen.toArray stepped)) :
  Qc I μ w pl (.iter none since seen stepped)
 |iter (o:Nat) (pm:Pl) (since:Nat) (seen:List Nat) (stepped:Nat) (hb:pl.b=0) (hn:pl.n=1) (he:pl.e=0) (hm:μ o=some pm)
  (hw:w.heap[pl.r]? =some (.mapIter (some pm.r) since seen.toArray stepped)):Qc I μ w pl (.iter (some o) since seen stepped)
structure Start where
 w:World
 PM:HY
structure CQ (base:Nat)(w0:Start)(I:HY)(μ:Mu)(st:St)(w:World):Prop where
 below:Below base w0.w w
 lC:base<=w.heap.size
 PM:∀r off v,I.cell r off=some v->w.cell? ⟨r,off,none⟩=some v
 Iy:∀r b,I.map r=some b->w.heap[r]? =some b
 jS:∀o,st.c<=o->μ o=none
 obj:∀o ob pl,AA st.h o=some ob->μ o=some pl->Qc I μ w pl ob
 lo:∀o ob pl,AA st.h o=some ob->μ o=some pl->st.lo<=o->base<=pl.r
 sep:∀o p x y pl pm,AA st.h o=some x->AA st.h p=some y->μ o=some pl->μ p=some pm->o≠p->pl.r≠pm.r
 TL:∀o x pl i,AA st.h o=some x->μ o=some pl->pl.b<=i->i<pl.fin->I.cell pl.r i=none
 MX:∀o x pl,AA st.h o=some x->μ o=some pl->I.map pl.r=none
 Bi:∀o x,AA st.h o=some x->o<st.c
 XP:∀r,r<base->(∀off,I.cell r off=w0.PM.cell r off)/\I.map r=w0.PM.map r
theorem Qc.mono{I J:HY}{μ ν:Mu}{w:World}{n:Pl}{ob:BJ}(k:I.le J)(g:μ.le ν)(h:Qc I μ w n ob):Qc J ν w n ob:=by
 cases h with
 |cells B z v ext c s l j e f d b y h x m=>exact .cells B z v ext c s l j e f d b y (h.mono k g) x m
 |map r u q clock A b e f d t H i D m=>exact .map r u q clock A b e f d (t.mono k g) (H.mono k g) i D m
 |MB since seen a b e f d=>exact .MB since seen a b e f d
 |iter o p since seen a b e f F d=>exact .iter o p since seen a b e f (g _ _ F) d
theorem Qc.world{I:HY}{μ:Mu}{w w':World}{i:Pl}{ob:BJ}(g:w'.heap[i.r]? =w.heap[i.r]?)(h:Qc I μ w i ob):Qc I μ w' i ob:=by
 cases h with
 |cells B z v ext c s l k e f b d y h x m=>exact .cells B z v ext c s l k e f (g.trans b) d y h x m
 |map q u p clock A d e f b t H j D m=>exact .map q u p clock A d e f (g.trans b) t H j D m
 |MB since seen a d e f b=>exact .MB since seen a d e f (g.trans b)
 |iter o n since seen a d e f F b=>exact .iter o n since seen a d e f F (g.trans b)
theorem Qc.lt{I:HY}{μ:Mu}{w:World}{b:Pl}{ob:BJ}(h:Qc I μ w b ob):b.r<w.heap.size:=by
 have key:∀{x:Obj},w.heap[b.r]? =some x->b.r<w.heap.size:=fun {x} c=>by
  rcases FU b.r w.heap.size with h|h
  ·exact h
  ·rw[Array.getElem?_eq_none h]at c;cases c
 cases h with
 |cells _ _ _ _ _ _ _ _ _ _ a=>exact key a
 |map _ _ _ _ _ _ _ _ a=>exact key a
 |MB _ _ _ _ _ _ a=>exact key a
 |iter _ _ _ _ _ _ _ _ _ a=>exact key a
def Hm(μ:Mu)(o:Nat)(pl:Pl):Mu:=fun p=>if p=o then some pl else μ p
theorem JF{μ:Mu}{o:Nat}{b:Pl}(h:μ o=none):μ.le (Hm μ o b):=fun p x a=>by
 unfold Hm;by_cases e:p=o
 ·subst e;rw[h]at a;cases a
 ·simp[e,a]
theorem NT{w:World}{r:Nat}{x:Obj}(a:w.heap[r]? =some x):r<w.heap.size:=by
 rcases FU r w.heap.size with h|h
 ·exact h
 ·rw[Array.getElem?_eq_none h]at a;cases a
section
variable {base:Nat}{w0:Start}{I:HY}{μ:Mu}{st:St}{w:World}
theorem CQ.yB(H:CQ base w0 I μ st w)(a:Nat):I.cell w.heap.size a=none:=by
 cases h:I.cell w.heap.size a with
 |none=>rfl
 |some v=>have:=Qa _ _ (H.PM _ _ _ h);simp at this
theorem CQ.iq(H:CQ base w0 I μ st w):I.map w.heap.size=none:=by
 cases h:I.map w.heap.size with
 |none=>rfl
 |some x=>have:=NT (H.Iy _ x h);omega
theorem CQ.ACG(H:CQ base w0 I μ st w){o:Nat}{ob:BJ}{f:Aa}(g:Qw st.h o ob=some f)(m:μ o=none)(n:o<st.c):CQ base w0 I μ { st with h:=f } w:=by
 have d:∀p y q,AA f p=some y->μ p=some q->AA st.h p=some y:=fun p y q h a=>by
  rw[LD g]at h;by_cases e:o=p
  ·subst e;rw[m]at a;cases a
  ·simpa [e]using h
 exact⟨H.below,H.lC,H.PM,H.Iy,H.jS,fun p y q h a=>H.obj p y q (d p y q h a) a,fun p y q h a=>H.lo p y q (d p y q h a) a,
  fun p r x y b j t s k l=>H.sep p r x y b j (d p x b t k) (d r y j s l) k l,fun p x b i h a=>H.TL p x b i (d p x b h a) a,fun p x b h a=>H.MX p x b (d p x b h a) a,fun p x h=>by
   rw[LD g]at h
   by_cases e:o=p
   ·subst e;exact n
   ·rw[AJ e]at h;exact H.Bi p x h,H.XP⟩
theorem CQ.yn(H:CQ base w0 I μ st w){o:Nat}{ob:BJ}{pl:Pl}{x:Obj}(t:AA st.h o=some ob)(U:o<st.c)(L:μ o=none)(f:pl.r=w.heap.size)(s:Qc I (Hm μ o pl) (w.alloc x) pl ob):CQ base w0 I (Hm μ o pl) st (w.alloc x):=by
 have k:∀r,r<w.heap.size->(w.alloc x).heap[r]? =w.heap[r]?:=fun r f=>Below.heap_alloc _ _ _ f;have g:∀p q,Hm μ o pl p=some q->(p=o/\q=pl)∨(p≠o/\μ p=some q):=fun p q h=>by
  unfold Hm at h;by_cases e:p=o
  ·simp[e]at h;exact .inl ⟨e,h.symm⟩
  ·simp[e]at h;exact .inr ⟨e,h⟩
 have j:∀p y q,AA st.h p=some y->μ p=some q->q.r<w.heap.size:=fun p y q d a=>(H.obj p y q d a).lt;refine⟨H.below.alloc H.lC x,by have:=H.lC;simp;omega,?_,?_,?_,?_,?_,?_,?_,?_,H.Bi,H.XP⟩
 ·intro r B v h;have a:=H.PM r B v h;rw[World.cell?_alloc_lt]
  ·exact a
  ·exact Qa _ _ a
 ·intro r P h;have a:=H.Iy r P h;rw[k r (NT a)];exact a
 ·intro p m;have A:p≠o:=by omega
  simp only[Hm,A,Dn];exact H.jS p m
 ·intro p y q h n;rcases g p q n with⟨rfl,rfl⟩|⟨b,n⟩
  ·rw[t]at h;cases h;exact s
  ·have a:=H.obj p y q h n;exact (a.mono (HY.le_refl I) (JF L)).world (k _ a.lt)
 ·intro p y q d a l;rcases g p q a with⟨rfl,rfl⟩|⟨b,a⟩
  ·rw[f];exact H.lC
  ·exact H.lo p y q d a l
 ·intro p q y z F D d a l u b;rcases g p F l with⟨R,O⟩|⟨N,K⟩<;>rcases g q D u with⟨S,T⟩|⟨Q,J⟩
  ·exact absurd (R.trans S.symm) b
  ·have:=j q z D a J;rw[O,f];omega
  ·have:=j p y F d K;rw[T,f];omega
  ·exact H.sep p q y z F D d a K J b
 ·intro p y q i d a l u;rcases g p q a with⟨rfl,rfl⟩|⟨b,a⟩
  ·rw[f];exact H.yB i
  ·exact H.TL p y q i d a l u
 ·intro p y q d a;rcases g p q a with⟨rfl,rfl⟩|⟨b,a⟩
  ·rw[f];exact H.iq
  ·exact H.MX p y q d a
structure ABX (w w':World)(pl:Pl):Prop where
 os:w'.os=w.os
 tape:w'.tape=w.tape
 output:w'.output=w.output
 size:w'.heap.size=w.heap.size
 other:∀k,k≠pl.r->w'.heap[k]? =w.heap[k]?
 own:(∃c c' ty fz,w.heap[pl.r]? =some (.cells c ty fz)/\w'.heap[pl.r]? =some (.cells c' ty fz)/\c'.size=c.size/\∀i,(i<pl.b∨pl.fin<=i)->c'[i]? =c[i]?) ∨
  ((∀c ty fz,w.heap[pl.r]?≠some (.cells c ty fz))/\(∀c ty fz,w'.heap[pl.r]?≠some (.cells c ty fz)))
theorem CQ.ACI(H:CQ base w0 I μ st w){o o' c':Nat}{x y:BJ}{h':Aa}{f pl':Pl}{O:World}{ν:Mu}(D:AA st.h o=some x)(a0:st.lo<=o)(a3:st.lo<=o')(j:μ o=some f)(B:ABX w O f)(R:ν=μ/\o'=o/\pl'=f∨ν=Hm μ o' pl'/\μ o'=none/\o'<c')(hc:st.c<=c')(A:pl'.r=f.r)(hb:f.b<=pl'.b)(a2:pl'.fin<=f.fin)(n:∀p z,AA h' p=some z->(p=o'/\z=y)∨(p≠o'/\p≠o/\AA st.h p=some z))(W:Qc I ν O pl' y):CQ base w0 I ν { st with h:=h',c:=c' } O:=by
 have a1:μ.le ν:=by
  rcases R with⟨h,_⟩|⟨h,d,_⟩
  ·subst h;exact fun _ _ h=>h
  ·subst h;exact JF d
 have u:ν o'=some pl':=by
  rcases R with⟨h,d,l⟩|⟨h,_⟩
  ·subst h;rw[d,l];exact j
  ·subst h;simp[Hm]
 have F:∀p q,p≠o'->ν p=some q->μ p=some q:=fun p q t h=>by
  rcases R with⟨a,_⟩|⟨a,_⟩
  ·subst a;exact h
  ·subst a;simpa [Hm,t]using h
 have K:base<=f.r:=H.lo o x f D j a0;have L:∀r g,(r≠f.r∨g<f.b∨f.fin<=g)->O.cell? ⟨r,g,none⟩=w.cell? ⟨r,g,none⟩:=by
  intro r g h;by_cases A:r=f.r
  ·subst A;have h:=h.resolve_left (by simp);rcases B.own with⟨c,c',ty,fz,a,d,_,m⟩|⟨a,d⟩
   ·simp[World.cell?,a,d,m g h]
   ·cases l:w.heap[f.r]? with
    |none=>cases m:O.heap[f.r]? with
     |none=>simp[World.cell?,l,m]
     |some z=>cases z<;>first|exact absurd m (d _ _ _)|simp[World.cell?,l,m]
    |some z=>cases z<;>first|exact absurd l (a _ _ _)|(cases m:O.heap[f.r]? with
     |none=>simp[World.cell?,l,m]
     |some z=>cases z<;>first|exact absurd m (d _ _ _)|simp[World.cell?,l,m])
  ·exact TC (w:=w) (B.other r A)
 refine⟨?_,by rw[B.size];exact H.lC,?_,?_,?_,?_,?_,?_,?_,?_,fun p z h=>?_,H.XP⟩
 ·exact H.below.trans ⟨B.os,B.tape,B.output,by rw[B.size];exact Ao _,fun k hk=>B.other k (by omega)⟩
 ·intro r g v h;rw[L r g]
  ·exact H.PM r g v h
  ·by_cases A:r=f.r
   ·subst A;refine .inr ?_;rcases FU g f.b with a|a
    ·exact .inl a
    rcases FU g f.fin with d|d
    ·rw[H.TL o x f g D j a d]at h;cases h
    ·exact .inr d
   ·exact .inl A
 ·intro r es h;have t:r≠f.r:=fun e=>by subst e;rw[H.MX o x f D j]at h;cases h
  rw[B.other r t];exact H.Iy r es h
 ·intro p hp;simp only at hp;rcases R with⟨a,_⟩|⟨a,_,l⟩
  ·subst a;exact H.jS p (by omega)
  ·subst a;have:p≠o':=by omega
   simp only[Hm,this,Dn];exact H.jS p (by omega)
 ·intro p z q h V;rcases n p z h with⟨rfl,rfl⟩|⟨J,Q,h⟩
  ·rw[u]at V;cases V;exact W
  ·have a:=F p q J V;have d:=H.obj p z q h a;have Y:=d.mono (HY.le_refl I) a1;exact Y.world (B.other _ (H.sep p o z x q f h D a j Q))
 ·intro p z q a d l;rcases n p z a with⟨rfl,rfl⟩|⟨J,Q,a⟩
  ·rw[u]at d;cases d;rw[A];exact K
  ·exact H.lo p z q a (F p q J d) l
 ·intro p q U y2 T S a d l m t;rcases n p U a with⟨rfl,rfl⟩|⟨s,N,a⟩<;>rcases n q y2 d with⟨rfl,rfl⟩|⟨P,Z,d⟩
  ·exact absurd rfl t
  ·rw[u]at l;cases l;rw[A];exact H.sep o q x y2 f S D d j (F q S P m) (Aj Z)
  ·rw[u]at m;cases m;rw[A];exact H.sep p o U x T f a D (F p T s l) j N
  ·exact H.sep p q U y2 T S a d (F p T s l) (F q S P m) t
 ·intro p z q i a d l m;rcases n p z a with⟨rfl,rfl⟩|⟨s,N,a⟩
  ·rw[u]at d;cases d;rw[A];exact H.TL o x f i D j (by omega) (by omega)
  ·exact H.TL p z q i a (F p q s d) l m
 ·intro p z q a d;rcases n p z a with⟨rfl,rfl⟩|⟨s,N,a⟩
  ·rw[u]at d;cases d;rw[A];exact H.MX o x f D j
  ·exact H.MX p z q a (F p q s d)
 ·rcases n p z h with⟨rfl,rfl⟩|⟨_,_,h⟩
  ·rcases R with⟨_,d,_⟩|⟨_,_,l⟩
   ·rw[d];exact Bt (H.Bi o x D) hc
   ·exact l
  ·exact Bt (H.Bi p z h) hc
theorem CQ.ABu(H:CQ base w0 I μ st w){h':Aa}(b:∀o x,AA h' o=some x->AA st.h o=some x):CQ base w0 I μ { st with h:=h' } w:=
 ⟨H.below,H.lC,H.PM,H.Iy,H.jS,fun o x a h=>H.obj o x a (b o x h),fun o x a h=>H.lo o x a (b o x h),fun o p x y a c e d=>H.sep o p x y a c (b o x e) (b p y d),
  fun o x a i h=>H.TL o x a i (b o x h),fun o x a h=>H.MX o x a (b o x h),fun o x h=>H.Bi o x (b o x h),H.XP⟩
theorem CQ.more(H:CQ base w0 I μ st w){c':Nat}(a:st.c<=c'):CQ base w0 I μ { st with c:=c' } w:=
 ⟨H.below,H.lC,H.PM,H.Iy,fun o h=>H.jS o (by simp only at h;omega),H.obj,H.lo,H.sep,H.TL,H.MX,fun o x h=>Bt (H.Bi o x h) a,H.XP⟩
theorem CQ.drew(H:CQ base w0 I μ st w):CQ base w0 I μ st w.drew:=
 ⟨H.below.drew,H.lC,H.PM,H.Iy,H.jS,fun o x b h a=>Qc.world (w:=w) (w':=w.drew) rfl (H.obj o x b h a),H.lo,H.sep,H.TL,H.MX,H.Bi,H.XP⟩
end
end Go.Am
namespace Go.Am
open Go Go.RowKit
variable {P:Program}
theorem Zi{w:World}{b:Nat}{c:Array Value}{d:TypeId}{a:Nat×Nat}(h:w.heap[b]? =some (.cells c d a))(o:Nat)(v:Value) :
 (w.setCell ⟨b,o,none⟩ v).heap[b]? =some (.cells (c.setIfInBounds o v) d a):=by
 simp[World.setCell,OO,h]
theorem Oc(b:Nat){k:TypeId}{m:Nat×Nat}:∀(d:List Value) (o:Nat) (w:World) (c:Array Value),w.heap[b]? =some (.cells c k m) ->
 ∃a,(w.setCells b o d).heap[b]? =some (.cells a k m)/\a.size=c.size/\(∀i,(i<o∨o+d.length<=i)->a[i]? =c[i]?) /\
  (o+d.length<=c.size->∀(j:Nat) (h:j<d.length),a[o+j]? =some d[j])
 |[],o,w,c,h=>⟨c,h,rfl,fun _ _=>rfl,fun _ j f=>by simp at f⟩
 |v::r,o,w,c,h=>by
  obtain⟨a,q,n,g,p⟩:=Oc b r (o+1) (w.setCell ⟨b,o,none⟩ v) _ (Zi h o v);refine⟨a,q,by simpa using n,?_,?_⟩
  ·intro i l;rw[g i (by simp at l;omega),TH (by simp at l;omega)]
  ·intro e j f;cases j with
   |zero=>simp at e;rw[g _ (by omega)];simp[Array.getElem?_setIfInBounds];omega
   |succ j=>simp at e;have:=p (by simp;omega) j (by simpa using f);rw[show o+(j+1)=o+1+j by omega];simpa using this
theorem Ob(b:Nat):∀(a:List Value) (o:Nat) (w:World) (k:Nat),k≠b->(w.setCells b o a).heap[k]? =w.heap[k]?
 |[],_,_,_,_=>rfl
 |v::r,o,w,k,h=>by rw[World.setCells,Ob b r _ _ k h,Below.heap_setCell _ _ _ _ h]
theorem PV(b:Nat):∀(a:List Value) (o:Nat) (w:World),(w.setCells b o a).heap.size=w.heap.size
 |[],_,_=>rfl
 |v::r,o,w=>by rw[World.setCells,PV b r];simp
theorem PW(b:Nat):∀(a:List Value) (o:Nat) (w:World),(w.setCells b o a).os=w.os/\(w.setCells b o a).tape=w.tape/\(w.setCells b o a).output=w.output
 |[],_,_=>⟨rfl,rfl,rfl⟩
 |v::r,o,w=>by rw[World.setCells];exact PW b r _ (w.setCell ⟨b,o,none⟩ v)
theorem GZ(b o i:Nat):(⟨b,o,none⟩:Addr).add i=⟨b,o+i,none⟩:=by unfold Addr.add;split<;>simp_all
section
variable {base:Nat}{w0:Start}{I:HY}{μ:Mu}{st:St}{w:World}
theorem GV{c:Array Value}{b:TypeId}{a:Nat×Nat}{r:Nat}(h:w.heap[r]? =some (.cells c b a))(i:Nat):w.cell? ⟨r,i,none⟩=c[i]?:=by simp[World.cell?,h]
theorem Nb{c:Array Value}{b:TypeId}{a:Nat×Nat}{r:Nat}(h:w.heap[r]? =some (.cells c b a))(i:Nat):w.frozen? ⟨r,i,none⟩=decide (a.1<=i/\i<a.2):=by simp[World.frozen?,h,Bool.decide_and]
theorem CQ.cells(H:CQ base w0 I μ st w){o ty sz:Nat}{cs:List AV}{ext:Bool}(h:AA st.h o=some (.cells ty sz cs ext)){pl:Pl}(g:μ o=some pl) :
 ∃pl c a rvs,μ o=some pl/\pl.sz=sz/\pl.n=cs.length/\(ext=false->pl.e=0/\pl.b=0)/\w.heap[pl.r]? =some (.cells c ty a)/\pl.fin<=c.size /\
  (∀i,pl.b<=i->i<pl.fin->¬(a.1<=i/\i<a.2))/\BR I μ cs rvs/\One rvs/\∀(i:Nat) (h:i<rvs.length),c[pl.b+i]? =some rvs[i]:=by
 have l:=H.obj o _ pl h g;cases l with
 |cells _ _ _ _ c a rvs f p q j m k h d s=>exact⟨pl,c,a,rvs,g,f,p,q,j,m,k,h,d,s⟩
theorem One.drop{l:List Value}(h:One l)(n:Nat):One (l.drop n):=fun v a=>h v (NC a)
theorem One.take{l:List Value}(h:One l)(n:Nat):One (l.take n):=fun v a=>h v (TA a)
theorem One.append{a b:List Value}(e:One a)(c:One b):One (a++b):=fun v d=>(Ca.1 d).elim (e v) (c v)
theorem AAG(H:CQ base w0 I μ st w){p:AV}{q:Value}{n:Nat}{s:List AV}(v:BO I μ p q)(d:Ak st.h p n=some s) :
 ∃a b,q=.pointer (some a)/\a.spot=none/\BR I μ s b/\One b/\b.length=n/\∀(i:Nat) (h:i<b.length),w.cell? (a.add i)=some b[i]:=by
 cases v with
 |AL o e N m=>
  simp only[Ak]at d;split at d
  ·rename_i O L k ext y;rw[ble_eq,Ad]at d;split at d
   ·rename_i f;simp only[Aw]at f;cases d;obtain⟨B,c,K,b,j,u,P,Q,x,J,D,t,g,F⟩:=H.cells y m;rw[m]at j;cases j;have A:=t.length;refine⟨_,(b.drop e).take n,rfl,rfl,(t.drop e).take n,(g.drop e).take n,by simp;omega,fun i l=>?_⟩;simp at l;rw[GZ,GV x,Fg,F (e+i) (by omega)];simp
   ·cases d
  ·cases d
 |CB k r e b z j h=>
  simp only[Ak]at d;rw[ble_eq,Ad]at d;split at d
  ·rename_i f;simp only[Aw]at f;cases d;have A:=h.length;refine⟨_,b.take n,rfl,rfl,h.take n,j.take n,by simp;omega,fun i l=>?_⟩;simp at l;rw[GZ];simpa using H.PM _ _ _ (z i (by omega))
  ·cases d
 |_=>simp[Ak]at d
theorem gB(H:CQ base w0 I μ st w){p v:AV}{n:Value}(u:BO I μ p n)(d:AQ st.h p=some v) :
 ∃a g,n=.pointer (some a)/\BO I μ v g/\w.cell? a=some g:=by
 cases u with
 |AL o b Q m=>
  simp only[AQ]at d;split at d
  ·rename_i R P k ext z;obtain⟨F,c,O,f,j,s,S,T,y,N,K,J,q,L⟩:=H.cells z m;rw[m]at j;cases j;obtain⟨g,i,B⟩:=J.get b v d;refine⟨_,g,rfl,B,?_⟩;have e:b<f.length:=(GJ.1 i).1;rw[GV y,L b e];rw[Bu e]at i;exact i
  ·cases d
 |CB k r b f A j h=>
  cases h with
  |nil=>simp[AQ]at d
  |cons x D l U h t=>simp[AQ]at d;subst d;refine⟨_,D,rfl,h,?_⟩;have:=H.PM _ _ _ (A 0 (by simp));exact this
 |_=>simp[AQ]at d
def Vz:TypeDesc->Bool
 |.struct _|.array ..=>true
 |_=>false
def aC(P:Program)(t:TypeId)(agg:Option Nat):Bool:=
 match P.underlying t,P.info? t,agg with
 |some d,some i,some n=>Vz d&&Nat.beq i.size n
 |some d,some i,none=>!Vz d&&Nat.beq i.size 1
 |_,_,_=>false
theorem bG{t:TypeId}{n:Nat}(h:aC P t (some n)=true):∃d i,P.underlying t=some d/\P.info? t=some i/\Vz d=true/\i.size=n:=by
 unfold aC at h;split at h
 ·rename_i d i e b c a;cases a;simp at h;exact⟨d,i,b,c,h.1,h.2⟩
 ·rename_i a;cases a
 ·cases h
theorem bH{t:TypeId}(h:aC P t none=true):∃d i,P.underlying t=some d/\P.info? t=some i/\Vz d=false/\i.size=1:=by
 unfold aC at h;split at h
 ·rename_i a;cases a
 ·rename_i d i b c _;simp at h;exact⟨d,i,b,c,h.1,h.2⟩
 ·cases h
theorem Ps{t:TypeId}{d:TypeDesc}(a:P.underlying t=some d)(w:World):(isAgg t).run P w=.ok (Vz d) w:=by unfold isAgg;rw[CJ,BQ a];cases d<;>rfl
theorem FY{t:TypeId}{i:TypeInfo}(h:P.info? t=some i)(w:World):(sizeOf t).run P w=.ok i.size w:=by simp[sizeOf,typeInfo,h]
theorem iD{t:TypeId}{n:Nat}(h:aC P t (some n)=true){a:Addr}{b:List Value}(e:b.length=n)(l:∀(i:Nat) (h:i<b.length),w.cell? (a.add i)=some b[i]):(loadVar t a).run P w=.ok (.agg b.toArray) w:=by
 obtain⟨d,i,c,m,k,o⟩:=bG h;have g:=ME (P:=P) w a b fun j v f=>by have:=GJ.1 f;rw[l j this.1,this.2]
 simp only[loadVar,CJ,Ps c,k,Result.andThen,FC,FY m,o,←e,g,Cs]
theorem iC{t:TypeId}(h:aC P t none=true){a:Addr}{b:Value}(f:w.cell? a=some b):(loadVar t a).run P w=.ok b w:=by obtain⟨d,i,c,g,e,j⟩:=bH h;simp[loadVar,CJ,Ps c,e,Result.andThen,f]
theorem qD(H:CQ base w0 I μ st w){t:TypeId}{agg:Option Nat}(k:aC P t agg=true){p v:AV}{j:Value}(i:BO I μ p j)(c:LB st.h agg p=some v) :
 ∃e,(Instr.loadAt t j).run P w=.ok e w/\BO I μ v e:=by
 cases agg with
 |some n=>
  simp only[LB]at c;cases d:Ak st.h p n with
  |none=>simp[d]at c
  |some m=>simp[d]at c;subst c;obtain⟨a,f,rfl,q,g,o,l,b⟩:=AAG H i d;exact⟨_,by simp only[Instr.loadAt,Instr.sureAddr,CJ,Cs,Result.andThen,iD k l b],.agg m f g o⟩
 |none=>obtain⟨a,e,rfl,g,d⟩:=gB H i c;exact⟨e,by simp only[Instr.loadAt,Instr.sureAddr,CJ,Cs,Result.andThen,iC k d],g⟩
theorem Zg(b:List AV)(a:Nat)(c:List AV)(h:a+c.length<=b.length):(Bl b a c).length=b.length:=by simp[Bl];omega
theorem YD{g d:List AV}{c b:List Value}{a:Nat}(e:BR I μ g c)(f:BR I μ d b):BR I μ (Bl g a d) (c.take a++(b++c.drop (a+b.length))):=by unfold Bl;rw[f.length];exact (e.take a).append (f.append (e.drop _))
theorem Rj(H:CQ base w0 I μ st w){o a:Nat}{D:List AV}{rvs:List Value}{u:St}{d:Pl}(q:μ o=some d)(hv:BR I μ D rvs)(T:One rvs)(f:CO st o a D=some u) :
 ∃R,(storeCells ⟨d.r,d.b+a,none⟩ rvs).run P w=.ok () R/\CQ base w0 I μ u R:=by
 unfold CO at f;rw[blt_eq,Ad]at f;split at f
 ·cases f
 rename_i O;simp only[Aw]at O;split at f
 ·rename_i v F J ext L;rw[ble_eq,Ad]at f;split at f
  ·rename_i A;simp only[Aw]at A;cases f;obtain⟨pl',c,S,l,V,K,hn,he,g,hb,B,s,m,Q⟩:=H.cells L q;rw[q]at V;cases V;have hl:=hv.length;have a0:=s.length;have W:d.fin=d.b+d.n+d.e:=rfl;obtain⟨c',Z,U,N,e4⟩:=Oc d.r rvs (d.b+a) w c g;refine⟨w.setCells d.r (d.b+a) rvs,?_,?_⟩
   ·refine run_storeCells_cells d.r (d.b+a) rvs 0 w (fun j hj=>?_) (fun j hj=>?_) T
    ·rw[GV g,show d.b+a+0+j=d.b+(a+j) by omega,Q (a+j) (by omega)];rfl
    ·rw[Nb g,show d.b+a+0+j=d.b+(a+j) by omega];simp only[Ji];exact B _ (by omega) (by omega)
   ·have hT:ABX w (w.setCells d.r (d.b+a) rvs) d:=by obtain⟨r1,r2,r3⟩:=PW d.r rvs (d.b+a) w;refine⟨r1,r2,r3,PV _ _ _ _,fun k hk=>Ob _ _ _ _ k hk,.inl ⟨c,c',v,S,g,Z,U,fun i Y=>N i ?_⟩⟩;omega
    have:=H.ACI (o':=o) (x:=.cells v F J ext) (y:=.cells v F (Bl J a D) ext) (h':=Ah st.h o (.cells v F (Bl J a D) ext)) (c':=st.c) (pl':=d) (ν:=μ)
     L (by omega) (by omega) q hT (.inl ⟨rfl,rfl,rfl⟩) (Ao _) rfl (Ao _) (Ao _)
     (fun p z t=>by
      rw[JU _ _ _ (by rw[L];rfl)]at t
      by_cases e:o=p
      ·simp[e]at t;exact .inl ⟨e.symm,t.symm⟩
      ·simp[e]at t;exact .inr ⟨Aj e,Aj e,t⟩)
     (.cells v F _ ext c' S (l.take a++(rvs++l.drop (a+rvs.length))) K (by rw[Zg _ _ _ A];exact hn) he Z (by rw[U];exact hb) B
      (YD s hv) ((m.take _).append (T.append (m.drop _))) fun i Y=>by
       simp at Y
       by_cases hi1:i<a
       ·rw[N _ (by omega),IX (by simp;omega),List.getElem_take]
        exact Q i (by omega)
       ·by_cases hi2:i<a+rvs.length
        ·have:=e4 (by omega) (i-a) (by omega)
         rw[show d.b+i=d.b+a+(i-a) by omega,this]
         rw[Oq (by simp;omega)]
         rw[IX (by simp;omega)]
         simp[Li (show a<=l.length by omega)]
        ·rw[N _ (by omega),Oq (by simp;omega),Oq (by simp;omega)]
         rw[Q i (by omega)]
         congr 1
         simp[Li (show a<=l.length by omega)]
         congr 1
         omega)
    exact this
  ·cases f
 ·cases f
theorem World.Jb(w:World)(x:Obj):(w.alloc x).heap[w.heap.size]? =some x:=by show (w.heap.push x)[w.heap.size]? =_;simp
theorem YN(H:CQ base w0 I μ st w){o a d:Nat}{b:List AV}{ext:Bool}{rvs rest:List Value}(j:AA st.h o=some (.cells a d b ext))(g:BR I μ b rvs)(m:One rvs)(l:ext=false->rest=[])(e:μ o=none)(k:o<st.c) :
 (newRow a (rvs++rest).toArray).run P w=.ok ⟨w.heap.size,0,none⟩ (w.alloc (.cells (rvs++rest).toArray a)) /\
  CQ base w0 I (Hm μ o ⟨w.heap.size,0,b.length,rest.length,d⟩) st (w.alloc (.cells (rvs++rest).toArray a)):=by
 refine⟨by simp[newRow],?_⟩;have n:=g.length;refine H.yn j k e rfl ?_;refine .cells a d b ext (rvs++rest).toArray (0,0) rvs rfl rfl (fun h=>by simp[l h]) (World.Jb w _) (by simp[Pl.fin];omega) (fun i _ _ h=>by simp at h)
  (g.mono (HY.le_refl I) (JF e)) m fun i f=>?_
 simp[Oo f,f]
theorem Vo(H:CQ base w0 I μ st w){o:Nat}{ob:BJ}{a:St}(b:BA o ob st=some a)(f:μ o=none)(g:o<st.c) :
 CQ base w0 I μ a w/\AA a.h o=some ob/\a.c=st.c/\a.lo=st.lo/\∀p,p≠o->AA a.h p=AA st.h p:=by
 unfold BA at b;split at b
 ·rename_i i d;cases b;exact⟨H.ACG d f g,by simp[LD d],rfl,rfl,fun p e=>by simp[LD d,Aj e]⟩
 ·cases b
theorem sj(H:CQ base w0 I μ st w){o d f:Nat}{e:List AV}{ext:Bool}{b:St}{a rest:List Value}(j:BA o (.cells d f e ext) st=some b)(k:BR I μ e a)(m:One a)(l:ext=false->rest=[])(g:μ o=none)(h:o<st.c) :
 (newRow d (a++rest).toArray).run P w=.ok ⟨w.heap.size,0,none⟩ (w.alloc (.cells (a++rest).toArray d)) /\
  CQ base w0 I (Hm μ o ⟨w.heap.size,0,e.length,rest.length,f⟩) b (w.alloc (.cells (a++rest).toArray d)):=by
 obtain⟨n,i,p,_,_⟩:=Vo H j g h;exact YN n i k m l g (by rw[p];exact h)
end
end Go.Am
namespace Go.Am
open Go Go.RowKit
variable {P:Program}
structure ed (base:Nat)(w0:Start)(I:HY)(μ:Mu)(st:St)(o:Option Nat)(ν:Mu)(st':St)(w':World)(v:AV)(rv:Value):Prop where
 rel:CQ base w0 I ν st' w'
 val:BO I ν v rv
 le:μ.le ν
 same:∀p,some p≠o->ν p=μ p
 c:st'.c=st.c
 lo:st'.lo=st.lo
def UI(P:Program)(base:Nat)(w0:Start)(I:HY)(μ:Mu)(st:St)(w:World)(o:Option Nat)(e:Sem Value)(v:AV)(st':St):Prop:=
 ∃rv w' ν,e.run P w=.ok rv w'/\ed base w0 I μ st o ν st' w' v rv
def ABY(P:Program)(base:Nat)(w0:Start)(I:HY)(μ:Mu)(st:St)(w:World)(e:Sem Unit)(st':St):Prop:=
 ∃w',e.run P w=.ok () w'/\CQ base w0 I μ st' w'/\st'.c=st.c/\st'.lo=st.lo
section
variable {base:Nat}{w0:Start}{I:HY}{μ:Mu}{st:St}{w:World}
theorem UI.stay(H:CQ base w0 I μ st w){e:Sem Value}{v:AV}{rv:Value}{o:Option Nat}(b:e.run P w=.ok rv w)(a:BO I μ v rv):UI P base w0 I μ st w o e v st:=
 ⟨rv,w,μ,b,H,a,fun _ _ h=>h,fun _ _=>rfl,rfl,rfl⟩
theorem Gs{o b:Nat}{d:List AV}{st a:St}(h:CO st o b d=some a):a.c=st.c/\a.lo=st.lo:=by
 unfold CO at h;rw[Ad]at h;split at h
 ·cases h
 split at h
 ·rw[Ad]at h;split at h
  ·cases h;exact⟨rfl,rfl⟩
  ·cases h
 ·cases h
theorem Wu{o:Nat}{ob:BJ}{st a:St}(h:BA o ob st=some a):a.c=st.c/\a.lo=st.lo:=by
 unfold BA at h;split at h
 ·cases h;exact⟨rfl,rfl⟩
 ·cases h
 mutual
def dm:AV->Value->Bool
 |.bool a,.bool b=>a==b
 |.int k a,.int j b=>VK k j&&a==b
 |.str l,.string s=>l==s.data.toList
 |.DY,.pointer none=>true
 |.AO,.slice none 0 0=>true
 |.IZ,.map none=>true
 |.Nc,.nilFunc=>true
 |.Ij,.nilIface=>true
 |.agg cs,.agg vs=>ZO cs vs.toList&&vs.toList.all (·.oneCell')
 |.tuple cs,.tuple vs=>ZO cs vs.toList
 |_,_=>false
def ZO:List AV->List Value->Bool
 |[],[]=>true
 |a::l,b::r=>dm a b&&ZO l r
 |_,_=>false
end
theorem LG{a b:IntKind}(h:VK a b=true):a=b:=by cases a<;>cases b<;>first|rfl|cases h
 mutual
theorem Xi:∀{v:AV} {rv:Value},dm v rv=true->BO I μ v rv
 |.bool a,.bool b,h=>by simp[dm]at h;subst h;exact .bool a
 |.int k a,.int j b,h=>by simp[dm]at h;obtain⟨h1,h2⟩:=h;cases LG h1;subst h2;exact .int k a
 |.str l,.string s,h=>by
  simp[dm]at h;have:s=⟨⟨l⟩⟩:=by cases s with|mk d=>cases d with|mk l'=>simp at h;rw[h]
  rw[this];exact .str l
 |.DY,.pointer none,_=>.DY
 |.AO,.slice none 0 0,_=>.AO
 |.IZ,.map none,_=>.IZ
 |.Nc,.nilFunc,_=>.Nc
 |.Ij,.nilIface,_=>.Ij
 |.agg cs,.agg vs,h=>by simp only[dm,Aq,Fj]at h;have:=BO.agg (I:=I) (μ:=μ) cs vs.toList (SI h.1) h.2;simpa using this
 |.tuple cs,.tuple vs,h=>by simp only[dm]at h;have:=BO.tuple (I:=I) (μ:=μ) cs vs.toList (SI h);simpa using this
theorem SI:∀{l:List AV} {r:List Value},ZO l r=true->BR I μ l r
 |[],[],_=>.nil
 |a::l,b::r,h=>by simp only[ZO,Aq]at h;exact .cons a b l r (Xi h.1) (SI h.2)
end
def wZ(l:List Value):Bool:=l.all (·.oneCell')
theorem bY{l:List Value}(h:wZ l=true):One l:=fun v a=>by simp only[wZ,Fj]at h;exact h v a
def aD(P:Program)(t:TypeId)(zero:List AV):Bool:=
 match P.info? t with
 |some i=>(match i.zero with|some z=>ZO zero z.cells.toList&&wZ z.cells.toList|none=>false)
 |none=>false
theorem UN{t:TypeId}{zero:List AV}(h:aD P t zero=true):∃z,(∀w,(zeroValue t).run P w=.ok z w)/\(∀{I:HY} {μ:Mu},BR I μ zero z.cells.toList)/\One z.cells.toList:=by
 unfold aD at h;split at h
 ·rename_i i a;split at h
  ·rename_i z b;simp only[Aq]at h;exact⟨z,fun w=>by simp[zeroValue,typeInfo,a,b],SI h.1,bY h.2⟩
  ·cases h
 ·cases h
theorem aM(H:CQ base w0 I μ st w){o f b:Nat}{a:List AV}{z:Value}(i:AA st.h o=some (.cells f b a false))(k:BR I μ a z.cells.toList)(m:One z.cells.toList)(d:μ o=none)(j:o<st.c):∃w' ν,(newVar f z).run P w=.ok ⟨w.heap.size,0,none⟩ w'/\ed base w0 I μ st (some o) ν st w' (.AL o 0) (.pointer (some ⟨w.heap.size,0,none⟩)):=by
 obtain⟨l,n⟩:=YN (P:=P) H i k m (rest:=[]) (fun _=>rfl) d j;refine⟨_,_,by simpa [newVar]using l,n,?_,JF d,fun p g=>?_,rfl,rfl⟩
 ·have:=BO.AL (I:=I) (μ:=Hm μ o ⟨w.heap.size,0,a.length,0,b⟩) o 0 ⟨w.heap.size,0,a.length,0,b⟩ (by simp[Hm]);simpa using this
 ·have:p≠o:=fun e=>g (by rw[e]);simp[Hm,this]
theorem yx(H:CQ base w0 I μ st w){o a d:Nat}{zero:List AV}(n:aD P a zero=true)(b:AA st.h o=some (.cells a d zero false))(e:μ o=none)(f:o<st.c) :
 UI P base w0 I μ st w (some o) (Instr.alloc a true (.tuple #[])) (.AL o 0) st:=by
 obtain⟨z,k,i,m⟩:=UN n;obtain⟨g,ν,j,l⟩:=aM (P:=P) H b i m e f;refine⟨_,g,ν,?_,l⟩;simp[Instr.alloc,k,j,Result.andThen]
theorem ADM(H:CQ base w0 I μ st w){o d g:Nat}{x v:AV}{b:Value}{ob:BJ}(p:BO I μ x b)(a:Ls o d g x=some (v,ob))(f:AA st.h o=some ob)(i:μ o=none)(j:o<st.c) :
 UI P base w0 I μ st w (some o) (Instr.box d b) v st:=by
 unfold Ls at a;rw[Ad]at a;split at a
 ·cases a
 rename_i m;cases a;obtain⟨q,e,l,n⟩:=p.cells (by simpa using m);obtain⟨k,ν,r,s⟩:=aM (P:=P) (z:=b) H f (by rw[e];exact l) (by rw[e];exact n) i j;refine⟨_,k,ν,?_,s⟩;simp[Instr.box,r,Result.andThen]
theorem wB(H:CQ base w0 I μ st w){t:TypeId}{n:Nat}(s:(P.info? t).map (·.size)=some n){p x v:AV}{h e:Value}{b:St}(l:BO I μ p h)(A:BO I μ x e)(a:BM n p x st=some (v,b)):v=.undef/\ABY P base w0 I μ st w (Instr.storeAt t h e) b:=by
 unfold BM at a;split at a
 ·rename_i o q;rw[Ad]at a;split at a
  ·cases a
  rename_i f;simp only[FO,Fp,not_or,Bool.not_eq_true,Bool.not_eq_false]at f;have B:x.cells.length=n:=Cb f.2;unfold Fs at a;split at a
  ·rename_i u d;cases a;refine⟨rfl,?_⟩;obtain⟨D,k,j,y⟩:=A.cells f.1;cases l with
   |AL _ _ K m=>
    obtain⟨r,F,J⟩:=Rj (P:=P) H m j y d;obtain⟨i,z,g⟩:=Gf.1 s;refine⟨r,?_,J,(Gs d).1,(Gs d).2⟩;have c:e.cells.size=i.size:=by rw[g,←B,j.length,←k,Array.length_toList]
    simp[Instr.storeAt,Instr.sureAddr,storeVar,FY z,c,k,F,Result.andThen]
  ·cases a
 ·cases a
end
end Go.Am
namespace Go.Am
open Go Go.RowKit
variable {P:Program}
section
variable {base:Nat}{w0:Start}{I:HY}{μ:Mu}{st:St}{w:World}
theorem Ol{x:AV}{a:Value}{n:Nat}(b:BO I μ x a)(h:asNat x=some n):∃k,a=.int k n:=by
 cases b with
 |int k m=>
  cases m with
  |ofNat m=>simp[asNat]at h;subst h;exact⟨k,rfl⟩
  |negSucc m=>simp[asNat]at h
 |_=>simp[asNat]at h
theorem AAJ{c a b v:AV}{h g f:Value}{d:St}(m:BO I μ c h)(i:BO I μ a g)(l:BO I μ b f)(e:Rq c a b st=some (v,d)) :
 d=st/\∃t,h=.bool t/\BO I μ v (if t then g else f):=by
 cases m with
 |bool t=>
  simp[Rq]at e;obtain⟨k,j⟩:=e;refine⟨j.symm,t,rfl,?_⟩;rw[←k];cases t
  ·exact l
  ·exact i
 |_=>simp[Rq]at e
theorem iW{a:BinOp}:Uq a=true↔a=.shl∨a=.shr:=by cases a<;>simp[Uq]
theorem uw{d:BinOp}(e:Uq d=false){k:IntKind}{a b:Int}{v:AV}{t:TypeId}(c:oq d k a b=some v) :
 ∃g,(Go.binOp d t (.int k a) (.int k b)).run P w=.ok g w/\BO I μ v g:=by
 cases d<;>simp[Uq]at e<;>simp only[oq]at c;case add=>cases c;exact⟨_,by simp[Go.binOp,Op.intArith],.int _ _⟩
 case sub=>cases c;exact⟨_,by simp[Go.binOp,Op.intArith],.int _ _⟩
 case mul=>cases c;exact⟨_,by simp[Go.binOp,Op.intArith],.int _ _⟩
 case quo=>
  split at c;· cases c
  rename_i f;cases c;exact⟨_,by simp[Go.binOp,Op.intDiv,f],.int _ _⟩
 case rem=>
  split at c;· cases c
  rename_i f;cases c;exact⟨_,by simp[Go.binOp,Op.intDiv,f],.int _ _⟩
 case and=>simp[intBits]at c;subst c;exact⟨_,by simp[Go.binOp,Op.intBits],.int _ _⟩
 case or=>simp[intBits]at c;subst c;exact⟨_,by simp[Go.binOp,Op.intBits],.int _ _⟩
 case xor=>simp[intBits]at c;subst c;exact⟨_,by simp[Go.binOp,Op.intBits],.int _ _⟩
 case andNot=>simp[intBits]at c;subst c;exact⟨_,by simp[Go.binOp,Op.intBits],.int _ _⟩
 case eql=>cases c;exact⟨_,by simp[Go.binOp,Op.intCmp],.bool _⟩
 case neq=>cases c;exact⟨_,by simp[Go.binOp,Op.intCmp],.bool _⟩
 case lss=>cases c;exact⟨_,by simp[Go.binOp,Op.intCmp],.bool _⟩
 case leq=>cases c;exact⟨_,by simp[Go.binOp,Op.intCmp],.bool _⟩
 case gtr=>cases c;exact⟨_,by simp[Go.binOp,Op.intCmp],.bool _⟩
 case geq=>cases c;exact⟨_,by simp[Go.binOp,Op.intCmp],.bool _⟩
theorem toList_mk(l:List UInt8):(⟨⟨l⟩⟩:ByteArray).toList=l:=by rw[ByteArray.toList_eq]
theorem size_mk(l:List UInt8):(⟨⟨l⟩⟩:ByteArray).size=l.length:=rfl
theorem vD(a b:List UInt8):(⟨⟨a⟩⟩++⟨⟨b⟩⟩:ByteArray)=⟨⟨a++b⟩⟩:=by apply ByteArray.ext;simp
theorem uu{d:BinOp}{a b:List UInt8}{v:AV}{t:TypeId}(c:oh d a b=some v) :
 ∃e,(Go.binOp d t (.string ⟨⟨a⟩⟩) (.string ⟨⟨b⟩⟩)).run P w=.ok e w/\BO I μ v e:=by
 cases d<;>simp only[oh]at c<;>first
  |(cases c;done)
  |(cases c;exact⟨_,by simp only[Go.binOp,Op.stringOp,toList_mk,Cs],.bool _⟩)
  |skip
 split at c
 ·rename_i h;cases c;refine⟨.string ⟨⟨a++b⟩⟩,?_,.str _⟩;have:¬(((a.length+b.length:Nat):Int)>IntKind.i64.max):=by
   have:IntKind.i64.max=9223372036854775807:=by decide
   omega
  simp only[Go.binOp,Op.stringOp,size_mk,this,Dn,vD,Cs]
 ·cases c
theorem ADO{d:BinOp}{t:TypeId}{x y v:AV}{i l:Value}(p:BO I μ x i)(n:BO I μ y l)(c:bin d x y=some v)(X Y:Operand) :
 ∃f,(do eqGuard d t X Y i l;Go.binOp d t i l:Sem Value).run P w=.ok f w/\BO I μ v f:=by
 cases p with
 |int k a=>
  simp only[bin]at c;cases n with
  |int j b=>
   simp only[Ad]at c;have g:(eqGuard d t X Y (.int k a) (.int j b)).run P w=.ok () w:=by cases d<;>simp[eqGuard]
   split at c
   ·rename_i e;unfold jv at c;split at c
    ·cases c
    rename_i o;rcases iW.1 e with rfl|rfl
    ·simp at c;subst c;exact⟨_,by simp[g,Go.binOp,Op.shift,o,Result.andThen],.int _ _⟩
    ·simp at c;subst c;exact⟨_,by simp[g,Go.binOp,Op.shift,o,Result.andThen],.int _ _⟩
   ·rename_i e;split at c
    ·rename_i q;cases LG q;obtain⟨f,m,h⟩:=uw (P:=P) (w:=w) (I:=I) (μ:=μ) (t:=t) (by simpa using e) c;exact⟨f,by simp[g,m,Result.andThen],h⟩
    ·cases c
  |_=>cases c
 |str a=>
  simp only[bin]at c;cases n with
  |str b=>
   have g:(eqGuard d t X Y (.string ⟨⟨a⟩⟩) (.string ⟨⟨b⟩⟩)).run P w=.ok () w:=by cases d<;>simp[eqGuard]
   obtain⟨f,m,h⟩:=uu (P:=P) (w:=w) (I:=I) (μ:=μ) (t:=t) c;exact⟨f,by simp[g,m,Result.andThen],h⟩
  |_=>cases c
 |_=>simp[bin]at c
def vV(d:TypeDesc)(c:CK):Bool:=
 match d,c with
 |.bool,.bool|.int _,.int|.string,.str=>true
 |_,_=>false
def zh(P:Program)(t:TypeId)(c:CK):Bool:=match P.underlying t with
 |some d=>vV d c
 |none=>false
def NI(P:Program):Nat->List Field->List CK->Bool
 |_,[],[]=>true
 |i,f::fs,c::cs=>Nat.beq f.offset i&&f.name != "_"&&zh P f.type c&&NI P (i+1) fs cs
 |_,_,_=>false
def xu(P:Program)(t:TypeId)(k:KK):Bool:=
 match k with
 |.one c=>zh P t c
 |.many cs=>match P.underlying t with
  |some (.struct fs)=>!P.stoodInHeld t&&NI P 0 fs.toList cs
  |_=>false
def isConst:Operand->Bool
 |.const _=>true
 |_=>false
def eqB(P:Program)(t:TypeId)(X Y:Operand)(k:EK):Bool:=
 match k with
 |.key k=>xu P t k&&!P.eqGuardType P.depth t
 |.ptr=>match P.underlying t with
  |some (.pointer e)=>(match P.info? e with|some i=>!Nat.beq i.size 0|none=>false)
  |_=>false
 |.slice=>match P.underlying t with
  |some (.slice _)=>true
  |_=>false
 |.map=>match P.underlying t with
  |some (.map ..)=>true
  |_=>false
 |.func=>match P.underlying t with
  |some (.func ..)=>true
  |_=>false
 |.iface=>match P.underlying t with
  |some (.interface _)=>isConst X||isConst Y
  |_=>false
theorem dw{t:TypeId}{c:CK}(a:zh P t c=true){x y:AV}{i j:Value}{e:Bool}(g:BO I μ x i)(f:BO I μ y j)(h:je c x y=some e)(n:Nat) :
 (Op.equalIn (n+1) t i j).run P w=.ok e w:=by
 unfold zh at a;split at a
 ·rename_i d b;cases c
  ·cases d<;>simp[vV]at a;cases g<;>simp[je]at h;cases f<;>simp at h;simp[Op.equalIn,BQ b,Result.andThen,h]
  ·cases d<;>simp[vV]at a;cases g<;>simp[je]at h;cases f<;>simp[Ad]at h;obtain⟨l,k⟩:=h;cases LG l;simp[Op.equalIn,BQ b,Result.andThen,k]
  ·cases d<;>simp[vV]at a;cases g<;>simp[je]at h;cases f<;>simp at h;subst h;rw[run_equalIn_string _ n t _ _ b,toList_mk,toList_mk]
 ·cases a
theorem Qg{t:TypeId}{d:TypeDesc}{c:CK}(e:P.underlying t=some d)(g:vV d c=true)(b:Array Value)(a:Nat)(v:Value)(f:b[a]? =some v) :
 (part t b a).run P w=.ok v w:=by
 have:Vz d=false:=by cases d<;>cases c<;>simp[vV]at g<;>rfl
 simp[part,Ps e,this,f,Result.andThen]
theorem getElem?_of_drop {α:Type}{l:List α}{i:Nat}{x:α}{r:List α}(h:l.drop i=x::r):l[i]? =some x/\l.drop (i+1)=r:=by
 have a:(l.drop i)[0]? =some x:=by rw[h];rfl
 have b:(l.drop i).drop 1=r:=by rw[h];rfl
 rw[QU]at a;rw[List.drop_drop]at b;exact⟨by simpa using a,by simpa [Nat.add_comm]using b⟩
theorem ai(n:Nat)(o p:Array Value):∀(s:List Field) (r:List CK) (a b:List AV) (i:Nat) (e:Bool),NI P i s r=true->SS r a b=some e ->
 BR I μ a (o.toList.drop i)->BR I μ b (p.toList.drop i)->(Op.eqFields (n+1) o p s).run P w=.ok e w
 |[],[],a,b,i,e,_,h,_,_=>by cases a<;>cases b<;>simp[SS]at h;subst h;rfl
 |[],_::_,_,_,_,_,h,_,_,_=>by simp[NI]at h
 |_::_,[],_,_,_,_,h,_,_,_=>by simp[NI]at h
 |f::s,c::r,a,b,i,e,K,h,O,J=>by
  simp only[NI,Aq,Ho,ne_eq]at K;obtain⟨⟨⟨g,k⟩,j⟩,l⟩:=K;have g:=Cb g;cases a with
  |nil=>simp[SS]at h
  |cons x a=>
  cases b with
  |nil=>simp[SS]at h
  |cons y b=>
  generalize u:o.toList.drop i=rx at O;generalize z:p.toList.drop i=ry at J;cases O with
  |cons _ A _ S N B=>
  cases J with
  |cons _ t _ T L F=>
  obtain⟨U,Y⟩:=getElem?_of_drop u;obtain⟨R,V⟩:=getElem?_of_drop z;subst Y V;obtain⟨d,q,m⟩:∃d,P.underlying f.type=some d/\vV d c=true:=by
   unfold zh at j;split at j
   ·rename_i d q;exact⟨d,q,j⟩
   ·cases j
  have H:=Qg (w:=w) q m o f.offset A (by rw[g];simpa using U);have Q:=Qg (w:=w) q m p f.offset t (by rw[g];simpa using R);simp only[SS]at h;split at h
  ·rename_i v;have D:=dw (w:=w) j N L v n;have W:=ai n o p s r a b (i+1) e l h B F;simp only[Op.eqFields,ne_eq,k,not_false_eq_true,FC,CJ,H,Q,D,Result.andThen,Lf,GA,Dn];exact W
  ·rename_i v;have D:=dw (w:=w) j N L v n;split at h
   ·cases h;simp only[Op.eqFields,ne_eq,k,not_false_eq_true,FC,CJ,H,Q,D,Result.andThen,Bool.not_false,Cs]
   ·cases h
  ·cases h
theorem nO{t:TypeId}{k:KK}(d:xu P t k=true){x y:AV}{l m:Value}{e:Bool}(n:BO I μ x l)(i:BO I μ y m)(h:tu k x y=some e) :
 (Op.equal t l m).run P w=.ok e w:=by
 cases k with
 |one c=>exact dw d n i h _
 |many u=>
  simp only[tu]at h;simp only[xu]at d;cases n with
  |agg a q s o=>
   cases i with
   |agg b p r v=>
    simp only at h;split at d
    ·rename_i j g;simp only[Aq,Fp]at d;have:=ai (P:=P) (w:=w) 9998 q.toArray p.toArray j.toList u a b 0 e d.2 h (by simpa using s) (by simpa using r);have f:P.fieldsOf t=j:=by simp[Program.fieldsOf,g]
     rw[←f]at this;show (Op.equalIn (9998+1+1) t _ _).run P w=_;rw[run_equalIn_struct w _ t _ _ (by rw[f];exact g) d.1];exact this
    ·cases d
   |_=>simp at h
  |_=>simp at h
def Nu:Value->Value->Bool
 |.nilIface,.nilIface=>false
 |.agg _,.agg _=>false
 |.int ..,.int ..=>false
 |.float ..,.float ..=>false
 |.complex ..,.complex ..=>false
 |.string _,.string _=>false
 |_,_=>true
theorem Wx{c:BinOp}{t:TypeId}{X Y:Operand}{a b:Value}(h:Nu a b=true):(eqGuard c t X Y a b).run P w=.ok () w:=by
 cases c<;>first
  |(simp[eqGuard];done)
  |(cases a<;>cases b<;>first|(simp[Nu]at h;done)|simp[eqGuard])
theorem XC{c:Bool}{t:TypeId}{a b:Value}(h:Nu a b=true) :
 (Go.binOp (if c then .neq else .eql) t a b).run P w=((Op.equal t a b).run P w).andThen (fun b w=>.ok (.bool (b !=c)) w):=by
 cases c<;>cases a<;>cases b<;>first|(simp[Nu]at h;done)|simp[Go.binOp]
section
variable {t e:TypeId}(n:Nat)
theorem ZC(a:P.underlying t=some (.pointer e))(b:Option Addr):(Op.equalIn (n+1) t (.pointer none) (.pointer b)).run P w=.ok b.isNone w:=by simp[Op.equalIn,BQ a,Result.andThen]
theorem jN(b:P.underlying t=some (.pointer e))(a:Addr):(Op.equalIn (n+1) t (.pointer (some a)) (.pointer none)).run P w=.ok false w:=by simp[Op.equalIn,BQ b,Result.andThen]
theorem yR(f:P.underlying t=some (.pointer e)){i:TypeInfo}(g:P.info? e=some i)(d:i.size≠0)(a b:Addr)(c:a.block=b.block) :
 (Op.equalIn (n+1) t (.pointer (some a)) (.pointer (some b))).run P w=.ok (a==b) w:=by
 simp[Op.equalIn,BQ f,FY g,d,Result.andThen,sameAddr,c]
theorem dZ(a:P.underlying t=some (.slice e))(b:Option Addr)(x y:Nat):(Op.equalIn (n+1) t (.slice none 0 0) (.slice b x y)).run P w=.ok b.isNone w:=by simp[Op.equalIn,BQ a,Result.andThen]
theorem qO(b:P.underlying t=some (.slice e))(a:Addr)(x y:Nat):(Op.equalIn (n+1) t (.slice (some a) x y) (.slice none 0 0)).run P w=.ok false w:=by simp[Op.equalIn,BQ b,Result.andThen]
theorem ZF{k:TypeId}(a:P.underlying t=some (.map k e))(b:Option Nat):(Op.equalIn (n+1) t (.map none) (.map b)).run P w=.ok b.isNone w:=by simp[Op.equalIn,BQ a,Result.andThen]
theorem jO{k:TypeId}(b:P.underlying t=some (.map k e))(a:Nat):(Op.equalIn (n+1) t (.map (some a)) (.map none)).run P w=.ok false w:=by simp[Op.equalIn,BQ b,Result.andThen]
theorem AA1{p r:Array TypeId}{v:Bool}(a:P.underlying t=some (.func p r v)):(Op.equalIn (n+1) t .nilFunc .nilFunc).run P w=.ok true w:=by simp[Op.equalIn,BQ a,Result.andThen]
theorem AA0{p r:Array TypeId}{v:Bool}(c:P.underlying t=some (.func p r v))(f:Fn)(a b:Array Value):(Op.equalIn (n+1) t .nilFunc (.func f a b)).run P w=.ok false w:=by simp[Op.equalIn,BQ c,Result.andThen]
theorem AAE{p r:Array TypeId}{v:Bool}(c:P.underlying t=some (.func p r v))(f:Fn)(a b:Array Value):(Op.equalIn (n+1) t (.func f a b) .nilFunc).run P w=.ok false w:=by simp[Op.equalIn,BQ c,Result.andThen]
theorem qR{m:Array (String×TypeId)}(a:P.underlying t=some (.interface m)):(Op.equalIn (n+1) t .nilIface .nilIface).run P w=.ok true w:=by simp[Op.equalIn,BQ a,Result.andThen]
theorem qQ{m:Array (String×TypeId)}(a:P.underlying t=some (.interface m))(u:TypeId)(v:Value):(Op.equalIn (n+1) t .nilIface (.iface u v)).run P w=.ok false w:=by simp[Op.equalIn,BQ a,Result.andThen]
theorem qP{m:Array (String×TypeId)}(a:P.underlying t=some (.interface m))(u:TypeId)(v:Value):(Op.equalIn (n+1) t (.iface u v) .nilIface).run P w=.ok false w:=by simp[Op.equalIn,BQ a,Result.andThen]
end
theorem AFv{t:TypeId}{X Y:Operand}{k:EK}(g:eqB P t X Y k=true){d:Bool}{x y v:AV}{m l:Value}(H:CQ base w0 I μ st w)(s:BO I μ x m)(j:BO I μ y l)(J:Uz d k x y=some v) :
 ∃u,(do eqGuard (if d then .neq else .eql) t X Y m l;Go.binOp (if d then .neq else .eql) t m l:Sem Value).run P w=.ok u w/\BO I μ v u:=by
 unfold Uz at J;split at J
 ·rename_i e a;cases J;have q:(eqGuard (if d then .neq else .eql) t X Y m l).run P w=.ok () w->(Go.binOp (if d then .neq else .eql) t m l).run P w=((Op.equal t m l).run P w).andThen (fun b w=>.ok (.bool (b !=d)) w) ->
   (Op.equal t m l).run P w=.ok e w->∃u,(do eqGuard (if d then .neq else .eql) t X Y m l;Go.binOp (if d then .neq else .eql) t m l:Sem Value).run P w=.ok u w/\BO I μ (.bool (e !=d)) u:=by
   intro F O h;exact⟨.bool (e !=d),by simp only[CJ,F,Result.andThen,O,h],.bool _⟩
  have plain:Nu m l=true->(Op.equal t m l).run P w=.ok e w->∃u,(do eqGuard (if d then .neq else .eql) t X Y m l;Go.binOp (if d then .neq else .eql) t m l:Sem Value).run P w=.ok u w/\BO I μ (.bool (e !=d)) u:=
   fun F h=>q (Wx F) (XC F) h
  cases k with
  |key k=>
   simp only[eqB,Aq,Fp]at g;have h:=nO (w:=w) g.1 s j a;cases k with
   |one c=>
    simp only[kK,tu]at a;cases c<;>cases s<;>simp[je]at a<;>cases j<;>simp at a
    ·exact plain rfl h
    ·refine q (by cases d<;>simp[eqGuard]) ?_ h;rw[Ad]at a;split at a
     ·rename_i T;cases LG T;simp at a;rw[h];cases d<;>simp[Go.binOp,Op.intCmp,Result.andThen,a]<;>rw[←a]<;>rfl
     ·cases a
    ·refine q (by cases d<;>simp[eqGuard]) ?_ h;rw[h];cases d<;>simp[Go.binOp,Op.stringOp,Result.andThen,a]
   |many U=>
    simp only[kK,tu]at a;cases s<;>simp at a;cases j<;>simp at a;refine q (by cases d<;>exact run_eqGuard_agg _ _ _ _ _ _ _ g.2) ?_ h;rw[h];have Q:∀n,n=10000->_:=fun n hn=>h;cases d
    ·rw[show (if false=true then BinOp.neq else BinOp.eql)=.eql from rfl,run_eql_struct];simp only[Op.equal,Op.maxDepth]at h;rw[h];simp[Result.andThen]
    ·rw[show (if true=true then BinOp.neq else BinOp.eql)=.neq from rfl,run_neq_struct];simp only[Op.equal,Op.maxDepth]at h;rw[h];simp[Result.andThen]
  |ptr=>
   simp only[eqB]at g;split at g
   ·rename_i N f;split at g
    ·rename_i i R;have K:i.size≠0:=fun e=>by rw[e]at g;cases g
     simp only[kK]at a;cases s with
     |DY=>
      cases j with
      |DY=>cases a;exact plain rfl (ZC _ f _)
      |AL=>cases a;exact plain rfl (ZC _ f _)
      |CB=>cases a;exact plain rfl (ZC _ f _)
      |_=>cases a
     |CB=>
      cases j with
      |DY=>cases a;exact plain rfl (jN _ f _)
      |_=>cases a
     |AL o L D S=>
      cases j with
      |DY=>cases a;exact plain rfl (jN _ f _)
      |AL p A Z B=>
       simp only[Ad]at a;split at a
       ·rename_i z;have z:=Cb z;subst z;rw[S]at B;cases B;cases a;refine plain rfl ?_;have:=yR (w:=w) 9999 f R K ⟨D.r,D.b+L,none⟩ ⟨D.r,D.b+A,none⟩ rfl;refine this.trans ?_;congr 1;rw[beq_eq,KZ];simp
       ·cases a
      |_=>cases a
     |_=>cases a
    ·cases g
   ·cases g
  |slice=>
   simp only[eqB]at g;split at g
   ·rename_i N f;simp only[kK]at a;cases s with
    |AO=>
     cases j with
     |AO=>cases a;exact plain rfl (dZ _ f _ _ _)
     |list=>cases a;exact plain rfl (dZ _ f _ _ _)
     |AU=>cases a;exact plain rfl (dZ _ f _ _ _)
     |_=>cases a
    |list=>cases j with
     |AO=>cases a;exact plain rfl (qO _ f _ _ _)
     |_=>cases a
    |AU=>cases j with
     |AO=>cases a;exact plain rfl (qO _ f _ _ _)
     |_=>cases a
    |_=>cases a
   ·cases g
  |map=>
   simp only[eqB]at g;split at g
   ·rename_i kt N f;simp only[kK]at a;cases s with
    |IZ=>
     cases j with
     |IZ=>cases a;exact plain rfl (ZF _ f _)
     |Cq=>cases a;exact plain rfl (ZF _ f _)
     |CR=>cases a;exact plain rfl (ZF _ f _)
     |_=>cases a
    |Cq=>cases j with
     |IZ=>cases a;exact plain rfl (jO _ f _)
     |_=>cases a
    |CR=>cases j with
     |IZ=>cases a;exact plain rfl (jO _ f _)
     |_=>cases a
    |_=>cases a
   ·cases g
  |func=>
   simp only[eqB]at g;split at g
   ·rename_i p r V f;simp only[kK]at a;cases s with
    |Nc=>
     cases j with
     |Nc=>cases a;exact plain rfl (AA1 _ f)
     |fn=>cases a;exact plain rfl (AA0 _ f _ _ _)
     |_=>cases a
    |fn=>cases j with
     |Nc=>cases a;exact plain rfl (AAE _ f _ _ _)
     |_=>cases a
    |_=>cases a
   ·cases g
  |iface=>
   simp only[eqB]at g;split at g
   ·rename_i W f;simp only[kK]at a;cases s with
    |Ij=>
     cases j with
     |Ij=>
      cases a;refine q ?_ ?_ (qR _ f)
      ·cases d<;>cases X<;>cases Y<;>first|(simp[isConst]at g;done)|simp[eqGuard]
      ·have:=qR (P:=P) (w:=w) 9999 f;cases d<;>simp only[Go.binOp,GA,Dn,FC,CJ,Cs]<;>simp
     |iface=>cases a;exact plain rfl (qQ _ f _ _)
     |_=>cases a
    |iface=>cases j with
     |Ij=>cases a;exact plain rfl (qP _ f _ _)
     |_=>cases a
    |_=>cases a
   ·cases g
 ·cases J
end
end Go.Am
namespace Go.Am
open Go Go.RowKit
variable {P:Program}
section
variable {base:Nat}{w0:Start}{I:HY}{μ:Mu}{st:St}{w:World}
theorem AD5{b:UnOp}{x v:AV}{c:Value}(e:BO I μ x c)(a:un b x=some v):∃d,(Op.unary b c).run P w=.ok d w/\BO I μ v d:=by
 cases e<;>cases b<;>simp[un]at a
 ·subst a;exact⟨_,by simp[Op.unary],.bool _⟩
 ·subst a;exact⟨_,by simp[Op.unary,Op.intArith],.int _ _⟩
 ·simp[intBits]at a;subst a;exact⟨_,by simp[Op.unary,Op.intBits],.int _ _⟩
theorem oJ{c a:TypeId}{k j:IntKind}(i:P.underlying c=some (.int j))(f:P.underlying a=some (.int k)){x v:AV}{d:Value}{b:St}(m:BO I μ x d)(h:Mi k x st=some (v,b)):b=st/\∃e,(Go.convert c a d).run P w=.ok e w/\BO I μ v e:=by cases m<;>simp[Mi]at h;obtain⟨l,g⟩:=h;subst l g;exact⟨rfl,_,by simp[Go.convert,BQ i,BQ f,Result.andThen,Conv.intToInt],.int _ _⟩
theorem lJ:∀n,n<128->Utf8.encode (n:Nat)=⟨#[UInt8.ofNat n]⟩:=by decide +kernel
theorem oI{b c:TypeId}(a:P.underlying b=some .string∨∃j,P.underlying b=some (.int j))(f:P.underlying c=some .string){x v:AV}{g:Value}{d:St}(m:BO I μ x g)(h:LQ x st=some (v,d)):d=st/\∃i,(Go.convert b c g).run P w=.ok i w/\BO I μ v i:=by
 cases m<;>simp only[LQ]at h;case str l=>cases h;refine⟨rfl,_,?_,.str _⟩;rcases a with a|⟨j,a⟩<;>simp[Go.convert,BQ a,BQ f,Result.andThen]
 case int k n=>
  cases n with
  |ofNat n=>
   simp only at h;split at h
   ·rename_i o;cases h;have e:=lJ n o;refine⟨rfl,.string ⟨⟨[UInt8.ofNat n]⟩⟩,?_,.str _⟩;rcases a with a|⟨j,a⟩<;>simp[Go.convert,BQ a,BQ f,Result.andThen,Conv.intToString,e]
   ·cases h
  |negSucc n=>cases h
 all_goals cases h
theorem mE{t:TypeId}{d:TypeDesc}(c:P.underlying t=some d)(g:∀e,d≠.interface e){x:AV}{a:Value}(f:BO I μ x a) :
 ∃b,(Instr.makeInterface t a).run P w=.ok b w/\BO I μ (.iface t x) b:=by
 refine⟨.iface t a,?_,.iface t x a f⟩;cases d<;>first|(exact absurd rfl (g _))|simp[Instr.makeInterface,BQ c,Result.andThen]
theorem HZ{x:AV}{a:Value}{n y:Nat}{code:BoundsCode}(b:BO I μ x a)(h:asNat x=some n)(c:n<=y):(Instr.sliceBound a y code).run P w=.ok n w:=by
 cases b with
 |int k m=>
  cases m with
  |ofNat m=>
   simp[asNat]at h;subst h;have:(m:Int)<=(y:Int):=by omega
   simp[Instr.sliceBound,asIntOf,this]
  |negSucc m=>simp[asNat]at h
 |_=>simp[asNat]at h
inductive Pk (I:HY) (μ:Mu):Option Nat->Option Value->Prop
 |none:Pk I μ none none
 |some (x:AV) (rx:Value) (n:Nat) (hx:BO I μ x rx) (h:asNat x=some n):Pk I μ (some n) (some rx)
theorem Oa{isSlice:Bool}{len cap:Nat}{t l e:Option Nat}{d p j:Option Value}(a:Pk I μ t d)(i:Pk I μ l p)(r:Pk I μ e j)(B:e.isSome=true->l.isSome=true)(c:t.getD 0<=l.getD len)(b:l.getD len<=e.getD cap)(s:e.getD cap<=cap) :
 (Instr.sliceBounds isSlice len cap d p j).run P w=.ok (t.getD 0,l.getD len,e.getD cap) w:=by
 cases r with
 |none=>
  cases i with
  |none=>
   cases a with
   |none=>simp[Instr.sliceBounds]
   |some x v n o h=>simp at c;simp[Instr.sliceBounds,HZ o h c,Result.andThen]
  |some y A m k g=>
   simp at b;cases a with
   |none=>simp[Instr.sliceBounds,HZ k g b,Result.andThen]
   |some x v n o h=>simp at c;simp[Instr.sliceBounds,HZ o h c,HZ k g b,Result.andThen]
 |some z D q u f=>
  simp at s;cases i with
  |none=>simp at B
  |some y A m k g=>
   simp at b;cases a with
   |none=>simp[Instr.sliceBounds,HZ k g b,HZ u f s,Result.andThen]
   |some x v n o h=>simp at c;simp[Instr.sliceBounds,HZ o h c,HZ k g b,HZ u f s,Result.andThen]
theorem extract_mk(l:List UInt8)(a b:Nat)(h:a<=b):(⟨⟨l⟩⟩:ByteArray).extract a b=⟨⟨(l.take b).drop a⟩⟩:=by apply ByteArray.ext;apply Ld;simp[ByteArray.data_extract,List.drop_take]
theorem Mf{c:Bool}{l j:List AV}{b:List Value}{n:Option Nat}(g:BR I μ l b)(h:Gi c l=some (n,j)) :
 ∃e a,b=(if c then e.toList++a else a)/\(c=true↔e.isSome=true)/\Pk I μ n e/\BR I μ j a:=by
 cases c with
 |false=>simp[Gi]at h;obtain⟨f,d⟩:=h;subst f d;exact⟨none,b,by simp,by simp,.none,g⟩
 |true=>
  cases g with
  |nil=>simp[Gi]at h
  |cons x i l b o k=>
   simp only[Gi]at h;split at h
   ·rename_i m p;simp at h;obtain⟨f,d⟩:=h;subst f d;exact⟨some i,b,by simp,by simp,.some x i m o p,k⟩
   ·cases h
theorem fQ{t:TypeId}(z:P.underlying t=some .string){n g:Bool}{x v:AV}{o:Value}{l:List AV}{p:List Value}{e:St}(A:BO I μ x o)(r:BR I μ l p)(h:Kz n g (x::l) st=some (v,e)):e=st/\∃d c:Option Value,p=d.toList++c.toList/\(n=true↔d.isSome=true)/\(g=true↔c.isSome=true) /\
 ∃q,(Instr.sliceAt t o d c none).run P w=.ok q w/\BO I μ v q:=by
 cases A with
 |str s=>
  simp only[Kz]at h;split at h
  ·rename_i a L F;obtain⟨d,D,B,k,K,m⟩:=Mf r F;split at h
   ·rename_i b u;obtain⟨c,y,J,i,H,j⟩:=Mf m u;cases j;simp only[ble_eq,Ad,Aq,Aw]at h;split at h
    ·rename_i f;cases h;refine⟨rfl,d,c,?_,k,i,.string ⟨⟨(s.take (b.getD s.length)).drop (a.getD 0)⟩⟩,?_,.str _⟩
     ·rw[B,J];cases n<;>cases g<;>simp at k i ⊢<;>simp[k,i]
     ·have:=Oa (P:=P) (w:=w) (isSlice:=false) (len:=s.length) (cap:=s.length) K H (.none (I:=I) (μ:=μ)) (by simp) f.1 (by simpa using f.2) (by simp);simp only[Instr.sliceAt,CJ,BQ z,Result.andThen,Instr.slice,Option.isSome_none,GA,Dn,Cs,size_mk,this];rw[extract_mk _ _ _ f.1]
    ·cases h
   ·cases h
  ·cases h
 |_=>simp[Kz]at h
def Td(P:Program)(t:TypeId)(e sz:Nat):Bool:=
 match P.underlying t with
 |some (.slice e')=>Nat.beq e' e&&(match P.info? e with|some i=>Nat.beq i.size sz|none=>false)
 |_=>false
theorem UE{t:TypeId}{e a:Nat}(h:Td P t e a=true):P.underlying t=some (.slice e)/\∃i,P.info? e=some i/\i.size=a:=by
 unfold Td at h;split at h
 ·rename_i d b;simp only[Aq]at h;have:=Cb h.1;subst this;split at h
  ·rename_i i c;exact⟨b,i,c,Cb h.2⟩
  ·simp at h
 ·cases h
theorem Vh{t:TypeId}{e o len cap:Nat}(r:Td P t e o=true){a:Option Addr}{b d c:Option Nat}{g f h:Option Value}(j:Pk I μ b g)(m:Pk I μ d f)(l:Pk I μ c h)(u:c.isSome=true->d.isSome=true)(v:b.getD 0<=d.getD len)(q:d.getD len<=c.getD cap)(s:c.getD cap<=cap) :
 (Instr.sliceAt t (.slice a len cap) g f h).run P w =
  .ok (.slice (if c.getD cap=b.getD 0 then a else a.map (·.add (b.getD 0*o))) (d.getD len-b.getD 0) (c.getD cap-b.getD 0)) w:=by
 obtain⟨p,i,k,n⟩:=UE r;have:=Oa (P:=P) (w:=w) (isSlice:=true) (len:=len) (cap:=cap) j m l u v q s;simp only[Instr.sliceAt,CJ,BQ p,Result.andThen,Instr.slice,this,FY k,n,Cs]
theorem Jm{b:Nat}:∀(a:List AV),(∀x∈a,x.cells.length=b)->∀n,(a.take n).flatMap AV.cells=(a.flatMap AV.cells).take (n*b)/\(a.drop n).flatMap AV.cells=(a.flatMap AV.cells).drop (n*b)
 |[],_,n=>by simp
 |x::a,h,0=>by simp
 |x::a,h,n+1=>by
  obtain⟨f,c⟩:=Jm a (fun y d=>h y (by simp[d])) n;have g:=h x (by simp);have e:(n+1)*b=x.cells.length+n*b:=by rw[g,Hq,Nat.one_mul,Nat.add_comm]
  constructor
  ·rw[List.take_succ_cons,Cn,f,Cn,e,List.take_length_add_append]
  ·rw[List.drop_succ_cons,c,Cn,e,List.drop_length_add_append]
theorem PO{b:Nat}(a:List AV)(h:∀x∈a,x.cells.length=b):(a.flatMap AV.cells).length=a.length*b:=by
 induction a with
 |nil=>simp
 |cons x a c=>simp[h x (by simp),c (fun y d=>h y (by simp[d])),Hq,Nat.add_comm]
theorem nH{g:List AV}{r j f l e b:Nat}{d:List Value}(o:∀(i:Nat) (h:i<d.length),I.cell r (j+i)=some d[i])(v:One d)(m:∀x∈g,x.cells.length=f)(h:BR I μ (g.flatMap AV.cells) d)(w:l<=e)(t:e<=g.length){a:Bool}(y:e-l<=b)(q:a=true->b=e-l) :
 BO I μ (.list a f ((g.take e).drop l)) (.slice (some ⟨r,j+l*f,none⟩) (e-l) b):=by
 have c:((g.take e).drop l).length=e-l:=by simp;omega
 have k:∀x∈(g.take e).drop l,x.cells.length=f:=fun x n=>m x (TA (NC n));have p:=(Jm (g.take e) (fun x n=>m x (TA n)) l).2;have u:=(Jm g m e).1;have:=BO.list (I:=I) (μ:=μ) a f ((g.take e).drop l) r (j+l*f) b ((d.take (e*f)).drop (l*f)) (fun i s=>by
  simp at s
  rw[Fg,o (l*f+i) (by omega)]
  simp) ((v.take _).drop _) k (by rw[p,u];exact (h.take _).drop _) (by rw[c];exact y) (by rw[c];exact q)
 rw[c]at this;exact this
theorem wI(H:CQ base w0 I μ st w){t:TypeId}{e sz:Nat}(ht:Td P t e sz=true){lo hi mx:Bool}{x v:AV}{rx:Value}{l:List AV}{rl:List Value}{a0:St}(hx:BO I μ x rx)(hl:BR I μ l rl)(a3:mx=true->hi=true)(h:DW sz lo hi mx (x::l) st=some (v,a0)) :
 a0=st/\∃F L A:Option Value,rl=F.toList++(L.toList++A.toList)/\(lo=true↔F.isSome=true)/\(hi=true↔L.isSome=true)/\(mx=true↔A.isSome=true) /\
  ∃rv,(Instr.sliceAt t rx F L A).run P w=.ok rv w/\BO I μ v rv:=by
 simp only[DW]at h;split at h
 ·rename_i a l1 h1;obtain⟨F,b7,e1,f1,o1,a5⟩:=Mf hl h1;split at h
  ·rename_i b l2 h2;obtain⟨L,b4,e2,f2,o2,a2⟩:=Mf a5 h2;split at h
   ·rename_i m h3;obtain⟨A,b8,e3,f3,o3,a8⟩:=Mf a2 h3;cases a8;have hm:m.isSome=true->b.isSome=true:=by
     intro hm;have:A.isSome=true:=by cases o3<;>first|rfl|cases hm
     have:=f2.1 (a3 (f3.2 this));cases o2<;>first|rfl|cases this
    unfold Ia at h;split at h
    ·rename_i v' f;cases h;refine⟨rfl,F,L,A,?_,f1,f2,f3,?_⟩
     ·rw[e1,e2,e3];cases lo<;>cases hi<;>cases mx<;>simp at f1 f2 f3 ⊢<;>simp[f1,f2,f3]
     ·cases hx with
      |AO=>
       simp only[GK,beq_eq,Ad,Aq,Aw]at f;split at f
       ·rename_i z;cases f;have B:b.getD 0=0:=z.1.2;have:=Vh (P:=P) (w:=w) ht (a:=none) (len:=0) (cap:=0) o1 o2 o3 hm (by omega) (by omega) (by omega);rw[z.1.1,z.1.2,z.2]at this;exact⟨_,this,by simpa using BO.AO⟩
       ·cases f
      |list tight d xs r i cap b0 hI a9 hs a6 S a4=>
       simp only[GK,beq_eq,Ad,Aw]at f;split at f
       ·rename_i O;subst O;simp only[Sg]at f;have k:=fun Q T U=>Vh (P:=P) (w:=w) ht (a:=some ⟨r,i,none⟩) (len:=xs.length) (cap:=cap) o1 o2 o3 hm Q T U;have u:∀(N s:Nat) (tt:Bool),a.getD 0<=N->N<=xs.length->N<=s->(tt=true->s=N) ->
         BO I μ (.list tt d ((xs.take N).drop (a.getD 0))) (.slice (if s=a.getD 0 then some ⟨r,i,none⟩ else (some ⟨r,i,none⟩:Option Addr).map (·.add (a.getD 0*d))) (N-a.getD 0) (s-a.getD 0)):=by
         intro N s tt Q T U V;by_cases z:s=a.getD 0
         ·have B:N=a.getD 0:=by omega
          have W:(xs.take N).drop (a.getD 0)=[]:=by apply Gn;simp;omega
          rw[AX z,W];have:=BO.list (I:=I) (μ:=μ) tt d [] r i (s-a.getD 0) [] (by simp) (by intro v f;cases f) (by simp) .nil (by simp) (by intro h;have:=V h;simp;omega);simpa [B]using this
         ·rw[AJ z];simp only[Jt,GZ];exact nH hI a9 hs a6 Q T (by omega) (by intro h;have:=V h;omega)
        split at f
        ·rename_i b2;simp only[ble_eq,Ad,Aq,Aw]at f;split at f
         ·rename_i B;cases f;refine⟨_,k B.1 (by simp;omega) (by simp),?_⟩;simp only[Option.getD_none];refine u _ cap _ B.1 B.2 (by omega) ?_;intro J;rw[Aq]at J;have:=a4 J.1;have:=Cb J.2;show cap=_;omega
         ·cases f
        ·rename_i D;simp only[ble_eq,Ad,Aq,Aw]at f;split at f
         ·rename_i B;cases f;refine⟨_,k B.1.1 (by simpa using B.1.2) (by simp;omega),?_⟩;simp only[KG];refine u _ D _ B.1.1 (by omega) B.1.2 ?_;intro J;simpa using J
         ·cases f
       ·cases f
      |AU o i len cap pl ad j hμ z ha c0 S=>
       simp only[GK]at f;split at f
       ·rename_i ty d cs ext hf;simp only[beq_eq,blt_eq,Ad,Aq,Aw]at f;split at f
        ·rename_i O;obtain⟨a1,b3⟩:=O;subst a1;obtain⟨b5,c,fz,b0,Q,g,hn,he,hw,B,c1,b9,b1,b6⟩:=H.cells hf hμ;rw[hμ]at Q;cases Q;rw[g]at z;simp only[He,ble_eq,Ad,Aw]at f;split at f
         ·rename_i n;have k:=fun T U=>Vh (P:=P) (w:=w) ht (a:=some ad) (len:=len) (cap:=j) o1 o2 o3 hm n T U;have u:∀(Z s:Nat) (K:Option Nat),Z<=s->a.getD 0<=Z->(0<s->0<j)->VQ pl (i+a.getD 0*d) K (s-a.getD 0) ->
           BO I μ (.AU o (i+a.getD 0*d) (Z-a.getD 0) K) (.slice (if s=a.getD 0 then some ad else (some ad:Option Addr).map (·.add (a.getD 0*d))) (Z-a.getD 0) (s-a.getD 0)):=by
           intro Z s K Q T U V;by_cases hz':s=a.getD 0
           ·rw[AX hz'];exact .AU o _ _ _ pl ad _ hμ (by rw[g];exact z) ⟨ha.1,by intro h;omega⟩ (by omega) V
           ·rw[AJ hz'];simp only[Jt];refine .AU o _ _ _ pl _ _ hμ (by rw[g];exact z) ⟨by unfold Addr.add;split<;>simp_all,?_⟩ (by omega) V;intro h;rw[ha.2 (U (by omega)),GZ,Fg]
          unfold VQ at S;split at f
          ·rename_i a7 Y;try simp only[ble_eq,Ad,Aw]at f
           split at f
           ·rename_i q;cases f;obtain⟨R,y⟩:=S;refine⟨_,k (by simp;omega) (by simp),?_⟩;simp only[Option.getD_none];refine u _ j _ (by omega) n (fun h=>h) ?_;unfold VQ;refine⟨by omega,?_⟩;rw[g]at y⊢;have:a.getD 0<=Y:=by omega
            have:i+a.getD 0*d+(Y-a.getD 0)*d=i+Y*d:=by rw[Fg,←Hq];congr 2;omega
            omega
           ·cases f
          ·rename_i a7;try simp only[ble_eq,Ad,Aw]at f
           split at f
           ·rename_i q;cases f;obtain⟨R,y⟩:=S;rw[g]at y;have p:b.getD len<=j:=by
             have:b.getD len*d<=j*d:=by omega
             exact WZ this z
            refine⟨_,k (by simpa using p) (by simp),?_⟩;simp only[Option.getD_none];refine u _ j _ p n (fun h=>h) ?_;unfold VQ;have h2:a.getD 0*d<=b.getD len*d:=Im _ n;refine⟨by omega,?_⟩;rw[g,Nat.sub_mul];omega
           ·cases f
          ·rename_i D Y;try simp only[Aq,Aw]at f
           split at f
           ·rename_i q;cases f;obtain⟨R,y⟩:=S;refine⟨_,k (by simpa using q.1) (by simp;omega),?_⟩;simp only[KG];refine u _ D _ q.1 n (by omega) ?_;unfold VQ;refine⟨rfl,?_⟩;rw[g]at y⊢;have:i+a.getD 0*d+(D-a.getD 0)*d=i+D*d:=by rw[Fg,←Hq];congr 2;omega
            have:D*d<=Y*d:=Im _ q.2;omega
           ·cases f
          ·rename_i D;try simp only[Aq,Aw]at f
           split at f
           ·rename_i q;cases f;obtain⟨R,y⟩:=S;rw[g]at y;have p:D<=j:=by
             have:D*d<=j*d:=by omega
             exact WZ this z
            refine⟨_,k (by simpa using q.1) (by simpa using p),?_⟩;simp only[KG];refine u _ D _ q.1 n (by omega) ?_;unfold VQ;refine⟨rfl,?_⟩;rw[g];have:i+a.getD 0*d+(D-a.getD 0)*d=i+D*d:=by rw[Fg,←Hq];congr 2;omega
            omega
           ·cases f
         ·cases f
        ·cases f
       ·cases f
      |_=>simp[GK]at f
    ·cases h
   ·cases h
  ·cases h
 ·cases h
end
end Go.Am
namespace Go.Am
open Go Go.RowKit
variable {P:Program}
section
variable {base:Nat}{w0:Start}{I:HY}{μ:Mu}{st:St}{w:World}
theorem gU{x v:AV}{e:Value}{c:St}(i:BO I μ x e)(h:DT x st=some (v,c)) :
 c=st/\v=x/\((∃a,e=.pointer (some a))∨∃f a b,e=.func (.func f) a b):=by
 cases i with
 |fn f a b k j m l=>cases f<;>simp[DT]at h⊢<;>(obtain⟨g,d⟩:=h;exact⟨d.symm,g.symm⟩)
 |_=>first
  |(simp[DT]at h;done)
  |(simp[DT]at h⊢;obtain⟨g,d⟩:=h;exact⟨d.symm,g.symm⟩)
def dV(P:Program)(s:TypeId)(f off:Nat):Bool:=
 match P.underlying s with
 |some (.struct fs)=>(match fs[f]? with
  |some fd=>Nat.beq fd.offset off&&(match P.info? fd.type with|some i=>!Nat.beq i.size 0|none=>false)
  |none=>false)
 |_=>false
theorem uQ{s:TypeId}{f b:Nat}(h:dV P s f b=true):∃d a i,P.underlying s=some (.struct d)/\d[f]? =some a/\a.offset=b/\P.info? a.type=some i/\i.size≠0:=by
 unfold dV at h;split at h
 ·rename_i d g;split at h
  ·rename_i a j;rw[Aq]at h;obtain⟨k,c⟩:=h;split at c
   ·rename_i i l;refine⟨d,a,i,g,j,Cb k,l,fun e=>?_⟩;rw[e]at c;cases c
   ·cases c
  ·cases h
 ·cases h
theorem dW{s:TypeId}{f b:Nat}(D:dV P s f b=true){p v:AV}{m:Value}{c:St}(t:BO I μ p m)(h:Cx b p st=some (v,c)) :
 c=st/\∃n,(Instr.fieldAt s m f).run P w=.ok n w/\BO I μ v n:=by
 obtain⟨K,J,i,q,u,e,j,g⟩:=uQ D;have d:∀a:Addr,(Instr.fieldAt s (.pointer (some a)) f).run P w=.ok (.pointer (some (a.add b))) w:=by intro a;simp[Instr.fieldAt,BQ q,Result.andThen,u,Instr.sureAddr,fieldPlace,FY j,g,e]
 cases t with
 |AL o a B x=>simp[Cx]at h;obtain⟨l,A⟩:=h;subst l A;refine⟨rfl,_,d _,?_⟩;rw[GZ,Fg];exact .AL o (a+b) B x
 |CB L r a k z l H=>simp[Cx]at h;obtain⟨y,F⟩:=h;subst y F;refine⟨rfl,_,d _,?_⟩;rw[GZ];refine .CB _ r (a+b) (k.drop b) (fun i j=>?_) (l.drop _) (H.drop _);simp at j;rw[Fg,z (b+i) (by omega)];simp
 |_=>simp[Cx]at h
theorem SY{k:IntKind}{n:Int}:(asIntOf (.int k n)).run P w=.ok (k,n) w:=rfl
theorem dK(H:CQ base w0 I μ st w){t:TypeId}{e u:Nat}(U:Td P t e u=true){x i v:AV}{O Q:Value}{m:St}(D:BO I μ x O)(hi:BO I μ i Q)(h:AY u x i st=some (v,m)):m=st/\∃N,(Instr.indexAt t O Q).run P w=.ok N w/\BO I μ v N:=by
 obtain⟨S,ti,z,s⟩:=UE U;unfold AY at h;split at h
 ·rename_i n hn;obtain⟨k,rfl⟩:=Ol hi hn;have p:∀(a:Addr) (len cap:Nat),n<len->(Instr.indexAt t (.slice (some a) len cap) (.int k n)).run P w=.ok (.pointer (some (a.add (n*u)))) w:=by
   intro a len cap c;have K:(0:Int)<=n/\(n:Int)<len:=by omega
   simp[Instr.indexAt,asIntOf,BQ S,Result.andThen,FY z,s,c]
  cases D with
  |list tight b d r g cap F Y K B R hc W=>
   simp only[beq_eq,Ad,Aw]at h;split at h
   ·rename_i f;subst f;split at h
    ·rename_i y l;cases h;have c:n<d.length:=(GJ.1 l).1;refine⟨rfl,_,p _ _ _ c,?_⟩;rw[GZ];have Z:=R.length;rw[PO d B]at Z;have q:(d.drop n).take 1=[y]:=by rw[GJ]at l;obtain⟨_,l⟩:=l;rw[MP c,l];rfl
     have A:((d.flatMap AV.cells).drop (n*b)).take (1*b)=y.cells:=by rw[←(Jm d B n).2,←(Jm (d.drop n) (fun x D=>B x (NC D)) 1).1,q];simp
     rw[←A];have J:n*b+b<=d.length*b:=by have:=Im b c;rw[Il]at this;exact this
     refine .CB _ r (g+n*b) ((F.drop (n*b)).take (1*b)) (fun j hj=>?_) ((K.drop _).take _) ((R.drop _).take _);simp at hj;rw[Fg,Y (n*b+j) (by omega)];simp
    ·cases h
   ·cases h
  |AU o g len cap pl ad L T hz ha J hc=>
   simp only at h;split at h
   ·rename_i ty b cs ext hf;simp only[beq_eq,blt_eq,Ad,Aq,Aw]at h;split at h
    ·rename_i V;cases h;refine⟨rfl,_,p _ _ _ V.1,?_⟩;rw[ha.2 (by omega),GZ,Fg];exact .AL o _ pl T
    ·cases h
   ·cases h
  |_=>simp at h
 ·cases h
def uE(P:Program)(t:TypeId)(len e sz:Nat):Bool:=
 match P.underlying t with
 |some (.array n e')=>Nat.beq n len&&Nat.beq e' e&&(match P.info? e with|some i=>Nat.beq i.size sz|none=>false)
 |_=>false
theorem qZ{t:TypeId}{len e b:Nat}(h:uE P t len e b=true):P.underlying t=some (.array len e)/\∃i,P.info? e=some i/\i.size=b:=by
 unfold uE at h;split at h
 ·rename_i n j c;simp only[Aq]at h;have f:=Cb h.1.1;have d:=Cb h.1.2;subst f d;have a:=h.2;split at a
  ·rename_i i g;exact⟨c,i,g,Cb a⟩
  ·cases a
 ·cases h
theorem il{t:TypeId}{len e b:Nat}(D:uE P t len e b=true){x i v:AV}{y z:Value}{c:St}(L:BO I μ x y)(K:BO I μ i z)(h:Mh len b x i st=some (v,c)):c=st/\∃u,(Instr.indexAt t y z).run P w=.ok u w/\BO I μ v u:=by
 obtain⟨A,S,p,l⟩:=qZ D;unfold Mh at h;split at h
 ·rename_i n N;obtain⟨k,rfl⟩:=Ol K N;simp only[blt_eq,Ad,Aw]at h;split at h
  ·rename_i f;have d:∀(a:Addr),(Instr.indexAt t (.pointer (some a)) (.int k n)).run P w=.ok (.pointer (some (a.add (n*b)))) w:=by
    intro a;have s:(0:Int)<=n/\(n:Int)<len:=by omega
    simp[Instr.indexAt,asIntOf,BQ A,Result.andThen,FY p,l,Instr.sureAddr,f]
   cases L with
   |AL o H J B=>simp at h;obtain⟨m,g⟩:=h;subst m g;refine⟨rfl,_,d _,?_⟩;rw[GZ,Fg];exact .AL o _ J B
   |CB R r a q F s Q=>simp at h;obtain⟨m,g⟩:=h;subst m g;refine⟨rfl,_,d _,?_⟩;rw[GZ];refine .CB _ r _ (q.drop (n*b)) (fun j O=>?_) (s.drop _) (Q.drop _);simp at O;rw[Fg,F (n*b+j) (by omega)];simp
   |_=>simp at h
  ·cases h
 ·cases h
theorem getElem_mk(l:List UInt8)(n:Nat):(⟨⟨l⟩⟩:ByteArray)[n]? =l[n]?:=by
 by_cases h:n<l.length
 ·rw[getElem?_pos (⟨⟨l⟩⟩:ByteArray) n h,getElem?_pos l n h];rfl
 ·rw[getElem?_neg (⟨⟨l⟩⟩:ByteArray) n h,getElem?_neg l n h]
theorem ik{t:TypeId}(f:P.underlying t=some .string){x i v:AV}{c d:Value}{a:St}(m:BO I μ x c)(j:BO I μ i d)(h:IQ x i st=some (v,a)):a=st/\∃e,(Instr.index t c d).run P w=.ok e w/\BO I μ v e:=by
 unfold IQ at h;split at h
 ·rename_i n o;obtain⟨k,rfl⟩:=Ol j o;cases m with
  |str l=>
   simp only at h;split at h
   ·rename_i b g;cases h;refine⟨rfl,.int .u8 b.toNat,?_,.int _ _⟩;have:(if (0:Int)<=n then (⟨⟨l⟩⟩:ByteArray)[(n:Int).toNat]? else none)=some b:=by rw[AX (by omega),OL,getElem_mk,g]
    simp only[Instr.index,CJ,SY,Result.andThen,BQ f,this,Cs]
   ·cases h
  |_=>simp at h
 ·cases h
theorem uO(c:List Value)(a:Nat):∀(b:Array Value) (k i:Nat),a+k+c.length<=b.size ->
 ((c.zipIdx k).foldl (fun b x=>b.setIfInBounds (a+x.2) x.1) b).size=b.size /\
 ((c.zipIdx k).foldl (fun b x=>b.setIfInBounds (a+x.2) x.1) b)[i]? =if a+k<=i/\i<a+k+c.length then c[i-(a+k)]? else b[i]?:=by
 induction c with
 |nil=>intro b k i h;simp;intro e d;omega
 |cons v c f=>
  intro b k i h;simp at h;rw[List.zipIdx_cons,List.foldl_cons];obtain⟨e,d⟩:=f (b.setIfInBounds (a+k) v) (k+1) i (by simp;omega);refine⟨by rw[e];simp,?_⟩;rw[d];by_cases c1:a+(k+1)<=i/\i<a+(k+1)+c.length
  ·rw[AX c1,AX (by simp;omega)];rw[show i-(a+k)=i-(a+(k+1))+1 by omega];simp
  ·rw[AJ c1];by_cases c2:i=a+k
   ·subst c2;rw[AX (by simp),Array.getElem?_setIfInBounds];simp;omega
   ·rw[AJ (by simp;omega),TH (by omega)]
theorem uN(c:List Value)(a:Nat)(b:Array Value)(h:a+c.length<=b.size) :
 (c.zipIdx.foldl (fun b x=>b.setIfInBounds (a+x.2) x.1) b).toList=b.toList.take a++(c++b.toList.drop (a+c.length)):=by
 apply Kb;intro i;have:=(uO c a b 0 i (by omega)).2;rw[IW,this];simp only[IK];by_cases c1:i<a
 ·rw[AJ (by omega),Oo (by simp;omega),List.getElem?_take_of_lt c1,IW]
 ·rw[NV (by simp;omega)];simp only[Gv,Array.length_toList,Li (show a<=b.size by omega)];by_cases c2:i<a+c.length
  ·rw[AX (by omega),Oo (by omega)]
  ·rw[AJ (by omega),NV (by omega),QU,IW];congr 1;omega
theorem dS(place:Nat->Option (Nat×Nat)):∀(parts:List (Nat×Value)) (places:List (Nat×Nat)) (n d e:List AV) (a:Array Value),
 parts.map (fun p=>place p.1)=places.map some->BR I μ n (parts.map (·.2))->BR I μ d a.toList->One a.toList->Bp d places n=some e ->
 ∃b:Array Value,Instr.fill place a parts=some b/\BR I μ e b.toList/\One b.toList
 |[],[],n,d,e,a,_,m,r,o,h=>by cases m;simp[Bp]at h;subst h;exact⟨a,rfl,r,o⟩
 |[],_::_,_,_,_,_,k,_,_,_,_=>by simp at k
 |_::_,[],_,_,_,_,k,_,_,_,_=>by simp at k
 |(i,q)::parts,(c,size)::places,n,d,e,a,k,m,r,o,h=>by
  simp at k;obtain⟨s,w⟩:=k;cases m with
  |cons v _ l _ m A=>
   simp only[Bp,beq_eq,ble_eq,Ad,Aq,Aw]at h;split at h
   ·cases h
   rename_i t;split at h
   ·rename_i B;obtain⟨j,z,y,K⟩:=m.cells (by simpa using t);have J:=r.length;have u:=y.length;have F:q.cells.size=size:=by rw[←Array.length_toList,z,←u];exact B.1
    simp at J;have f:=uN j c a (by omega);have g:(decide (q.cells.size≠size)||decide (c+q.cells.size>a.size))=false:=by simp;omega
    obtain⟨b,H,D,L⟩:=dS place parts places l (Bl d c v.cells) e (j.zipIdx.foldl (fun d x=>d.setIfInBounds (c+x.2) x.1) a) w A
     (by rw[f];exact YD r y) (by rw[f];exact (o.take _).append (K.append (o.drop _))) h
    refine⟨b,?_,D,L⟩;rw[←H];have:q.cells.zipIdx.foldl (fun d x=>d.setIfInBounds (c+x.2) x.1) a=j.zipIdx.foldl (fun d x=>d.setIfInBounds (c+x.2) x.1) a:=by rw[←z,←Array.foldl_toList];simp
    simp only[Instr.fill,s];rw[AJ (by simpa using g)];rw[←this]
   ·cases h
def placesOf(P:Program):List Field->Option (List (Nat×Nat))
 |[]=>some []
 |f::fs=>match P.info? f.type with
  |some i=>match placesOf P fs with
   |some l=>some ((f.offset,i.size)::l)
   |none=>none
  |none=>none
def Sj(all:List (Nat×Nat)):List (Nat×Operand)->List (Nat×Nat)->Bool
 |[],[]=>true
 |(i,_)::l,p::ps=>(match all[i]? with|some q=>Nat.beq p.1 q.1&&Nat.beq p.2 q.2|none=>false)&&Sj all l ps
 |_,_=>false
def oZ(P:Program)(t:TypeId)(parts:List (Nat×Operand))(zero:List AV)(places:List (Nat×Nat)):Bool:=
 aD P t zero&&(match P.underlying t with
  |some (.struct fs)=>(match placesOf P fs.toList with|some all=>Sj all parts places|none=>false)
  |_=>false)
theorem run_places{a:List Field}{l:List (Nat×Nat)}(h:placesOf P a=some l)(w:World) :
 (a.mapM fun f=>(do let s ← sizeOf f.type;pure (f.offset,s):Sem (Nat×Nat))).run P w=.ok l w:=by
 induction a generalizing l with
 |nil=>simp[placesOf]at h;subst h;rfl
 |cons f a c=>
  simp only[placesOf]at h;split at h
  ·rename_i i d;split at h
   ·rename_i e b;cases h;have:=c b;simp only[List.mapM_cons,CJ,FY d,Result.andThen,Cs,this]
   ·cases h
  ·cases h
theorem YT{all:List (Nat×Nat)}:∀{parts:List (Nat×Operand)} {places:List (Nat×Nat)},Sj all parts places=true->parts.map (fun p=>all[p.1]?)=places.map some
 |[],[],_=>rfl
 |[],_::_,h=>by simp[Sj]at h
 |_::_,[],h=>by simp[Sj]at h
 |(i,x)::l,p::f,h=>by
  simp only[Sj,Aq]at h;obtain⟨a,b⟩:=h;split at a
  ·rename_i q c;rw[Aq]at a;have d:=Cb a.1;have e:=Cb a.2;simp only[Dh,c,YT b];rw[show q=p from Prod.ext d.symm e.symm]
  ·cases a
theorem ym{t:TypeId}{parts:List (Nat×Operand)}{zero j e:List AV}{places:List (Nat×Nat)}(g:oZ P t parts zero places=true){ρ:Operand->Value}(v:BR I μ j (parts.map fun p=>ρ p.2))(h:Bp zero places j=some e) :
 ∃k,(Instr.build t (parts.toArray.map fun (i,x)=>(i,ρ x))).run P w=.ok k w/\BO I μ (.agg e) k:=by
 unfold oZ at g;rw[Aq]at g;obtain⟨D,c⟩:=g;obtain⟨z,y,u,q⟩:=UN D;split at c
 ·rename_i o l;split at c
  ·rename_i all d;have m:=YT c;obtain⟨a,n,A,B⟩:=dS (I:=I) (μ:=μ) (all[·]?) (parts.map fun p=>(p.1,ρ p.2)) places j zero e z.cells (by rw[←m];simp) (by rw[Mv];exact v) u q h;refine⟨.agg a,?_,by simpa using BO.agg e a.toList A B⟩;have b:=run_places d w;have r:(o.mapM fun f=>(do let s ← sizeOf f.type;pure (f.offset,s):Sem (Nat×Nat))).run P w=.ok all.toArray w:=by rw[Array.mapM_eq_mapM_toList,Sem.run_map,b];rfl
   simp only[Instr.build,CJ,y,Result.andThen,BQ l,r];simp only[List.map_toArray,QX];rw[n];rfl
  ·cases c
 ·cases c
def SX(P:Program)(t:TypeId)(e sz len:Nat)(parts:List (Nat×Operand))(zero:List AV)(offs:List Nat):Bool:=
 Td P t e sz&&Nat.ble (len*sz) (2^24)&&(match P.info? e with
  |some i=>(match i.zero with
   |some z=>ZO zero ((List.range (len*sz)).map (z.cells[· % z.cells.size]!))&&wZ z.cells.toList&&!Nat.beq z.cells.size 0
   |none=>false)
  |none=>false)&&(parts.map (·.1)==offs)
theorem mod_one{z:Array Value}(c:One z.toList)(d:z.size≠0)(n:Nat):One ((List.range n).map (z[· % z.size]!)):=by intro v b;rw[BP]at b;obtain⟨i,_,rfl⟩:=b;have a:i % z.size<z.size:=Nat.mod_lt _ (by omega);rw[Jr z _ a];exact c _ (by simp)
theorem aB(H:CQ base w0 I μ st w){t:TypeId}{e b len o:Nat}{parts:List (Nat×Operand)}{zero s:List AV}{a:List Nat}(q:SX P t e b len parts zero a=true){ρ:Operand->Value}{v:AV}{ob:BJ}(hv:BR I μ s (parts.map fun p=>ρ p.2))(h:BC o e b len zero a s=some (v,ob))(W:AA st.h o=some ob)(K:μ o=none)(Y:o<st.c) :
 UI P base w0 I μ st w (some o) (Instr.buildSlice t len (parts.toArray.map fun (i,x)=>(i,ρ x))) v st:=by
 unfold SX at q;simp only[Aq]at q;obtain⟨⟨⟨T,S⟩,d⟩,u⟩:=q;obtain⟨Q,i,F,B⟩:=UE T;rw[F]at d;simp only at d;split at d
 ·rename_i z U;simp only[Aq]at d;obtain⟨⟨Z,r⟩,l⟩:=d;have r:=bY r;have l:z.cells.size≠0:=fun e=>by rw[e]at l;cases l
  have u:parts.map (·.1)=a:=by simpa using u
  unfold BC at h;simp only[blt_eq,beq_eq,Ad,Aw]at h;split at h
  ·rename_i j;split at h
   ·rename_i L D;split at h
    ·rename_i k;cases h;have n:BR I μ zero ((Array.range (len*b)).map (z.cells[· % z.cells.size]!)).toList:=by have:=SI (I:=I) (μ:=μ) Z;simpa using this
     have y:One ((Array.range (len*b)).map (z.cells[· % z.cells.size]!)).toList:=by have:=mod_one r l (len*b);simpa using this
     obtain⟨O,f,f2,f3⟩:=dS (I:=I) (μ:=μ) (fun i=>some (i*b,b)) (parts.map fun p=>(p.1,ρ p.2)) (a.map fun i=>(i*b,b)) s zero L _
      (by rw[←u];simp) (by rw[Mv];exact hv) n y D
     obtain⟨m,N⟩:=YN (P:=P) H W f2 f3 (rest:=[]) (fun _=>rfl) K Y;simp only[Fh,Array.toArray_toList]at m N;refine⟨.slice (some ⟨w.heap.size,0,none⟩) len len,_,_,?_,N,?_,JF K,?_,rfl,rfl⟩
     ·have J:¬(len*b>2^24):=by have:=ND S;omega
      have A:(zeroValue e).run P w=.ok z w:=by simp[zeroValue,typeInfo,F,U]
      simp only[List.map_toArray]at f⊢;simp only[Instr.buildSlice,CJ,BQ Q,Result.andThen,FY F,B,Sem.run_ite,AJ J,Cs,A];by_cases h0:len*b=0
      ·rw[AX h0];rw[h0]at f⊢;have R:∀g:Nat->Value,(Array.range 0).map g=#[]:=fun g=>by simp
       rw[R]at f⊢;rw[f];simp[m,Result.andThen]
      ·rw[AJ h0,f];simp[m,Result.andThen]
     ·exact .AU o 0 len (some len) ⟨w.heap.size,0,L.length,0,b⟩ _ len (by simp[Hm]) j ⟨rfl,by intro _;simp⟩ (Ao _) ⟨rfl,by simp[k]⟩
     ·intro p V;have:p≠o:=fun e=>V (by rw[e]);simp[Hm,this]
    ·cases h
   ·cases h
  ·cases h
 ·cases d
end
end Go.Am
namespace Go.Am
open Go Go.RowKit
variable {P:Program}
section
variable {base:Nat}{w0:Start}{I:HY}{μ:Mu}{st:St}{w:World}
theorem PU(H:CQ base w0 I μ st w){u n:Nat}{v:AV}{L:Value}{B:List AV}(l:BO I μ v L)(h:BS st.h u n v=some B) :
 ∃a,(Builtin.firstCells u n L).run P w=.ok a.toArray w/\BR I μ B a/\One a/\a.length=n*u:=by
 cases l with
 |AO=>
  simp only[BS,beq_eq,Ad,Aw]at h;split at h
  ·rename_i Q;cases h;subst Q;exact⟨[],by simp[Builtin.firstCells],.nil,(by intro v l;cases l),by simp⟩
  ·cases h
 |list tight d z r f cap a hI Z O l Y R=>
  simp only[BS,beq_eq,ble_eq,Ad,Aq,Aw]at h;split at h
  ·rename_i t;cases h;obtain⟨i,s⟩:=t;subst s;have F:=l.length;rw[PO z O]at F;have A:n*d<=z.length*d:=Im _ i;have e:(a.take (n*d)).length=n*d:=by simp;omega
   refine⟨a.take (n*d),?_,by rw[(Jm z O n).1];exact l.take _,Z.take _,e⟩;simp only[Builtin.firstCells];have key:=ME (P:=P) w ⟨r,f,none⟩ (a.take (n*d)) fun j v p=>by rw[GJ]at p;obtain⟨g,k⟩:=p;rw[GZ,H.PM _ _ _ (hI j (by simp at g;omega)),←k];simp
   rw[e]at key;exact key
  ·cases h
 |AU o f len cap J ad D K hz W A Y=>
  simp only[BS]at h;split at h
  ·rename_i ty d U ext hf;simp only[beq_eq,ble_eq,Ad,Aq,Aw]at h;split at h
   ·rename_i t;cases h;obtain⟨⟨i,s⟩,a0⟩:=t;subst i;obtain⟨V,c,fz,a,N,x,Q,he,S,T,a1,q,m,y⟩:=H.cells hf K;rw[K]at N;cases N;have F:=q.length;have e:((a.drop f).take (n*d)).length=n*d:=by simp;omega
    refine⟨(a.drop f).take (n*d),?_,(q.drop _).take _,(m.drop _).take _,e⟩;simp only[Builtin.firstCells];by_cases hn0:n=0
    ·subst hn0;simp[loadCells,loadCellsFrom]
    ·rw[W.2 (by omega)];have key:=ME (P:=P) w ⟨J.r,J.b+f,none⟩ ((a.drop f).take (n*d)) fun j v p=>by rw[GJ]at p;obtain⟨g,k⟩:=p;simp at g;rw[GZ,GV S,Fg,y (f+j) (by omega),←k];simp
     rw[e]at key;exact key
   ·cases h
  ·cases h
 |_=>simp[BS]at h
theorem iL{v:AV}{a:Value}{n:Nat}(b:BO I μ v a)(h:lenOf v=some n):(Builtin.lenOf a).run P w=.ok n w:=by cases b<;>simp[lenOf]at h<;>subst h<;>simp[Builtin.lenOf,size_mk]
theorem lZ(H:CQ base w0 I μ st w){o p O off:Nat}{F:List AV}{ext:Bool}(N:AA st.h o=some (.cells p O F ext)){a:Pl}(l:μ o=some a){rvs:List Value}(J:One rvs)(U:off+rvs.length<=a.n+a.e) :
 ∃q c f g,(storeCells ⟨a.r,a.b+off,none⟩ rvs).run P w=.ok () q/\ABX w q a/\w.heap[a.r]? =some (.cells c p g)/\q.heap[a.r]? =some (.cells f p g)/\f.size=c.size/\a.fin<=c.size /\
  (∀i,a.b<=i->i<a.fin->¬(g.1<=i/\i<g.2))/\(∀i,(i<a.b+off∨a.b+off+rvs.length<=i)->f[i]? =c[i]?)/\(∀(j:Nat) (h:j<rvs.length),f[a.b+off+j]? =some rvs[j]):=by
 obtain⟨S,c,g,V,t,L,Y,Z,d,B,m,K,v,hc⟩:=H.cells N l;rw[l]at t;cases t;have u:a.fin=a.b+a.n+a.e:=rfl;obtain⟨f,x,s,y,T⟩:=Oc a.r rvs (a.b+off) w c d;refine⟨w.setCells a.r (a.b+off) rvs,c,f,g,?_,?_,d,x,s,B,m,y,T (by omega)⟩
 ·refine run_storeCells_cells a.r (a.b+off) rvs 0 w (fun j R=>?_) (fun j R=>?_) J
  ·rw[GV d,MO (by omega)];rfl
  ·rw[Nb d];simp only[Ji];exact m _ (by omega) (by omega)
 ·obtain⟨A,Q,z⟩:=PW a.r rvs (a.b+off) w;refine⟨A,Q,z,PV _ _ _ _,fun k D=>Ob _ _ _ _ k D,.inl ⟨c,f,p,g,d,x,s,fun i W=>y i ?_⟩⟩;omega
theorem ag(n:Nat):∀r c,Builtin.growBy n r c<=max c (n+(n+768) / 4)
 |0,c=>by simp[Builtin.growBy];omega
 |r+1,c=>by
  simp only[Builtin.growBy];split
  ·omega
  ·have:=ag n r (c+(c+768) / 4);omega
theorem mo{n c:Nat}(h:c<n):Builtin.nextslicecap n c<=2*n+192:=by
 unfold Builtin.nextslicecap;split
 ·omega
 ·split
  ·omega
  ·have:=ag n 4 c;omega
def Jn(P:Program)(t:TypeId)(e sz bytes:Nat):Bool:=
 match P.underlying t with
 |some (.slice e')=>Nat.beq e' e&&(match P.info? e with
  |some i=>Nat.beq i.size sz&&Nat.beq i.bytes bytes&&(match i.zero with|some z=>Nat.beq z.cells.size sz&&wZ z.cells.toList|none=>false)
  |none=>false)
 |_=>false
theorem Nn{t:TypeId}{e b bytes:Nat}(h:Jn P t e b bytes=true):P.underlying t=some (.slice e)/\∃i z,P.info? e=some i/\i.size=b/\i.bytes=bytes/\i.zero=some z/\z.cells.size=b/\One z.cells.toList:=by
 unfold Jn at h;split at h
 ·rename_i k c;rw[Aq]at h;have:=Cb h.1;subst this;have h:=h.2;split at h
  ·rename_i i g;simp only[Aq]at h;obtain⟨⟨f,d⟩,a⟩:=h;split at a
   ·rename_i z j;rw[Aq]at a;exact⟨c,i,z,g,Cb f,Cb d,j,Cb a.1,bY a.2⟩
   ·cases a
  ·cases h
 ·cases h
theorem Xm(z:Array Value)(n:Nat):(Builtin.zeroCells z n).size=n*z.size:=by simp[Builtin.zeroCells]
theorem WX{t O:TypeId}{e s bytes len d n:Nat}(T:Jn P t e s bytes=true){v:TypeDesc}(hx:P.underlying O=some v)(L:∀k,v≠.int k){a:Option Addr}{I:Value}{g j:List Value}(p:(Builtin.lenOf I).run P w=.ok n w)(q:∀W:World,(∀b,b<w.heap.size->W.heap[b]? =w.heap[b]?)->(Builtin.firstCells s n I).run P W=.ok j.toArray W)(m:∀W:World,(∀b,b<w.heap.size->W.heap[b]? =w.heap[b]?)->(Builtin.firstCells s len (.slice a len d)).run P W=.ok g.toArray W)(o:d<len+n)(a2:(len+n)*bytes<=2^40)(a1:len+n<=2^40) :
 ∃(c:Nat) (rest:List Value),len+n<=c/\rest.length=(c-(len+n))*s/\(Builtin.append_ #[t,O] t #[.slice a len d,I]).run P w =
  ((newRow e (g++j++rest).toArray).run P w.drew).andThen (fun V R=>.ok (.slice (some V) (len+n) c) R):=by
 obtain⟨Q,i,z,u,F,H,Y,K,U⟩:=Nn T;have S:(match v with|.int _=>true|_=>false)=false:=by cases v<;>first|rfl|exact absurd rfl (L _)
 refine⟨(Question.appendCap (len+n) d e).cut (w.tape w.drawn (Question.appendCap (len+n) d e)),(Builtin.zeroCells z.cells ((Question.appendCap (len+n) d e).cut (w.tape w.drawn (Question.appendCap (len+n) d e))-(len+n))).toList,?_,?_,?_⟩
 ·simp[Question.cut]
 ·simp[Xm,K]
 ·have y:¬(len+n<=d):=by omega
  have J:¬(((len+n:Nat):Int)>IntKind.i64.max/\(False∨i.bytes=0)):=by
   have:IntKind.i64.max=9223372036854775807:=by decide
   rintro⟨h,_⟩;omega
  have B:¬(Builtin.nextslicecap (len+n) d*i.bytes>2^48):=by
   have A:=mo o;have N:Builtin.nextslicecap (len+n) d*i.bytes<=(2*(len+n)+192)*i.bytes:=Im _ A;have h3:i.bytes<=(len+n)*i.bytes:=Nat.le_mul_of_pos_left _ (by omega);rw[H]at *
   have h4:(2*(len+n)+192)*bytes=2*((len+n)*bytes)+192*bytes:=by rw[Hq,Nat.mul_assoc]
   omega
  have a0:(typeInfo e).run P w=.ok i w:=by simp[typeInfo,u]
  have r:∀W,(typeInfo e).run P W=.ok i W:=fun W=>by simp[typeInfo,u]
  have D:∀W,(zeroValue e).run P W=.ok z W:=fun W=>by simp[zeroValue,typeInfo,u,Y]
  have l:=fun W=>FY u W;have f:(Question.appendCap (len+n) d e).forced=false:=rfl;have A:=m w.drew (fun _ _=>rfl);have N:=q w.drew (fun _ _=>rfl);rw[F]at l;simp only[Builtin.append_,QX,OU,OT,CJ,BQ Q,BQ hx,Dj,l,Cs,GA,Dn,p,
   Sem.run_ite,AJ y,r]
  rw[AJ J,AJ B];simp only[run_choose,f,GA,Dn,Dj,run_askRoom,World.drew_eq,A,N,Bool.not_false,FC,D];have Z:∀(x:Array Value),(g++j++x.toList).toArray=g.toArray++j.toArray++x:=fun x=>by simp
  rw[Z]
theorem AAm(H:CQ base w0 I μ st w){a s:St}{o L j bytes len n c:Nat}{f g:List AV}{b d rest:List Value}{v:AV}(i:a={ st with h:=a.h })(u:∀p x,AA a.h p=some x->AA st.h p=some x)(r:BR I μ f b)(J:One b)(m:BR I μ g d)(B:One d)(F:b.length=len*j)(z:d.length=n*j)(A:0<j)(h:grow o L j bytes len n (f++g) a=some (v,s))(K:μ o=none)(T:o<st.c)(V:len+n<=c)(k:rest.length=(c-(len+n))*j) :
 ∃y ν rv,((newRow L (b++d++rest).toArray).run P w.drew).andThen (fun R y=>(.ok (.slice (some R) (len+n) c) y:Result Value))=.ok rv y/\ed base w0 I μ st (some o) ν s y v rv:=by
 unfold grow at h;simp only[ble_eq,Ad,Aq,Aw]at h;split at h
 ·split at h
  ·rename_i Q D;cases h;have N:CQ base w0 I μ a w:=by rw[i];exact H.ABu u
   have l:a.c=st.c:=by rw[i]
   have t:a.lo=st.lo:=by rw[i]
   obtain⟨O,U⟩:=sj (P:=P) N.drew D (r.append m) (J.append B) (rest:=rest) (fun h=>by cases h) K (by rw[l];exact T);refine⟨_,_,_,by rw[O];rfl,U,?_,JF K,fun p S=>?_,by rw[(Wu D).1,l],by rw[(Wu D).2,t]⟩
   ·have q:(f++g).length=(len+n)*j:=by rw[(r.append m).length,Bd,F,z,Hq]
    refine .AU o 0 (len+n) none ⟨w.drew.heap.size,0,(f++g).length,rest.length,j⟩ _ c (by simp[Hm]) A ⟨rfl,by intro _;simp⟩ V ⟨CZ _,?_⟩;simp only[q,k,OJ];rw[←Hq];congr 1;omega
   ·have:p≠o:=fun e=>S (by rw[e]);simp[Hm,this]
  ·cases h
 ·cases h
end
end Go.Am
namespace Go.Am
open Go Go.RowKit
variable {P:Program}
section
variable {base:Nat}{w0:Start}{I:HY}{μ:Mu}{st:St}{w:World}
theorem Ng{t r:TypeId}{e m bytes len rcap n:Nat}(v:Jn P t e m bytes=true){j:TypeDesc}(B:P.underlying r=some j)(p:∀k,j≠.int k){a:Option Addr}{o:Value}{h:List Value}(f:(Builtin.lenOf o).run P w=.ok n w)(g:(Builtin.firstCells m n o).run P w=.ok h.toArray w)(d:len+n<=rcap){w':World}(b:match a with|some q=>(storeCells (q.add (len*m)) h).run P w=.ok () w'|none=>w'=w) :
 (Builtin.append_ #[t,r] t #[.slice a len rcap,o]).run P w=.ok (.slice a (len+n) rcap) w':=by
 obtain⟨s,i,z,A,l,y,F,D,x⟩:=Nn v;have u:(match j with|.int _=>true|_=>false)=false:=by cases j<;>first|rfl|exact absurd rfl (p _)
 have c:=fun W=>FY A W;rw[l]at c;simp only[Builtin.append_,QX,OU,OT,CJ,BQ s,BQ B,Dj,c,Cs,GA,Dn,f,
  Sem.run_ite,AX d,g,Bool.not_false,FC]
 cases a with
 |none=>simp only at b;subst b;rfl
 |some q=>simp only at b;simp only[CJ,b,Dj,Cs]
theorem Ra(H:CQ base w0 I μ st w){t xt:TypeId}{e sz bytes o n:Nat}(ht:Jn P t e sz bytes=true){dx:TypeDesc}(hx:P.underlying xt=some dx)(Z:∀k,dx≠.int k){x v:AV}{rx ry:Value}{N:List AV}{f:List Value}{s:St}(b1:BO I μ x rx)(F:(Builtin.lenOf ry).run P w=.ok n w)(a3:∀W:World,(∀b,b<w.heap.size->W.heap[b]? =w.heap[b]?)->(Builtin.firstCells sz n ry).run P W=.ok f.toArray W)(T:BR I μ N f)(a1:One f)(a5:f.length=n*sz)(h:CX o e sz bytes x n N st=some (v,s))(hμ:μ o=none)(ho:o<st.c)(c0:st.lo<=o):UI P base w0 I μ st w (some o) (Builtin.append_ #[t,xt] t #[rx,ry]) v s:=by
 unfold CX at h;simp only[beq_eq,Ad,Aw]at h;split at h
 ·cases h
 rename_i d3;have J:0<sz:=by omega
 have D:=a3 w (fun _ _=>rfl);have stay:∀{a:Option Addr} {len rcap:Nat},rx=.slice a len rcap->n=0->len<=rcap->v=x->s=st->UI P base w0 I μ st w (some o) (Builtin.append_ #[t,xt] t #[rx,ry]) v s:=by
  intro a len rcap a7 g b4 hv hs;subst hv hs a7;have c7:f=[]:=Gn (by rw[a5,g];simp);refine UI.stay H (rv:=.slice a len rcap) ?_ b1;have:=Ng (P:=P) (w:=w) (w':=w) ht hx Z (a:=a) (len:=len) (rcap:=rcap) F D (by omega) (by
   cases a with
   |none=>rfl
   |some ad=>rw[c7];rfl)
  rw[g]at this;exact this
 have fresh:∀{a:Option Addr} {len rcap:Nat} {CY:List AV} {rold:List Value} {st0:St},rx=.slice a len rcap->st0={ st with h:=st0.h }->(∀p x,AA st0.h p=some x->AA st.h p=some x) ->
  BR I μ CY rold->One rold->rold.length=len*sz->(∀W:World,(∀b,b<w.heap.size->W.heap[b]? =w.heap[b]?)->(Builtin.firstCells sz len (.slice a len rcap)).run P W=.ok rold.toArray W) ->
  rcap<len+n->grow o e sz bytes len n (CY++N) st0=some (v,s)->UI P base w0 I μ st w (some o) (Builtin.append_ #[t,xt] t #[rx,ry]) v s:=by
  intro a len rcap CY rold st0 a7 c4 b7 c8 c5 b8 K b2 hg;subst a7;have hb:(len+n)*bytes<=2^40/\len+n<=2^40:=by
   unfold grow at hg;simp only[ble_eq,Ad,Aq,Aw]at hg;split at hg
   ·assumption
   ·cases hg
  obtain⟨c,rest,c1,c2,c3⟩:=WX (P:=P) (w:=w) ht hx Z F a3 K b2 hb.1 hb.2;obtain⟨w',ν,rv,g1,g2⟩:=AAm (P:=P) H c4 b7 c8 c5 T a1 b8 a5 J hg hμ ho c1 c2;exact⟨rv,w',ν,by rw[c3];exact g1,g2⟩
 cases b1 with
 |AO=>
  simp only at h;split at h
  ·rename_i g;cases h;exact stay rfl g (Ao _) rfl rfl
  ·rename_i g;exact fresh (a:=none) (len:=0) (rcap:=0) (CY:=[]) (rold:=[]) (st0:=st) rfl rfl (fun _ _ h=>h) .nil (by intro v hv;cases hv) (by simp) (fun W hW=>by simp[Builtin.firstCells]) (by omega) h
 |list tight d xs r off cap rvs hI h1 hs hv hc c6=>
  simp only at h;split at h
  ·rename_i g;cases h;exact stay rfl g hc rfl rfl
  ·rename_i g;simp only[Aq,Aw]at h;split at h
   ·rename_i hb;obtain⟨a9,R⟩:=hb;have R:=Cb (by simpa [beq_eq]using R);subst R;have hl:=hv.length;rw[PO xs hs]at hl;refine fresh (a:=some ⟨r,off,none⟩) (len:=xs.length) (rcap:=cap) (CY:=xs.flatMap AV.cells) (rold:=rvs) (st0:=st) rfl rfl (fun _ _ h=>h) hv h1 hl.symm (fun W hW=>?_) (by have:=c6 a9;omega) h;simp only[Builtin.firstCells];have key:=ME (P:=P) W ⟨r,off,none⟩ rvs fun j v hj=>by rw[GJ]at hj;obtain⟨a4,b0⟩:=hj;have:=H.PM _ _ _ (hI j a4);rw[GZ,TC (w:=w) (hW r (Qa _ _ this)),this,b0]
    rw[←hl]at key;exact key
   ·cases h
 |AU oo off len cap m ad rcap A U ha b4 hc=>
  simp only at h;split at h
  ·rename_i g;cases h;exact stay rfl g b4 rfl rfl
  ·rename_i g;unfold GG at h;split at h
   ·rename_i a0 d cs ext hf;simp only[beq_eq,ble_eq,Ad,Aq,Aw]at h;split at h
    ·rename_i hb;obtain⟨⟨a9,R⟩,d9⟩:=hb;subst a9 R;obtain⟨pl',c,fz,rvs,g1,a8,hn,he,hw,d7,d8,Q,O,b6⟩:=H.cells hf A;rw[A]at g1;cases g1;have hl:=Q.length;have d5:0<n*d:=Nat.mul_pos (by omega) J;have b5:(len+n)*d=len*d+n*d:=Hq _ _ _;have K:∀W:World,(∀b,b<w.heap.size->W.heap[b]? =w.heap[b]?)->(Builtin.firstCells d len (.slice (some ad) len rcap)).run P W=.ok ((rvs.drop off).take (len*d)).toArray W:=by
      intro W hW;simp only[Builtin.firstCells];by_cases hl0:len=0
      ·subst hl0;simp[loadCells,loadCellsFrom]
      ·rw[ha.2 (by omega)];have a6:((rvs.drop off).take (len*d)).length=len*d:=by simp;omega
       have c9:W.heap[m.r]? =some (.cells c a0 fz):=(hW m.r (NT hw)).trans hw;have key:=ME (P:=P) W ⟨m.r,m.b+off,none⟩ ((rvs.drop off).take (len*d)) fun j v hj=>by rw[GJ]at hj;obtain⟨a4,b0⟩:=hj;simp at a4;rw[GZ,GV c9,Fg,b6 (off+j) (by omega),←b0];simp
       rw[a6]at key;exact key
     have u:∀{L:St},CO st oo (off+len*d) N=some L->len+n<=rcap->v=.AU oo off (len+n) cap->s=L ->
      UI P base w0 I μ st w (some o) (Builtin.append_ #[t,xt] t #[.slice (some ad) len rcap,ry]) v s:=by
      intro L B q hv hs;subst hv hs;have V:=ha.2 (by omega);obtain⟨w',e1,e2⟩:=Rj (P:=P) H A T a1 B;refine⟨.slice (some ad) (len+n) rcap,w',μ,?_,e2,?_,fun _ _ h=>h,fun _ _=>rfl,(Gs B).1,(Gs B).2⟩
      ·refine Ng ht hx Z F D q ?_;show (storeCells (ad.add (len*d)) f).run P w=.ok () w';rw[V,GZ,Fg];exact e1
      ·exact .AU oo off (len+n) cap m ad rcap A U ha q hc
     split at h
     ·rename_i cc;unfold VQ at hc;obtain⟨d2,b3⟩:=hc;split at h
      ·rename_i q;split at h
       ·rename_i L B;cases h;exact u B (by omega) rfl rfl
       ·cases h
      ·rename_i q;exact fresh (st0:=st) rfl rfl (fun _ _ h=>h) ((Q.drop _).take _) ((O.drop _).take _) (by simp;omega) K (by omega) h
     ·unfold VQ at hc;obtain⟨d2,b3⟩:=hc;rw[a8]at b3 U;split at h
      ·rename_i q;split at h
       ·rename_i L B;cases h;refine u B ?_ rfl rfl;have:(len+n)*d<=rcap*d:=by omega
        exact WZ this J
       ·cases h
      ·rename_i q;split at h
       ·rename_i a2;obtain⟨a2,b9⟩:=a2;by_cases hroom:len+n<=rcap
        ·have V:=ha.2 (by omega);have S:m.fin=m.b+m.n+m.e:=rfl;have d4:(len+n)*d<=rcap*d:=Im _ hroom;obtain⟨w',c1,d0,e0,e1,hT,e2,e3,e4,e5,e6,e7,e8⟩:=lZ (P:=P) H hf A (off:=off+len*d) (rvs:=f) a1 (by omega);rw[hw]at e2;cases e2;unfold grow at h;simp only[ble_eq,Ad,Aq,Aw]at h;split at h
         ·split at h
          ·rename_i L Y;cases h;unfold BA at Y;split at Y
           ·rename_i h' hp;cases Y;have d6:oo≠o:=fun e=>by subst e;rw[hμ]at A;cases A
            have l:((rvs.drop off).take (len*d)).length=len*d:=by simp;omega
            have d1:((cs.drop off).take (len*d)++N).length=(len+n)*d:=by rw[Bd,((Q.drop off).take (len*d)).length,l,T.length,a5,b5]
            have hW:=H.ACI (o:=oo) (o':=o) (x:=.cells a0 d cs ext) (y:=.cells a0 d ((cs.drop off).take (len*d)++N) true) (h':=h') (c':=st.c)
             (pl':=⟨m.r,m.b+off,(len+n)*d,m.fin-(m.b+off+(len+n)*d),d⟩) (ν:=Hm μ o ⟨m.r,m.b+off,(len+n)*d,m.fin-(m.b+off+(len+n)*d),d⟩)
             hf b9 c0 A hT (.inr ⟨rfl,hμ,ho⟩) (Ao _) rfl (by simp) (by simp only[Pl.fin]at S⊢;omega)
             (fun p z U=>by
              rw[LD hp,Gz]at U
              by_cases e1:o=p
              ·simp[e1]at U;exact .inl ⟨e1.symm,U.symm⟩
              ·simp[e1]at U
               exact .inr ⟨Aj e1,Aj U.1,U.2⟩)
             (.cells a0 d _ true d0 fz ((rvs.drop off).take (len*d)++f) rfl d1.symm (by intro h;cases h) e3 (by simp only[Pl.fin]at S e5 ⊢;omega)
              (fun i h1 h2=>e6 i (by simp only at h1;omega) (by simp only[Pl.fin]at h2 S ⊢;omega))
              ((((Q.drop _).take _).append T).mono (HY.le_refl I) (JF hμ)) (((O.drop _).take _).append a1) (fun i hi=>by
               simp only[Bd,l]at hi
               by_cases hi1:i<len*d
               ·rw[e7 _ (by simp only;omega),IX (by rw[l];exact hi1)]
                rw[Fg,b6 (off+i) (by omega)]
                simp
               ·have:=e8 (i-len*d) (by omega)
                rw[Oq (by rw[l];omega)]
                simp only[l]
                rw[←this]
                congr 1
                omega))
            refine⟨.slice (some ad) (len+n) rcap,w',_,?_,hW,?_,JF hμ,fun p hp=>?_,rfl,rfl⟩
            ·refine Ng ht hx Z F D hroom ?_;show (storeCells (ad.add (len*d)) f).run P w=.ok () w';rw[V,GZ,Fg];exact e1
            ·refine .AU o 0 (len+n) none ⟨m.r,m.b+off,(len+n)*d,m.fin-(m.b+off+(len+n)*d),d⟩ ad rcap (by simp[Hm]) J ⟨ha.1,by intro _;rw[V];simp⟩ hroom ⟨CZ _,?_⟩;simp only[OJ];omega
            ·have:p≠o:=fun e=>hp (by rw[e]);simp[Hm,this]
           ·cases Y
          ·cases h
         ·cases h
        ·exact fresh (st0:={ st with h:=Jv st.h oo }) rfl rfl (fun p y h=>by
          rw[Gz]at h;split at h
          ·cases h
          ·exact h) ((Q.drop _).take _) ((O.drop _).take _) (by simp;omega) K (by omega) h
       ·cases h
    ·cases h
   ·cases h
 |_=>simp at h
end
end Go.Am
namespace Go.Am
open Go Go.RowKit
variable {P:Program}
section
variable {base:Nat}{w0:Start}{I:HY}{μ:Mu}{st:St}{w:World}
theorem WJ{B n:Nat}{v:AV}{L:Value}{l:List Value}(H:CQ base w0 I μ st w){cs:List AV}(S:BO I μ v L)(g:BS st.h B n v=some cs)(h:(Builtin.firstCells B n L).run P w=.ok l.toArray w)(hl:l.length=n*B)(W:World)(A:∀b,b<w.heap.size->W.heap[b]? =w.heap[b]?):(Builtin.firstCells B n L).run P W=.ok l.toArray W:=by
 cases S with
 |AO=>simp[Builtin.firstCells]at h⊢;exact h
 |list tight d Q r f cap a Z h1 hs S s a1=>
  have H':∀(i:Nat) (h:i<a.length),W.cell? ⟨r,f+i,none⟩=some a[i]:=fun i R=>by have:=H.PM _ _ _ (Z i R);rw[TC (w:=w) (A r (Qa _ _ this)),this]
  simp only[BS,beq_eq,ble_eq,Ad,Aq,Aw]at g;split at g
  ·rename_i F;obtain⟨p,x⟩:=F;subst x;have y:=S.length;rw[PO Q hs]at y;have T:n*d<=Q.length*d:=Im _ p;have k:(a.take (n*d)).length=n*d:=by simp;omega
   have key:∀W:World,(∀(i:Nat) (h:i<a.length),W.cell? ⟨r,f+i,none⟩=some a[i])->(Builtin.firstCells d n (.slice (some ⟨r,f,none⟩) Q.length cap)).run P W=.ok (a.take (n*d)).toArray W:=by
    intro W O;simp only[Builtin.firstCells];have key:=ME (P:=P) W ⟨r,f,none⟩ (a.take (n*d)) fun j v z=>by rw[GJ]at z;obtain⟨m,q⟩:=z;rw[GZ,O j (by simp at m;omega),←q];simp
    rw[k]at key;exact key
   have t:=key w (fun i R=>H.PM _ _ _ (Z i R));rw[h]at t;have e:l.toArray=(a.take (n*d)).toArray:=by injection t
   rw[e];exact key W H'
  ·cases g
 |AU o f len cap D ad u U hz ha T V=>
  simp only[BS]at g;split at g
  ·rename_i ty d a3 ext hf;simp only[beq_eq,ble_eq,Ad,Aq,Aw]at g;split at g
   ·rename_i F;cases g;obtain⟨⟨p,x⟩,a5⟩:=F;subst p;obtain⟨a4,c,fz,a,Y,J,hn,he,N,a2,a6,K,a0,s⟩:=H.cells hf U;rw[U]at Y;cases Y;have y:=K.length;have k:((a.drop f).take (n*d)).length=n*d:=by simp;omega
    have key:∀W:World,W.heap[D.r]? =some (.cells c ty fz)->(Builtin.firstCells d n (.slice (some ad) len u)).run P W=.ok ((a.drop f).take (n*d)).toArray W:=by
     intro W A;simp only[Builtin.firstCells];by_cases hn0:n=0
     ·subst hn0;simp[loadCells,loadCellsFrom]
     ·rw[ha.2 (by omega)];have key:=ME (P:=P) W ⟨D.r,D.b+f,none⟩ ((a.drop f).take (n*d)) fun j v z=>by rw[GJ]at z;obtain⟨m,q⟩:=z;simp at m;rw[GZ,GV A,Fg,s (f+j) (by omega),←q];simp
      rw[k]at key;exact key
    have t:=key w N;rw[h]at t;have e:l.toArray=((a.drop f).take (n*d)).toArray:=by injection t
    rw[e];exact key W ((A D.r (NT N)).trans N)
   ·cases g
  ·cases g
 |_=>simp[BS]at g
theorem vC(H:CQ base w0 I μ st w){t l:TypeId}{e j bytes o:Nat}(A:Jn P t e j bytes=true){r:TypeDesc}(D:P.underlying l=some r)(g:∀k,r≠.int k){x y v:AV}{m p:Value}{d:St}(i:BO I μ x m)(b:BO I μ y p)(h:Bq o e j bytes x y st=some (v,d))(s:μ o=none)(u:o<st.c)(f:st.lo<=o) :
 UI P base w0 I μ st w (some o) (Builtin.append_ #[t,l] t #[m,p]) v d:=by
 unfold Bq at h;split at h
 ·cases h
 ·split at h
  ·rename_i n F;split at h
   ·rename_i J a;obtain⟨K,L,z,B,q⟩:=PU (P:=P) H b a;exact Ra H A D g i (iL b F) (WJ H b a L q) z B q h s u f
   ·cases h
  ·cases h
theorem XB(l:List UInt8):BR I μ (IY l) (l.map fun b=>.int .u8 b.toNat):=by
 induction l with
 |nil=>exact .nil
 |cons b l a=>exact .cons _ _ _ _ (.int _ _) a
theorem ji(l:List UInt8):One (l.map fun b=>(.int .u8 b.toNat:Value)):=fun v a=>by rw[BP]at a;obtain⟨b,_,rfl⟩:=a;rfl
theorem YE(n:Nat)(l:List UInt8)(a:n=l.length)(W:World):(Builtin.firstCells 1 n (.string ⟨⟨l⟩⟩)).run P W=.ok (l.map fun b=>(.int .u8 b.toNat:Value)).toArray W:=by subst a;simp only[Builtin.firstCells,Cs];congr 1;apply Ld;simp[ByteArray.data_extract]
theorem eO(H:CQ base w0 I μ st w){t g:TypeId}{e o:Nat}(q:Jn P t e 1 1=true)(r:P.underlying g=some .string){x y v:AV}{i j:Value}{a:St}(d:BO I μ x i)(f:BO I μ y j)(h:NN o e x y st=some (v,a))(m:μ o=none)(p:o<st.c)(b:st.lo<=o) :
 UI P base w0 I μ st w (some o) (Builtin.append_ #[t,g] t #[i,j]) v a:=by
 unfold NN at h;split at h
 ·rename_i l;cases f;exact Ra H q r (fun k s=>by cases s) d (n:=l.length) (by simp[Builtin.lenOf,size_mk]) (fun W _=>YE _ l rfl W) (XB l) (ji l) (by simp) h m p b
 ·cases h
theorem Ql{zero:List AV}{a:List Value}(h:BR I μ zero a):∀n,BR I μ (FZ zero n) ((List.range n).flatMap fun _=>a)
 |0=>.nil
 |n+1=>by rw[List.range_succ_eq_map,Cn,Ll];exact h.append (Ql h n)
theorem Vj(z:Array Value)(n:Nat):(List.range (n*z.size)).map (z[· % z.size]!)=(List.range n).flatMap fun _=>z.toList:=by
 induction n with
 |zero=>simp
 |succ n a=>
  rw[Lh,KH,←a,Il,List.range_add,Hf];congr 1;simp only[Cn,List.flatMap_nil,Fh,Mv];apply Kb;intro i;by_cases hi:i<z.size
  ·simp[hi,Nat.mod_eq_of_lt hi,Jr]
  ·simp[hi]
theorem gN{b:List Value}(h:One b)(n:Nat):One ((List.range n).flatMap fun _=>b):=fun v a=>by rw[Ka]at a;obtain⟨_,_,a⟩:=a;exact h v a
def QB(P:Program)(t:TypeId)(e sz bytes:Nat)(zero:List AV):Bool:=Jn P t e sz bytes&&aD P e zero
theorem mr(H:CQ base w0 I μ st w){t:TypeId}{e j bytes o:Nat}{zero:List AV}(r:QB P t e j bytes zero=true){l c v:AV}{T U:Value}{ob:BJ}(hl:BO I μ l T)(hc:BO I μ c U)(h:Dy o e j bytes zero l c=some (v,ob))(hf:AA st.h o=some ob)(Q:μ o=none)(ho:o<st.c):UI P base w0 I μ st w (some o) (Instr.makeSlice t T U) v st:=by
 unfold QB at r;rw[Aq]at r;obtain⟨V,i,z,K,A,B,hz,d,Z⟩:=Nn r.1;obtain⟨f,S,R,z3⟩:=UN r.2;have:f=z:=by have:=S w;simp[zeroValue,typeInfo,K,hz]at this;exact this.symm
 subst this;unfold Dy at h;split at h
 ·rename_i n hn;obtain⟨k1,rfl⟩:=Ol hl hn;split at h
  ·rename_i m hm;obtain⟨k2,rfl⟩:=Ol hc hm;simp only[ble_eq,blt_eq,beq_eq,Ad,Aq,Aw]at h;split at h
   ·rename_i Y;obtain⟨⟨⟨⟨N,k⟩,O⟩,L⟩,a0⟩:=Y;cases h;have b:room=2^40:=rfl;rw[b]at k O;obtain⟨q,r2⟩:=YN (P:=P) (rvs:=(List.range m).flatMap fun _=>f.cells.toList) H hf (Ql R m) (gN z3 m) (rest:=[]) (fun _=>rfl) Q ho;have J:IntKind.i64.wrap (n:Int)=n:=IntWalk.i64_in _ (by omega);have u:IntKind.i64.wrap (m:Int)=m:=IntWalk.i64_in _ (by omega);have F:(typeInfo e).run P w=.ok i w:=by simp[typeInfo,K]
    have D:¬((m:Int)<0||(i.bytes:Int)*m>2^48)=true:=by
     have:i.bytes*m<=2^40:=by rw[B,Nat.mul_comm];exact k
     have h2:(i.bytes:Int)*m<=2^40:=by exact_mod_cast this
     simp;omega
    have s:j≠0:=by omega
    have a:(Array.range (m*j)).map (f.cells[· % f.cells.size]!)=((List.range m).flatMap fun _=>f.cells.toList).toArray:=by apply Ld;have:=Vj f.cells m;rw[d]at this;simpa [d]using this
    refine⟨.slice (some ⟨w.heap.size,0,none⟩) n m,_,_,?_,r2,?_,JF Q,?_,rfl,rfl⟩
    ·simp only[Fh]at q⊢;simp only[Instr.makeSlice,asInt,CJ,BQ V,Dj,SY,Cs,F,J,u];have y:((((m:Int)<0||(i.bytes:Int)*m>2^48)||((n:Int)<0))||((n:Int)>m))=false:=by simp at D⊢;omega
     rw[AJ (by rw[y];exact Bool.false_ne_true)];simp only[CJ,run_askRoom,Dj,FY K,A,OL,Sem.run_ite,Cs,S];by_cases h0:m*j=0
     ·rw[AX h0];have x:m=0:=by
       rcases Nat.mul_eq_zero.1 h0 with h|h
       ·exact h
       ·exact absurd h s
      subst x;simp only[La];have W:∀g:Nat->Value,(Array.range 0).map g=#[]:=fun g=>by simp
      rw[W];simp only[List.range_zero,List.flatMap_nil]at q⊢;rw[q];rfl
     ·rw[AJ h0,a,q];rfl
    ·exact .AU o 0 n (some m) ⟨w.heap.size,0,(FZ zero m).length,0,j⟩ _ m (by simp[Hm]) L ⟨rfl,by intro _;simp⟩ N ⟨rfl,by rw[(Ql (R (I:=I) (μ:=μ)) m).length,←Vj];simp[d]⟩
    ·intro p hp;have:p≠o:=fun e=>hp (by rw[e]);simp[Hm,this]
   ·cases h
  ·cases h
 ·cases h
end
end Go.Am
namespace Go.Am
open Go Go.RowKit
variable {P:Program}
section
variable {base:Nat}{w0:Start}{I:HY}{μ:Mu}{st:St}{w:World}
theorem ed.write{a:St}{b:World}(H:CQ base w0 I μ a b){v:AV}{d:Value}(f:BO I μ v d)(g:a.c=st.c)(e:a.lo=st.lo){o:Option Nat}:ed base w0 I μ st o μ a b v d:=
 ⟨H,f,fun _ _ h=>h,fun _ _=>rfl,g,e⟩
theorem AA6(H:CQ base w0 I μ st w){t J:TypeId}{e F:Nat}(O:Td P t e F=true){d y v:AV}{A z:Value}{m:St}(K:BO I μ d A)(u:BO I μ y z)(h:Qm F d y st=some (v,m))(o:Option Nat) :
 UI P base w0 I μ st w o (Builtin.copy_ #[t,J] t #[A,z]) v m:=by
 obtain⟨i,ti,n,l⟩:=UE O;unfold Qm at h;split at h
 ·cases h
 split at h
 ·rename_i b r;have k:=iL (P:=P) (w:=w) u r;cases K with
  |AO=>
   cases h;refine UI.stay H (rv:=.int .i64 0) ?_ (.int _ _);have:Nat.min b 0=0:=by simp
   cases u<;>simp[lenOf]at r<;>subst r<;>simp[Builtin.copy_,BQ i,Result.andThen,FY n,l,Builtin.lenOf,Builtin.firstCells,loadCells,loadCellsFrom,goInt]
  |AU oo U a cap pl D c L hz ha a0 hc=>
   simp only at h;split at h
   ·rename_i cs x;obtain⟨q,S,N,Y,R⟩:=PU (P:=P) H u x;have p:∀{w':World},(storeCells D q).run P w=.ok () w'->(Builtin.copy_ #[t,J] t #[.slice (some D) a c,z]).run P w=.ok (.int .i64 (Nat.min b a)) w':=by intro w' s;simp only[Builtin.copy_,QX,OU,OT,CJ,BQ i,Dj,FY n,l,k,S,Cs,s,goInt]
    simp only[beq_eq,Ad,Aw]at h;split at h
    ·rename_i f;cases h;have:q=[]:=Gn (by rw[R,f];simp);subst this;have:=p (w':=w) rfl;rw[f]at this;exact UI.stay H this (.int _ _)
    ·rename_i f;split at h
     ·rename_i ty W V ext hf;split at h
      ·rename_i B;unfold Fs at h;split at h
       ·rename_i Q g;cases h;have j:0<c:=by have:Nat.min b a<=a:=Nat.min_le_right _ _;omega
        obtain⟨w',Z,T⟩:=Rj (P:=P) H L N Y g;refine⟨_,w',μ,p (by rw[ha.2 j];exact Z),ed.write T (.int _ _) (Gs g).1 (Gs g).2⟩
       ·cases h
      ·cases h
     ·cases h
   ·cases h
  |_=>simp at h
 ·cases h
theorem yZ(H:CQ base w0 I μ st w){t:TypeId}{e J bytes:Nat}{zero:List AV}(g:QB P t e J bytes zero=true){x v:AV}{p:Value}{f:St}(R:BO I μ x p)(h:Lu zero x st=some (v,f))(o:Option Nat) :
 UI P base w0 I μ st w o (Builtin.clear_ #[t] t #[p]) v f:=by
 unfold QB at g;rw[Aq]at g;obtain⟨j,i,z,Q,D,K,F,S,y⟩:=Nn g.1;obtain⟨d,l,u,O⟩:=UN g.2;have:d=z:=by have:=l w;simp[zeroValue,typeInfo,Q,F]at this;exact this.symm
 subst this;have a:BO I μ (.tuple []) (.tuple #[]):=.tuple [] [] .nil;unfold Lu at h;cases R with
 |AO=>cases h;exact UI.stay H (rv:=.tuple #[]) (by simp[Builtin.clear_,BQ j,Result.andThen]) a
 |AU oo L len cap pl Z m q W U V hc=>
  simp only[beq_eq,Ad,Aw]at h;split at h
  ·rename_i k;cases h;subst k;exact UI.stay H (rv:=.tuple #[]) (by simp[Builtin.clear_,BQ j,Result.andThen]) a
  ·rename_i k;split at h
   ·rename_i ty N Y ext hf;split at h
    ·rename_i A;unfold Fs at h;split at h
     ·rename_i s c;cases h;obtain⟨r,T,B⟩:=Rj (P:=P) (rvs:=(List.range len).flatMap fun _=>d.cells.toList) H q (Ql u len) (gN O len) c;refine⟨.tuple #[],r,μ,?_,ed.write B a (Gs c).1 (Gs c).2⟩;have b:(Builtin.zeroCells d.cells len).toList=(List.range len).flatMap fun _=>d.cells.toList:=by have:=Vj d.cells len;simpa [Builtin.zeroCells]using this
      obtain⟨n,rfl⟩:∃n,len=n+1:=⟨len-1,by omega⟩;rw[U.2 (by omega)];simp only[Builtin.clear_,QX,OU,CJ,BQ j,Dj,l,b,T,Cs]
     ·cases h
    ·cases h
   ·cases h
 |_=>simp at h
theorem CQ.maps(H:CQ base w0 I μ st w){o clock:Nat}{g i:List AV}{d:List Nat}(h:AA st.h o=some (.map g i d clock)){a:Pl}(j:μ o=some a) :
 ∃a c,μ o=some a/\a.b=0/\a.n=1/\a.e=0/\w.heap[a.r]? =some (.map c clock)/\BR I μ g (c.toList.map (·.key))/\BR I μ i (c.toList.map (·.val))/\d=c.toList.map (·.born) /\
  d.Pairwise (·<·)/\(∀b∈d,b<clock):=by
 have l:=H.obj o _ a h j;cases l with
 |map _ _ _ _ c m q t k s u f p v=>exact⟨a,c,j,m,q,t,k,s,u,f,p,v⟩
def ACm(P:Program)(t:TypeId)(k:LK):Bool:=
 match P.underlying t,k with
 |some .string,.str=>true
 |some (.slice _),.slice=>true
 |some (.map ..),.map=>true
 |_,_=>false
theorem ACl(H:CQ base w0 I μ st w){t:TypeId}{k:LK}(d:ACm P t k=true){x v:AV}{q:Value}{c:St}(j:BO I μ x q)(h:BZ k x st=some (v,c)):c=st/\∃m,(Builtin.len_ #[t] t #[q]).run P w=.ok m w/\BO I μ v m:=by
 unfold BZ at h;split at h
 ·rename_i n a;cases h;refine⟨rfl,.int .i64 n,?_,.int _ _⟩;unfold ACm at d;split at d
  ·rename_i b;simp only[Vt]at a;cases j<;>simp at a;subst a;simp[Builtin.len_,BQ b,Result.andThen,goInt,size_mk]
  ·rename_i e b;simp only[CV]at a;cases j<;>simp at a<;>subst a<;>simp[Builtin.len_,BQ b,Result.andThen,goInt]
  ·rename_i J e b;simp only[Vu]at a;cases j with
   |IZ=>simp at a;subst a;simp[Builtin.len_,BQ b,Result.andThen,goInt]
   |Cq o A l=>
    simp only at a;split at a
    ·rename_i s u F clock y;obtain⟨D,i,p,_,_,_,g,f,B,_,_,_⟩:=H.maps y l;rw[l]at p;cases p;simp at a;subst a;have:=f.length;simp at this;simp[Builtin.len_,BQ b,Result.andThen,goInt,Jf w A.r i clock g,this]
    ·cases a
   |CR s u r i clock z f B=>simp at a;subst a;have:=f.length;simp at this;have g:=H.Iy _ _ z;simp[Builtin.len_,BQ b,Result.andThen,goInt,Jf w r i clock g,this]
   |_=>simp at a
  ·cases d
 ·cases h
theorem ADL{t e:TypeId}(s:P.underlying t=some (.slice e)){x v:AV}{p:Value}{d:St}(y:BO I μ x p)(h:TV x st=some (v,d)) :
 d=st/\∃n,(Builtin.cap_ #[t] t #[p]).run P w=.ok n w/\BO I μ v n:=by
 have b:∀(a:Option Addr) (l c:Nat),(Builtin.cap_ #[t] t #[.slice a l c]).run P w=.ok (goInt c) w:=fun a l c=>by simp[Builtin.cap_,BQ s,Result.andThen]
 cases y with
 |AO=>simp[TV]at h;obtain⟨k,u⟩:=h;subst k u;exact⟨rfl,_,b _ _ _,.int _ _⟩
 |list tight D K r j cap z F k L N q g=>cases tight<;>simp[TV]at h;obtain⟨i,f⟩:=h;subst i f;refine⟨rfl,_,b _ _ _,?_⟩;rw[g rfl];exact .int _ _
 |AU o j len cap J a m A B O H q=>
  cases cap with
  |none=>simp[TV]at h
  |some c=>simp[TV]at h;obtain⟨i,f⟩:=h;subst i f;refine⟨rfl,_,b _ _ _,?_⟩;rw[q.1];exact .int _ _
 |_=>simp[TV]at h
theorem aO:∀(l:List AV) (a:List Value) (k:IntKind) (x:Int) (v:AV),BR I μ l a->Tt k x l=some v->∃b,(a.foldlM Builtin.min2 (.int k x)).run P w=.ok b w/\BO I μ v b
 |[],a,k,x,v,c,h=>by cases c;simp[Tt]at h;subst h;exact⟨_,rfl,.int _ _⟩
 |y::l,a,k,x,v,c,h=>by
  cases c with
  |cons _ i _ a e f=>
   cases e with
   |int j n=>simp only[Tt]at h;obtain⟨b,g,d⟩:=aO l a k _ v f h;exact⟨b,by simp[List.foldlM_cons,Builtin.min2,g],d⟩
   |_=>simp[Tt]at h
theorem aQ:∀(l:List AV) (a:List Value) (k:IntKind) (x:Int) (v:AV),BR I μ l a->Tu k x l=some v->∃b,(a.foldlM Builtin.max2 (.int k x)).run P w=.ok b w/\BO I μ v b
 |[],a,k,x,v,c,h=>by cases c;simp[Tu]at h;subst h;exact⟨_,rfl,.int _ _⟩
 |y::l,a,k,x,v,c,h=>by
  cases c with
  |cons _ i _ a e f=>
   cases e with
   |int j n=>simp only[Tu]at h;obtain⟨b,g,d⟩:=aQ l a k _ v f h;exact⟨b,by simp[List.foldlM_cons,Builtin.max2,g],d⟩
   |_=>simp[Tu]at h
theorem ACg{l:List AV}{b:List Value}{v:AV}{a:St}(i:Array TypeId)(t:TypeId)(d:BR I μ l b)(h:Ub l st=some (v,a)):a=st/\∃c,(Builtin.min_ i t b.toArray).run P w=.ok c w/\BO I μ v c:=by
 cases d with
 |nil=>simp[Ub]at h
 |cons x p l b g f=>
  cases g with
  |int k n=>
   simp only[Ub,Ia]at h;split at h
   ·rename_i o j;cases h;obtain⟨c,m,e⟩:=aO (P:=P) (w:=w) l b k n v f j;exact⟨rfl,c,by simp[Builtin.min_,m],e⟩
   ·cases h
  |_=>simp[Ub]at h
theorem ACi{l:List AV}{b:List Value}{v:AV}{a:St}(i:Array TypeId)(t:TypeId)(d:BR I μ l b)(h:TU l st=some (v,a)):a=st/\∃c,(Builtin.max_ i t b.toArray).run P w=.ok c w/\BO I μ v c:=by
 cases d with
 |nil=>simp[TU]at h
 |cons x p l b g f=>
  cases g with
  |int k n=>
   simp only[TU,Ia]at h;split at h
   ·rename_i o j;cases h;obtain⟨c,m,e⟩:=aQ (P:=P) (w:=w) l b k n v f j;exact⟨rfl,c,by simp[Builtin.max_,m],e⟩
   ·cases h
  |_=>simp[TU]at h
end
end Go.Am
namespace Go.Am
open Go Go.RowKit
variable {P:Program}
section
variable {base:Nat}{w0:Start}{I:HY}{μ:Mu}{st:St}{w:World}
theorem VG{t:TypeId}{c:CK}(a:zh P t c=true)(e:Bool)(n:Nat)(v:Value):(Instr.checkKey e (n+1) t v).run P w=.ok () w:=by
 unfold zh at a;split at a
 ·rename_i d b;cases d<;>cases c<;>simp[vV]at a<;>simp[Instr.checkKey,BQ b,Result.andThen]
 ·cases a
theorem RY(e:Bool)(n:Nat)(l:Array Value):∀(o:List Field) (p:List CK) (a:List AV) (i:Nat),NI P i o p=true->a.length=p.length->BR I μ a (l.toList.drop i) ->
 ((forIn o PUnit.unit fun f (_:PUnit)=>(
  if f.name ≠ "_" then do
   let u ← part f.type l f.offset
   Instr.checkKey e (n+1) f.type u
   pure (ForInStep.yield PUnit.unit)
  else pure (ForInStep.yield PUnit.unit):Sem (ForInStep PUnit))):Sem PUnit).run P w=.ok PUnit.unit w
 |[],[],a,i,_,_,_=>rfl
 |[],_::_,_,_,h,_,_=>by simp[NI]at h
 |_::_,[],_,_,h,_,_=>by simp[NI]at h
 |f::o,c::p,a,i,v,y,z=>by
  simp only[NI,Aq,Ho,ne_eq]at v;obtain⟨⟨⟨g,j⟩,b⟩,k⟩:=v;have g:=Cb g;cases a with
  |nil=>simp at y
  |cons x a=>
  generalize r:l.toList.drop i=rx at z;cases z with
  |cons _ m _ J K s=>
  obtain⟨B,H⟩:=getElem?_of_drop r;subst H;obtain⟨d,q,t⟩:∃d,P.underlying f.type=some d/\vV d c=true:=by
   unfold zh at b;split at b
   ·rename_i d q;exact⟨d,q,b⟩
   ·cases b
  have A:=Qg (w:=w) q t l f.offset m (by rw[g];simpa using B);have D:=VG (w:=w) b e n m;have F:=RY e n l o p a (i+1) k (by simpa using y) s;rw[List.forIn_cons];simp only[ne_eq,j,not_false_eq_true,FC,CJ,A,D,Result.andThen,Cs];exact F
theorem SN{t:TypeId}{k:KK}(b:xu P t k=true)(e:Bool){x:AV}{f:Value}(l:BO I μ x f)(d:Nj k x=true):(Instr.checkKey e 10000 t f).run P w=.ok () w:=by
 cases k with
 |one c=>exact VG b e 9999 f
 |many n=>
  simp only[xu]at b;cases l with
  |agg a i m h=>
   split at b
   ·rename_i j g;simp only[Aq,Fp]at b;have d:=Cb d;have:=RY (P:=P) (w:=w) e 9998 i.toArray j.toList n a 0 b.2 d (by simpa using m);show (Instr.checkKey e (9998+1+1) t _).run P w=_;rw[Instr.checkKey];simp only[CJ,BQ g,Result.andThen];rw[←Array.forIn_toList];rw[this];rfl
   ·cases b
  |_=>simp[Nj]at d
theorem Yo{d:TypeDesc}{c:CK}(k:vV d c=true){x y:AV}{i j:Value}{e:Bool}(g:BO I μ x i)(f:BO I μ y j)(h:je c x y=some e):Instr.sameNow d i j=some e:=by
 cases d<;>cases c<;>simp[vV]at k
 ·cases g<;>simp[je]at h;cases f<;>simp at h;simp[Instr.sameNow,h]
 ·cases g<;>simp[je]at h;cases f<;>simp[Ad]at h;obtain⟨m,l⟩:=h;cases LG m;simp[Instr.sameNow,l]
 ·cases g<;>simp[je]at h;cases f<;>simp at h;rename_i a b;simp only[Instr.sameNow,beq_toListBytes,toList_mk,h]
def JV(es:List MapEntry)(i0:Nat):Option Nat->Option (Nat×Value)
 |none=>none
 |some i=>(es[i]?).map fun e=>(i0+i,e.val)
theorem UA{d:TypeDesc}{c:CK}(j:vV d c=true){x:AV}{p:Value}(l:BO I μ x p):∀(g:List MapEntry) (a:List AV) (f:Nat) (r:Option Nat),BR I μ a (g.map (·.key))->Ii (.one c) a x=some r ->
 Instr.findNow d p g f=some (JV g f r)
 |[],a,f,r,b,h=>by cases b;simp[Ii]at h;subst h;rfl
 |e::g,a,f,r,b,h=>by
  cases b with
  |cons k _ a _ b o=>
   simp only[Ii]at h;split at h
   ·rename_i m;cases h;simp[Instr.findNow,Yo j l b m,JV]
   ·rename_i m;split at h
    ·rename_i i n;cases h;have:=UA j l g a (f+1) _ o n;simp only[Instr.findNow,Yo j l b m,this,JV,OT];congr 2;funext e;congr 1;omega
    ·rename_i n;cases h;have:=UA j l g a (f+1) _ o n;simp only[Instr.findNow,Yo j l b m,this,JV]
    ·cases h
   ·cases h
theorem Pd{t:TypeId}{p:KK}(g:xu P t p=true){x:AV}{o:Value}(j:BO I μ x o):∀(d:List MapEntry) (b:List AV) (c:Nat) (r:Option Nat),BR I μ b (d.map (·.key))->Ii p b x=some r ->
 (Instr.findAsking t o d c).run P w=.ok (JV d c r) w
 |[],b,c,r,f,h=>by cases f;simp[Ii]at h;subst h;rfl
 |e::d,b,c,r,f,h=>by
  cases f with
  |cons k _ b _ f a=>
   simp only[Ii]at h;split at h
   ·rename_i m;cases h;have:=nO (w:=w) g j f m;simp[Instr.findAsking,this,Result.andThen,JV]
   ·rename_i m;have n:=nO (w:=w) g j f m;split at h
    ·rename_i i l;cases h;have:=Pd g j d b (c+1) _ a l;simp only[Instr.findAsking,CJ,n,Result.andThen,GA,Dn,this,JV,OT];congr 2;funext e;congr 1;omega
    ·rename_i l;cases h;have:=Pd g j d b (c+1) _ a l;simp only[Instr.findAsking,CJ,n,Result.andThen,GA,Dn,this,JV]
    ·cases h
   ·cases h
theorem Mq{t:TypeId}{m:KK}(a:xu P t m=true){x:AV}{k:Value}(n:BO I μ x k){b:List MapEntry}{j:List AV}{r:Option Nat}(l:BR I μ j (b.map (·.key)))(h:Ii m j x=some r) :
 (Instr.findKey t k b).run P w=.ok (JV b 0 r) w:=by
 cases m with
 |one c=>
  have f:=a;simp only[xu,zh]at a;split at a
  ·rename_i d i;have:=UA a n b j 0 r l h;simp only[Instr.findKey,CJ,BQ i,Result.andThen,this,Cs]
  ·cases a
 |many p=>
  have f:=a;simp only[xu]at a;split at a
  ·rename_i o i;cases b with
   |nil=>cases l;simp[Ii]at h;subst h;simp[Instr.findKey,BQ i,Result.andThen,Instr.findNow,JV]
   |cons e b=>
    have g:Instr.findNow (.struct o) k (e::b) 0=none:=by simp[Instr.findNow,Instr.sameNow]
    have:=Pd (w:=w) f n (e::b) j 0 r l h;simp only[Instr.findKey,CJ,BQ i,Result.andThen,g,this]
  ·cases a
end
end Go.Am
namespace Go.Am
open Go Go.RowKit
variable {P:Program}
section
variable {base:Nat}{w0:Start}{I:HY}{μ:Mu}{st:St}{w:World}
theorem jd{c:CK}{x y:AV}{b d:Value}(e:BO I μ x b)(a:BO I μ y d)(h:je c x y=some true):b=d/\∀n,Instr.sameBits n d b=true:=by
 cases c
 ·cases e<;>simp[je]at h;cases a<;>simp at h;subst h;exact⟨rfl,fun n=>by cases n<;>simp[Instr.sameBits]⟩
 ·cases e<;>simp[je]at h;cases a<;>simp[Ad]at h;obtain⟨g,f⟩:=h;cases LG g;subst f;exact⟨rfl,fun n=>by cases n<;>simp[Instr.sameBits]⟩
 ·cases e<;>simp[je]at h;cases a<;>simp at h;subst h;exact⟨rfl,fun n=>by cases n<;>simp[Instr.sameBits,beq_toListBytes]⟩
theorem bA:∀{i:List CK} {a b:List AV} {e d:List Value},BR I μ a e->BR I μ b d->SS i a b=some true->e=d/\∀n,((d.zip e).all fun (x,y)=>Instr.sameBits n x y)=true
 |[],[],[],_,_,g,f,_=>by cases g;cases f;exact⟨rfl,fun n=>rfl⟩
 |c::i,x::a,y::b,e,d,g,f,h=>by
  cases g with
  |cons _ r _ e k g=>
  cases f with
  |cons _ s _ d j f=>
  simp only[SS]at h;split at h
  ·rename_i p;obtain⟨l,q⟩:=jd k j p;obtain⟨m,o⟩:=bA g f h;subst l m;exact⟨rfl,fun n=>by simp only[List.zip_cons_cons,List.all_cons,q n,o n,FN]⟩
  ·split at h<;>cases h
  ·cases h
 |[],_::_,_,_,_,_,_,h=>by simp[SS]at h
 |[],[],_::_,_,_,_,_,h=>by simp[SS]at h
 |_::_,[],_,_,_,_,_,h=>by simp[SS]at h
 |_::_,_::_,[],_,_,_,_,h=>by simp[SS]at h
theorem iV{i:KK}{x y:AV}{d e:Value}(g:BO I μ x d)(f:BO I μ y e)(h:tu i x y=some true):d=e/\Instr.sameBits 10000 e d=true:=by
 cases i with
 |one c=>have:=jd g f h;exact⟨this.1,this.2 _⟩
 |many r=>
  simp only[tu]at h;cases g with
  |agg a q m j=>
   cases f with
   |agg b p k n=>obtain⟨l,o⟩:=bA m k h;subst l;exact⟨rfl,by show Instr.sameBits (9999+1) _ _=true;simp only[Instr.sameBits,beq_self_eq_true,QW];exact o 9999⟩
   |_=>simp at h
  |_=>simp at h
theorem Yn{b:KK}{x:AV}:∀{a:List AV} {i:Nat},Ii b a x=some (some i)->∃k,a[i]? =some k/\tu b x k=some true
 |[],i,h=>by simp[Ii]at h
 |k::a,i,h=>by
  simp only[Ii]at h;split at h
  ·rename_i f;cases h;exact⟨k,rfl,f⟩
  ·split at h
   ·rename_i j e;cases h;obtain⟨g,d,c⟩:=Yn e;exact⟨g,by simpa using d,c⟩
   ·cases h
   ·cases h
  ·cases h
def AAW(P:Program)(t:TypeId)(kk:KK):Bool:=
 match P.underlying t with
 |some (.map k _)=>xu P k kk
 |_=>false
def QC(P:Program)(t:TypeId)(kk:KK)(zero:AV):Bool:=
 match P.underlying t with
 |some (.map k e)=>xu P k kk&&(match P.info? e with|some i=>(match i.zero with|some z=>dm zero z|none=>false)|none=>false)
 |_=>false
theorem tK(H:CQ base w0 I μ st w){t:TypeId}{T:KK}{zero m k v:AV}(D:QC P t T zero=true){n:Bool}{Q l:Value}{f:St}(hm:BO I μ m Q)(W:BO I μ k l)(h:FT T zero n m k st=some (v,f)):f=st/\∃c,(Instr.lookup t Q l n).run P w=.ok c w/\BO I μ v c:=by
 unfold QC at D;split at D
 ·rename_i L e hd;rw[Aq]at D;obtain⟨q,F⟩:=D;obtain⟨z,N,J⟩:∃z,(∀w,(zeroValue e).run P w=.ok z w)/\BO I μ zero z:=by
   split at F
   ·rename_i i hi;split at F
    ·rename_i z Z;exact⟨z,fun w=>by simp[zeroValue,typeInfo,hi,Z],Xi F⟩
    ·cases F
   ·cases F
  have key:∀(a:List MapEntry) (A s:List AV),BR I μ A (a.map (·.key))->BR I μ s (a.map (·.val))->LA T zero n A s k st=some (v,f) ->
   f=st/\∃r:Option (Nat×Value),(Instr.findKey L l a).run P w=.ok r w/\(∀b,(Instr.checkKey b 10000 L l).run P w=.ok () w) /\
    (∃c b,(match r with|some (_,v)=>(v,true)|none=>(z,false))=(c,b)/\BO I μ v (if n then .tuple #[c,.bool b] else c)):=by
   intro a A s d j g;unfold LA at g;rw[Ad]at g;split at g
   ·rename_i U;have p:∀b,(Instr.checkKey b 10000 L l).run P w=.ok () w:=fun b=>SN q b W U;split at g
    ·rename_i O;have:=Mq (w:=w) q W d O;simp[MJ]at g;obtain⟨B,S⟩:=g;subst B S;refine⟨rfl,none,this,p,z,false,rfl,?_⟩;cases n
     ·exact J
     ·exact .tuple _ _ (.cons _ _ _ _ J (.cons _ _ _ _ (.bool _) .nil))
    ·rename_i i O;split at g
     ·rename_i v' V;have:=Mq (w:=w) q W d O;obtain⟨c,B,S⟩:=j.get i v' V;simp[MJ]at g;obtain⟨g3,g4⟩:=g;subst g3 g4;rw[Gl]at B;obtain⟨en,e1,e2⟩:=Gf.1 B;subst e2;simp only[JV,e1,Jt]at this;refine⟨rfl,_,this,p,en.val,true,rfl,?_⟩;cases n
      ·exact S
      ·exact .tuple _ _ (.cons _ _ _ _ S (.cons _ _ _ _ (.bool _) .nil))
     ·cases g
    ·cases g
   ·cases g
  have y:∀(a:Array MapEntry),((Q=.map none/\a=#[])∨∃r clock,Q=.map (some r)/\w.heap[r]? =some (.map a clock)) ->
   (f=st/\∃r:Option (Nat×Value),(Instr.findKey L l a.toList).run P w=.ok r w/\(∀b,(Instr.checkKey b 10000 L l).run P w=.ok () w) /\
    (∃c b,(match r with|some (_,v)=>(v,true)|none=>(z,false))=(c,b)/\BO I μ v (if n then .tuple #[c,.bool b] else c)))->f=st/\∃c,(Instr.lookup t Q l n).run P w=.ok c w/\BO I μ v c:=by
   intro a he hr;obtain⟨hs,r,Y,h2,c,b,R,h4⟩:=hr;refine⟨hs,_,?_,h4⟩;rcases he with⟨rfl,rfl⟩|⟨rr,clock,rfl,K⟩
   ·simp only[Instr.lookup,CJ,BQ hd,Dj,Cs,h2];simp only[List.toList_toArray]at Y;rw[Y];cases r with
    |none=>cases R;simp[N,Result.andThen]
    |some x=>obtain⟨i,u⟩:=x;cases R;simp[Result.andThen]
   ·simp only[Instr.lookup,CJ,BQ hd,Dj,Cs,Jf w rr a clock K,h2,Y];cases r with
    |none=>cases R;simp[N,Result.andThen]
    |some x=>obtain⟨i,u⟩:=x;cases R;simp
  unfold FT at h;cases hm with
  |IZ=>exact y #[] (.inl ⟨rfl,rfl⟩) (key [] [] [] .nil .nil h)
  |Cq o pl hμ=>
   simp only at h;split at h
   ·rename_i A s bs clock O;obtain⟨a0,a,B,_,_,_,K,d,j,_,_,_⟩:=H.maps O hμ;rw[hμ]at B;cases B;exact y a (.inr ⟨_,clock,rfl,K⟩) (key a.toList A s d j h)
   ·cases h
  |CR A s r a clock hI d j=>have K:=H.Iy _ _ hI;exact y a (.inr ⟨_,clock,rfl,K⟩) (key a.toList A s d j h)
  |_=>simp at h
 ·cases D
theorem LH(H:CQ base w0 I μ st w){o:Nat}{a:Pl}{x y:BJ}{b1 b2:Obj}(m:AA st.h o=some x)(b:st.lo<=o)(j:μ o=some a)(g:w.heap[a.r]? =some b1)(u:∀c t f,b1≠.cells c t f)(n:∀c t f,b2≠.cells c t f)(l:Qc I μ { w with heap:=w.heap.setIfInBounds a.r b2 } a y) :
 (setObj a.r b2).run P w=.ok () { w with heap:=w.heap.setIfInBounds a.r b2 }/\CQ base w0 I μ { st with h:=Ah st.h o y } { w with heap:=w.heap.setIfInBounds a.r b2 }:=by
 refine⟨?_,?_⟩
 ·simp only[setObj,Sem.run,g]
 ·have i:=NT g;have s:ABX w { w with heap:=w.heap.setIfInBounds a.r b2 } a:=by
   refine⟨rfl,rfl,rfl,by simp,fun k q=>?_,.inr ⟨fun c t f e=>?_,fun c t f e=>?_⟩⟩
   ·show (w.heap.setIfInBounds a.r b2)[k]? =_;rw[TH (Aj q)]
   ·rw[g]at e;exact u c t f (by injection e)
   ·have:(w.heap.setIfInBounds a.r b2)[a.r]? =some b2:=by simp[i]
    simp only at e;rw[this]at e;exact n c t f (by injection e)
  exact H.ACI (o':=o) (x:=x) (y:=y) (h':=Ah st.h o y) (c':=st.c) (pl':=a) (ν:=μ) m b b j s (.inl ⟨rfl,rfl,rfl⟩) (Ao _) rfl (Ao _) (Ao _)
   (fun p z d=>by
    rw[JU _ _ _ (by rw[m];rfl)]at d
    by_cases e:o=p
    ·simp[e]at d;exact .inl ⟨e.symm,d.symm⟩
    ·simp[e]at d;exact .inr ⟨Aj e,Aj e,d⟩) l
theorem BR.set{l:List AV}{a:List Value}(h:BR I μ l a){v:AV}{c:Value}(d:BO I μ v c):∀i,BR I μ (l.set i v) (a.set i c):=by
 induction l generalizing a with
 |nil=>cases h;intro i;exact .nil
 |cons x l e=>cases h with
  |cons _ g _ a f b=>intro i;cases i with
   |zero=>exact .cons _ _ _ _ d b
   |succ i=>exact .cons _ _ _ _ f (e b i)
theorem OD{w:World}{r:Nat}{x y:Obj}(h:w.heap[r]? =some x):({ w with heap:=w.heap.setIfInBounds r y }:World).heap[r]? =some y:=by have:=NT h;simp[this]
theorem Uh(H:CQ base w0 I μ st w){t:TypeId}{U:KK}(J:AAW P t U=true){m k x v:AV}{rm s V:Value}{O:St}(hm:BO I μ m rm)(N:BO I μ k s)(hx:BO I μ x V)(h:FL U m k x st=some (v,O)):v=.undef/\ABY P base w0 I μ st w (Instr.mapUpdate t rm s V) O:=by
 unfold AAW at J;split at J
 ·rename_i kt e hd;unfold FL at h;cases hm with
  |Cq o pl T=>
   simp only[blt_eq,Ad,FO,Aw,Fp]at h;split at h
   ·cases h
   rename_i d;have S:st.lo<=o:=by
    rcases FU o st.lo with h1|h1
    ·exact absurd (.inl h1) d
    ·exact h1
   have W:Nj U k=true:=by
    cases hkk:Nj U k with
    |true=>rfl
    |false=>exact absurd (.inr hkk) d
   split at h
   ·rename_i Y vs Z clock hf;obtain⟨a1,c,g1,pb,pn,pe,K,f,R,L,Q,F⟩:=H.maps hf T;rw[T]at g1;cases g1;have u:=SN (P:=P) (w:=w) J false N W;split at h
    ·rename_i i q;cases h;refine⟨rfl,?_⟩;have n:=Mq (w:=w) (P:=P) J N f q;obtain⟨k',q1,q2⟩:=Yn q;obtain⟨a0,q3,q4⟩:=f.get i k' q1;rw[Gl]at q3;obtain⟨en,e1,e2⟩:=Gf.1 q3;subst e2;obtain⟨e3,e4⟩:=iV N q4 q2;simp only[JV,e1,Jt]at n;have z:c[i]? =some en:=by rw[←IW];exact e1
     have A:i<c.size:=(Io.1 z).1;have D:c[i]=en:=(Io.1 z).2;have l:∀g:MapEntry->MapEntry,(c.modify i g).toList=c.toList.set i (g en):=fun g=>by
      apply Kb;intro j;rw[IW,OO,FW];by_cases hij:i=j
      ·subst hij;simp[A,D]
      ·simp[hij]
     have Ah:=LH (P:=P) (y:=.map Y (vs.set i x) Z clock) (b1:=.map c clock) (b2:=.map (c.modify i fun e=>{ e with key:=s,val:=V }) clock) H hf S T K (by intros;simp) (by intros;simp)
      (.map Y _ Z clock _ pb pn pe (OD K)
       (by
        rw[l]
        simp only[GX]
        have:(c.toList.map (·.key)).set i s=c.toList.map (·.key):=by
         apply Kb
         intro j
         rw[FW]
         by_cases hij:i=j
         ·subst hij;simp[A,D,e3]
         ·simp[hij]
        rw[this];exact f)
       (by rw[l];simp only[GX];exact R.set hx i)
       (by
        rw[l,L]
        simp only[GX]
        apply Kb
        intro j
        rw[FW]
        by_cases hij:i=j
        ·subst hij;simp[A,D]
        ·simp[hij])
       Q F)
     refine⟨_,?_,Ah.2,rfl,rfl⟩;have B:(Instr.keyThatStays (((c[i]?).map (·.key)).getD s) s).run P w=.ok s w:=by rw[z];simp only[Jt,KG,Instr.keyThatStays,e4,FC,Cs]
     simp only[Instr.mapUpdate,CJ,BQ hd,Dj,Jf w pl.r c clock K,u,n,Dz,B];exact Ah.1
    ·rename_i q;cases h;refine⟨rfl,?_⟩;have n:=Mq (w:=w) (P:=P) J N f q;simp only[JV]at n;have Ah:=LH (P:=P) (y:=.map (Y++[k]) (vs++[x]) (Z++[clock]) (clock+1)) (b1:=.map c clock) (b2:=.map (c.push { key:=s,val:=V,born:=clock }) (clock+1)) H hf S T K (by intros;simp) (by intros;simp)
      (.map _ _ _ _ _ pb pn pe (OD K) (by simpa using f.append (.cons _ _ _ _ N .nil)) (by simpa using R.append (.cons _ _ _ _ hx .nil)) (by simp[L])
       (by
        rw[OM]
        refine⟨Q,by simp,fun a ha b p=>?_⟩
        simp at p;subst p;exact F a ha)
       (by
        intro b p
        rw[Ca]at p
        rcases p with p|p
        ·exact Nat.lt_succ_of_lt (F b p)
        ·simp at p;omega))
     refine⟨_,?_,Ah.2,rfl,rfl⟩;simp only[Instr.mapUpdate,CJ,BQ hd,Dj,Jf w pl.r c clock K,u,n];exact Ah.1
    ·cases h
   ·cases h
  |_=>simp at h
 ·cases J
end
end Go.Am
namespace Go.Am
open Go Go.RowKit
variable {P:Program}
section
variable {base:Nat}{w0:Start}{I:HY}{μ:Mu}{st:St}{w:World}
theorem TY(a:Array MapEntry)(i:Nat)(c:MapEntry)(b:a[i]? =some c)(g:MapEntry->MapEntry):(a.modify i g).toList=a.toList.set i (g c):=by
 have e:i<a.size:=(Io.1 b).1;have d:a[i]=c:=(Io.1 b).2;apply Kb;intro j;rw[IW,OO,FW];by_cases hij:i=j
 ·subst hij;simp[e,d]
 ·simp[hij]
theorem YI{α:Type}{l:List α}{i:Nat}{x:α}(h:l[i]? =some x):l.set i x=l:=by
 apply Kb;intro j;rw[FW];by_cases hij:i=j
 ·subst hij;have:=(GJ.1 h).1;have a:=(GJ.1 h).2;simp[a,this]
 ·simp[hij]
theorem uK{h:Aa}{o:Nat}{x:BJ}(a:AA h o=some x):∀p,AA (Ah h o x) p=AA h p:=fun p=>by
 rw[JU _ _ _ (by rw[a];rfl)];by_cases e:o=p
 ·subst e;simp[a]
 ·simp[e]
theorem gy(H:CQ base w0 I μ st w){t:TypeId}{kk:KK}{zero m k v:AV}(N:QC P t kk zero=true){rm s:Value}{T:St}(hm:BO I μ m rm)(S:BO I μ k s)(h:Ir kk zero m k st=some (v,T)):UI P base w0 I μ st w none (Instr.mapEntry t rm s) v T:=by
 unfold QC at N;split at N
 ·rename_i kt e hd;rw[Aq]at N;obtain⟨d,O⟩:=N;obtain⟨z,a4,W⟩:∃z,(∀w,(zeroValue e).run P w=.ok z w)/\BO I μ zero z:=by
   split at O
   ·rename_i i hi;split at O
    ·rename_i z a1;exact⟨z,fun w=>by simp[zeroValue,typeInfo,hi,a1],Xi O⟩
    ·cases O
   ·cases O
  unfold Ir at h;cases hm with
  |Cq o pl hμ=>
   simp only[blt_eq,Ad,FO,Aw,Fp]at h;split at h
   ·cases h
   rename_i f;have R:st.lo<=o:=by
    rcases FU o st.lo with h1|h1
    ·exact absurd (.inl h1) f
    ·exact h1
   have a0:Nj kk k=true:=by
    cases d:Nj kk k with
    |true=>rfl
    |false=>exact absurd (.inr d) f
   split at h
   ·rename_i ks vs bs clock hf;obtain⟨a5,c,g1,pb,pn,pe,L,l,D,A,U,K⟩:=H.maps hf hμ;rw[hμ]at g1;cases g1;have u:=SN (P:=P) (w:=w) d false S a0;split at h
    ·rename_i i q;split at h
     ·rename_i av ab a3 Z;cases h;have j:=Mq (w:=w) (P:=P) d S l q;obtain⟨k',q1,q2⟩:=Yn q;obtain⟨a6,q3,q4⟩:=l.get i k' q1;rw[Gl]at q3;obtain⟨Y,Q,e2⟩:=Gf.1 q3;subst e2;obtain⟨e3,e4⟩:=iV S q4 q2;simp only[JV,Q,Jt]at j;have J:c[i]? =some Y:=by rw[←IW];exact Q
      have V:(c.modify i fun e=>{ e with key:=s }).toList=c.toList:=by rw[TY c i Y J];refine YI ?_;rw[Q,e3]
      have B:(c.modify i fun e=>{ e with key:=s })=c:=Array.toList_inj.1 V;have g:=LH (P:=P) (y:=.map ks vs bs clock) (b1:=.map c clock) (b2:=.map c clock) H hf R hμ L (by intros;simp) (by intros;simp)
       (.map ks _ bs clock c pb pn pe (OD L) l D A U K)
      have hW:CQ base w0 I μ st { w with heap:=w.heap.setIfInBounds pl.r (.map c clock) }:=
       CQ.ABu (h':=st.h) g.2 (fun p x hp=>by
        show AA (Am.Ah st.h o _) p=_
        rw[uK hf];exact hp)
      have a2:Y.born=ab:=by rw[A,Gl,Q]at Z;simpa using Z
      obtain⟨rv,r1,r2⟩:=D.get i av a3;rw[Gl,Q]at r1;cases r1;have F:(Instr.keyThatStays (((c[i]?).map (·.key)).getD s) s).run P w=.ok s w:=by rw[J];simp only[Jt,KG,Instr.keyThatStays,e4,FC,Cs]
      refine⟨.tuple #[Y.val,.int .i64 Y.born],_,μ,?_,hW,?_,fun _ _ h=>h,fun _ _=>rfl,rfl,rfl⟩
      ·simp only[Instr.mapEntry,CJ,BQ hd,Dj,Jf w pl.r c clock L,u,j,Dz,F,B,g.1,Cs];rw[J];rfl
      ·rw[a2];exact .tuple _ _ (.cons _ _ _ _ r2 (.cons _ _ _ _ (.int _ _) .nil))
     ·cases h
    ·rename_i q;cases h;have j:=Mq (w:=w) (P:=P) d S l q;simp only[JV]at j;have g:=LH (P:=P) (y:=.map (ks++[k]) (vs++[zero]) (bs++[clock]) (clock+1)) (b1:=.map c clock) (b2:=.map (c.push { key:=s,val:=z,born:=clock }) (clock+1)) H hf R hμ L (by intros;simp) (by intros;simp)
      (.map _ _ _ _ _ pb pn pe (OD L) (by simpa using l.append (.cons _ _ _ _ S .nil)) (by simpa using D.append (.cons _ _ _ _ W .nil)) (by simp[A])
       (by
        rw[OM]
        refine⟨U,by simp,fun a ha b n=>?_⟩
        simp at n;subst n;exact K a ha)
       (by
        intro b n
        rw[Ca]at n
        rcases n with n|n
        ·exact Nat.lt_succ_of_lt (K b n)
        ·simp at n;omega))
     refine⟨.tuple #[z,.int .i64 clock],_,μ,?_,g.2,?_,fun _ _ h=>h,fun _ _=>rfl,rfl,rfl⟩
     ·simp only[Instr.mapEntry,CJ,BQ hd,Dj,Jf w pl.r c clock L,u,j,a4,g.1,Cs];rfl
     ·exact .tuple _ _ (.cons _ _ _ _ W (.cons _ _ _ _ (.int _ _) .nil))
    ·cases h
   ·cases h
  |_=>simp at h
 ·cases N
theorem QM{b:Nat}:∀{a:List Nat} {i:Nat},Mt a b=some i->a[i]? =some b/\∀j,j<i->a[j]?≠some b
 |[],i,h=>by simp[Mt]at h
 |x::a,i,h=>by
  simp only[Mt,beq_eq,Ad,Aw]at h;split at h
  ·rename_i e;subst e;cases h;exact⟨rfl,fun j g=>by omega⟩
  ·rename_i c;split at h
   ·rename_i l k;cases h;obtain⟨f,d⟩:=QM k;refine⟨by simpa using f,fun j g=>?_⟩;cases j with
    |zero=>simp[c]
    |succ j=>simpa using d j (by omega)
   ·cases h
theorem dR{f:Array MapEntry}{b i:Nat}(h:Mt (f.toList.map (·.born)) b=some i):f.findIdx? (fun e=>(e.born:Int)==(b:Int))=some i:=by obtain⟨d,k⟩:=QM h;rw[Gl]at d;obtain⟨m,a,l⟩:=Gf.1 d;rw[IW]at a;obtain⟨c,a⟩:=Io.1 a;rw[Array.findIdx?_eq_some_iff_getElem];refine⟨c,by rw[a];simp[l],fun j g=>?_⟩;have:=k j g;rw[Gl,IW,MO (by omega)]at this;simp at this;simp only[IJ,Int.natCast_inj,this,not_false_eq_true]
theorem find_born{es:Array MapEntry}{b i:Nat}{f:MapEntry}(h:Mt (es.toList.map (·.born)) b=some i)(c:es[i]? =some f):es.find? (fun e=>e.born==b)=some f:=by obtain⟨d,l⟩:=QM h;rw[Gl,IW,c]at d;obtain⟨a,g⟩:=Io.1 c;rw[Array.find?_eq_some_iff_getElem];refine⟨by simpa using d,i,a,g,fun j k=>?_⟩;have:=l j k;rw[Gl,IW,MO (by omega)]at this;simp at this;simpa using this
theorem Zv(H:CQ base w0 I μ st w){t:TypeId}{m b x v:AV}{T S l:Value}{g:St}(hm:BO I μ m T)(U:BO I μ b S)(hx:BO I μ x l)(h:Ha m b x st=some (v,g)):v=.undef/\ABY P base w0 I μ st w (Instr.entryStore t T S l) g:=by
 unfold Ha at h;split at h
 ·rename_i n hn;obtain⟨k,rfl⟩:=Ol U hn;cases hm with
  |Cq o pl p=>
   simp only[blt_eq,Ad,Aw]at h;split at h
   ·cases h
   rename_i a0;split at h
   ·rename_i N W L clock Q;obtain⟨a1,c,R,Y,Z,V,u,q,F,d,A,K⟩:=H.maps Q p;rw[p]at R;cases R;split at h
    ·rename_i i z;cases h;refine⟨rfl,?_⟩;rw[d]at z;have O:=(QM z).1;rw[Gl]at O;obtain⟨j,B,e2⟩:=Gf.1 O;have D:c[i]? =some j:=by rw[←IW];exact B
     have a:=TY c i j D fun e=>{ e with val:=l };have s:(c.toList.map (·.key)).set i j.key=c.toList.map (·.key):=YI (by rw[Gl,B];rfl);have J:(c.toList.map (·.born)).set i j.born=c.toList.map (·.born):=YI (by rw[Gl,B];rfl);have f:=LH (P:=P) (y:=.map N (W.set i x) L clock) (b1:=.map c clock) (b2:=.map (c.modify i fun e=>{ e with val:=l }) clock) H Q (by omega) p u (by intros;simp) (by intros;simp)
      (.map N _ L clock _ Y Z V (OD u) (by rw[a,GX,s];exact q) (by rw[a,GX];exact F.set hx i) (by rw[a,GX,J];exact d) A K)
     refine⟨_,?_,f.2,rfl,rfl⟩;have:=dR z;simp only[Instr.entryStore,CJ,Cs,Dj,Jf w pl.r c clock u,asInt,SY,this];exact f.1
    ·cases h
   ·cases h
  |_=>simp at h
 ·cases h
theorem xG(H:CQ base w0 I μ st w){t:TypeId}{o:Nat}(d:AA st.h o=some (.map [] [] [] 0))(a:μ o=none)(f:o<st.c):UI P base w0 I μ st w (some o) (Instr.makeMap t none) (.Cq o) st:=by
 have g:=H.yn (o:=o) (pl:=⟨w.heap.size,0,1,0,1⟩) (x:=.map #[] 0) d f a rfl
  (.map [] [] [] 0 #[] rfl rfl rfl (World.Jb w _) .nil .nil rfl .nil (by simp))
 refine⟨.map (some w.heap.size),_,_,?_,g,?_,JF a,fun p b=>?_,rfl,rfl⟩
 ·simp[Instr.makeMap,run_newObj,Result.andThen]
 ·exact .Cq o ⟨w.heap.size,0,1,0,1⟩ (by simp[Hm])
 ·have:p≠o:=fun e=>b (by rw[e]);simp[Hm,this]
end
end Go.Am
namespace Go.Am
open Go Go.RowKit
variable {P:Program}
section
variable {base:Nat}{w0:Start}{I:HY}{μ:Mu}{st:St}{w:World}
def AHW(P:Program)(base:Nat)(w0:Start)(I:HY)(μ:Mu)(st:St)(w:World)(o:Option Nat)(e:Sem Value)(m:M (AV×St)):Prop:=
 ∀Q,m.all Q->∃v st',Q (v,st')/\UI P base w0 I μ st w o e v st'
theorem NG{r since a:Nat}{m:Option Nat}{seen:Array Nat}(h:w.heap[r]? =some (.mapIter m since seen a)):(getObj r).run P w=.ok (.mapIter m since seen a) w:=by simp[getObj,Sem.run,h]
def xL(P:Program)(t:TypeId):Bool:=match P.underlying t with
 |some (.map ..)=>true
 |_=>false
theorem gD(H:CQ base w0 I μ st w){t:TypeId}(k:xL P t=true){o:Nat}{m v:AV}{j:Value}{f:St}(O:BO I μ m j)(h:KE o m st=some (v,f))(i:μ o=none)(y:o<st.c):UI P base w0 I μ st w (some o) (Instr.range t j) v f:=by
 unfold xL at k;split at k
 ·rename_i Y e s;have d:∀(ob:BJ) (b:Obj) (a:St),BA o ob st=some a->Qc I (Hm μ o ⟨w.heap.size,0,1,0,1⟩) (w.alloc b) ⟨w.heap.size,0,1,0,1⟩ ob ->
   (Instr.range t j).run P w=.ok (.pointer (some ⟨w.heap.size,0,none⟩)) (w.alloc b)->UI P base w0 I μ st w (some o) (Instr.range t j) (.AL o 0) a:=by
   intro ob b a g l L;obtain⟨H1,n,A,K,_⟩:=Vo H g i y;have T:=H1.yn (o:=o) (pl:=⟨w.heap.size,0,1,0,1⟩) (x:=b) n (by rw[A];exact y) i rfl l;refine⟨_,_,_,L,T,?_,JF i,fun p F=>?_,A,K⟩
   ·have:=BO.AL (I:=I) (μ:=Hm μ o ⟨w.heap.size,0,1,0,1⟩) o 0 ⟨w.heap.size,0,1,0,1⟩ (by simp[Hm]);simpa using this
   ·have:p≠o:=fun e=>F (by rw[e]);simp[Hm,this]
  unfold KE at h;cases O with
  |IZ=>
   simp only[Fs]at h;split at h
   ·rename_i a g;cases h;refine d _ (.mapIter none 0 #[] 0) _ g (.MB 0 [] 0 rfl rfl rfl (World.Jb w _)) ?_;simp[Instr.range,BQ s,run_newObj,Result.andThen]
   ·cases h
  |Cq x u q=>
   simp only at h;split at h
   ·rename_i V Z U clock n;simp only[Fs]at h;obtain⟨Q,es,z,pb,pn,W,J,D,R,B,N,S⟩:=H.maps n q;rw[q]at z;cases z;split at h
    ·rename_i a g;cases h;refine d _ (.mapIter (some u.r) clock #[] clock) _ g (.iter x u clock [] clock rfl rfl rfl (JF i _ _ q) (World.Jb w _)) ?_;simp[Instr.range,BQ s,run_newObj,Result.andThen,Jf w _ _ _ J]
    ·cases h
   ·cases h
  |_=>simp at h
 ·cases k
theorem CQ.xy(H:CQ base w0 I μ st w){o since a:Nat}{m:Option Nat}{seen:List Nat}(h:AA st.h o=some (.iter m since seen a)){c:Pl}(p:μ o=some c) :
 c.b=0/\c.n=1/\c.e=0/\((m=none/\w.heap[c.r]? =some (.mapIter none since seen.toArray a)) ∨
  ∃x d,m=some x/\μ x=some d/\w.heap[c.r]? =some (.mapIter (some d.r) since seen.toArray a)):=by
 have k:=H.obj o _ c h p;cases k with
 |MB _ _ _ g i j f=>exact⟨g,i,j,.inl ⟨rfl,f⟩⟩
 |iter x d _ _ _ g i j l f=>exact⟨g,i,j,.inr ⟨x,d,rfl,l,f⟩⟩
theorem ny{i:Nat}{x v:AV}{c:Value}{a:St}(k:BO I μ x c)(h:LP i x st=some (v,a)):a=st/\∃b,(Instr.extract c i).run P w=.ok b w/\BO I μ v b:=by
 unfold LP Ia at h;cases k with
 |tuple l d e=>
  simp only at h;split at h
  ·rename_i u j;cases h;obtain⟨b,g,f⟩:=e.get i v j;exact⟨rfl,b,by simp[Instr.extract,g],f⟩
  ·cases h
 |_=>simp at h
theorem jP{es:Array MapEntry}{i:List Nat}(c:i=es.toList.map (·.born)){h l:List AV}(d:BR I μ h (es.toList.map (·.key)))(e:BR I μ l (es.toList.map (·.val))){b j:Nat}(o:Mt i b=some j){k v:AV}(q:h[j]? =some k)(r:l[j]? =some v) :
 ∃a,es[j]? =some a/\a.born=b/\BO I μ k a.key/\BO I μ v a.val:=by
 obtain⟨n,u⟩:=QM o;rw[c,Gl]at n;obtain⟨a,m,t⟩:=Gf.1 n;obtain⟨w,f,p⟩:=d.get j k q;obtain⟨x,g,s⟩:=e.get j v r;rw[Gl,m]at f g;cases f;cases g;exact⟨a,by rw[←IW];exact m,t,p,s⟩
theorem yS(H:CQ base w0 I μ st w){z v:AV}{g:Value}{f:St}(O:BO I μ z g)(h:NH z st=some (v,f)) :
 f=st/\∃s,(Instr.entry g).run P w=.ok s w/\BO I μ v s:=by
 unfold NH at h;split at h
 ·rename_i i;cases O with
  |AL _ _ pl B=>
  split at h
  ·rename_i o since seen d L;obtain⟨K,pn,pe,n⟩:=H.xy L B;rcases n with⟨D,_⟩|⟨x,Y,Q,e,n⟩
   ·cases D
   cases Q;split at h
   ·rename_i ks vs Z clock q;obtain⟨U,es,t,_,_,_,p,m,r,c,R,W⟩:=H.maps q e;rw[e]at t;cases t;simp only[beq_eq,Ad,Aw]at h;split at h
    ·rename_i l;subst l;split at h
     ·rename_i b F;split at h
      ·rename_i j A;split at h
       ·rename_i k u J N;cases h;obtain⟨y,S,e2,T,V⟩:=jP c m r A J N;refine⟨rfl,.tuple #[y.key,y.val],?_,.tuple _ _ (.cons _ _ _ _ T (.cons _ _ _ _ V .nil))⟩;have AA:=find_born (es:=es) (b:=b) (by rw[←c];exact A) S;rw[K];have a:seen.toArray.back? =some b:=by simp[F]
        simp only[Instr.entry,CJ,NG n,Dj,a,Jf w _ _ _ p,IK,bne_self_eq_false,GA,Dn,Cs,AA]
       ·cases h
      ·cases h
     ·cases h
    ·cases h
   ·cases h
  ·cases h
 ·cases h
def Jy(es:Array MapEntry)(since:Nat)(seen:Array Nat):Array (Option MapEntry):=
 let left:=es.filter fun e=>!seen.contains e.born
 let CY:=left.filter (·.born<since)
 let new:=left.filter (·.born ≥ since)
 (if CY.isEmpty then #[none] else #[])++(CY++new).map some
theorem yg(a:Array MapEntry)(since:Nat)(seen:List Nat):(Jy a since seen.toArray).toList.map (Option.map (·.born))=candidates (a.toList.map (·.born)) since seen:=by
 unfold candidates Jy;have b:∀(l:List MapEntry) (p:Nat->Bool),(l.map (·.born)).filter p=(l.filter fun (e:MapEntry)=>p e.born).map (·.born):=fun l p=>by rw[List.filter_map];rfl
 simp only[b,Array.toList_append,Array.toList_map,Hf,Mv,Array.toList_filter,List.contains_toArray];congr 1
 ·have:(Array.filter (fun (x:MapEntry)=>decide (x.born<since)) (Array.filter (fun (e:MapEntry)=>!seen.contains e.born) a)).isEmpty =
   (List.map (fun (x:MapEntry)=>x.born) (List.filter (fun (e:MapEntry)=>decide (e.born<since)) (List.filter (fun (e:MapEntry)=>!seen.contains e.born) a.toList))).isEmpty:=by
   rw[←Array.isEmpty_toList];simp
  rw[this];split<;>rfl
theorem jg(a:Array MapEntry)(since:Nat)(seen:Array Nat):0<(Jy a since seen).size:=by
 unfold Jy;simp only[Array.size_append];split
 ·simp;omega
 ·rename_i h;rw[Array.isEmpty_iff_size_eq_zero]at h;simp only[Array.size_map,Array.size_append];omega
theorem jh{a:Array MapEntry}{since:Nat}{seen:Array Nat}{b:MapEntry}(h:some b∈Jy a since seen):b∈a:=by
 unfold Jy at h;simp only[Array.mem_append,Array.mem_map]at h;rcases h with h|⟨e,h,c⟩
 ·split at h<;>simp at h
 ·cases c;rcases h with h|h<;>exact (Array.mem_filter.1 (Array.mem_filter.1 h).1).1
theorem fV(n:Nat)(b:0<n)(w:World):∃j a,j<=n-1/\(choose (.mapNext n)).run P w=.ok j a/\(a=w∨a=w.drew):=by
 rw[run_choose];by_cases h:n<=1
 ·exact⟨0,w,by omega,by simp[Question.forced,h],.inl rfl⟩
 ·refine⟨w.tape w.drawn (.mapNext n) % n,w.drew,?_,by simp[Question.forced,h,Question.cut],.inr rfl⟩;have:=Nat.mod_lt (w.tape w.drawn (.mapNext n)) b;omega
theorem AAO(H:CQ base w0 I μ st w){args:List AV}{R:Value}{t:TypeId}(hi:BR I μ args [R]):AHW P base w0 I μ st w none (Instr.next R false t) (Qp args st):=by
 intro Q l;unfold Qp at l;split at l
 ·rename_i i;cases hi with
  |cons _ _ _ _ hi ht=>
  cases ht;cases hi with
  |AL _ _ pl hμ=>
  split at l
  ·rename_i since seen a V;obtain⟨N,pn,pe,v⟩:=H.xy V hμ;rcases v with⟨_,v⟩|⟨x,S,hx,_⟩
   ·refine⟨_,_,l,UI.stay H (rv:=.tuple #[.bool false]) ?_ (.tuple _ _ (.cons _ _ _ _ (.bool _) .nil))⟩;rw[N];simp[Instr.next,NG v,Result.andThen]
   ·cases hx
  ·rename_i o since seen a V;obtain⟨N,pn,pe,v⟩:=H.xy V hμ;rcases v with⟨h0,_⟩|⟨x,S,hx,z,v⟩
   ·cases h0
   cases hx;simp only[blt_eq,Ad,Aw]at l;split at l
   ·exact l.elim
   rename_i a7;split at l
   ·rename_i ks vs U clock a4;obtain⟨a8,f,g1,_,_,_,O,a5,a1,n,a3,a9⟩:=H.maps a4 z;rw[z]at g1;cases g1;split at l
    ·exact l.elim
    rename_i s;have hc:=yg f since seen;rw[←n]at hc;have B:(candidates U since seen).length=(Jy f since seen.toArray).size:=by rw[←hc];simp
    have J:=jg f since seen.toArray;obtain⟨j,Y,hj,g,D⟩:=fV (P:=P) _ J w;have c:=l j (by rw[B];exact hj);have d:j<(Jy f since seen.toArray).size:=by omega
    have a0:(candidates U since seen)[j]? =some ((Jy f since seen.toArray)[j].map (·.born)):=by rw[←hc,Gl,IW,MO d];rfl
    simp only[a0]at c;have H':CQ base w0 I μ st Y:=by rcases D with h|h<;>subst h;exact H;exact H.drew
    have A:Y.heap=w.heap:=by rcases D with h|h<;>subst h<;>rfl
    have m:(!seen.toArray.isEmpty&&!f.isEmpty&&f.all (·.born ≥ a))=false:=by
     have e1:U.isEmpty=f.isEmpty:=by rw[n,←Array.isEmpty_toList];simp
     have W:U.all (Nat.ble a)=f.all (·.born ≥ a):=by rw[n,List.all_map,←Array.all_toList];congr 1;funext e;simp[ble_eq]
     rw[e1,W]at s;simpa using s
    have Z:∀(K:Option MapEntry->Sem Value),(Jy f since seen.toArray)[j]? =some (Jy f since seen.toArray)[j]:=fun _=>MO d;cases hcv:(Jy f since seen.toArray)[j] with
    |none=>rw[hcv]at c;simp only[QR,Yd]at c;refine⟨_,_,c,.tuple #[.bool false],Y,μ,?_,H',.tuple _ _ (.cons _ _ _ _ (.bool _) .nil),fun _ _ h=>h,fun _ _=>rfl,rfl,rfl⟩;have b:=MO d;rw[hcv]at b;unfold Jy at b g;rw[N];simp only[Instr.next,CJ,NG v,Dj,Jf w _ _ _ O,IK,Cs,m,GA,Dn,g,b]
    |some en=>
     rw[hcv]at c;simp only[Jt,Yd]at c;split at c
     ·rename_i e he;split at c
      ·rename_i k u hk hu;obtain⟨p,e1,W,e3,e4⟩:=jP n a5 a1 he hk hu;have L:en∈f:=jh (by rw[←hcv];exact Array.getElem_mem d);have a6:p=en:=by
        obtain⟨q,q1⟩:=Array.getElem?_of_mem L;have hp:(f.toList.map (·.born)).Pairwise (·<·):=by rw[←n];exact a3
        rw[List.pairwise_iff_getElem]at hp;obtain⟨l1,v1⟩:=Io.1 e1;obtain⟨l2,v2⟩:=Io.1 q1;have a2:q=e:=by
         rcases Nat.lt_trichotomy q e with h|h|h
         ·have:=hp q e (by simpa using l2) (by simpa using l1) h;simp[v1,v2,W]at this
         ·exact h
         ·have:=hp e q (by simpa using l1) (by simpa using l2) h;simp[v1,v2,W]at this
        subst a2;rw[←v1,←v2]
       subst a6;have T:Y.heap[pl.r]? =some (.mapIter (some S.r) since seen.toArray a):=by rw[A];exact v
       have F:=LH (P:=P) (y:=.iter (some o) since (seen++[p.born]) clock) (b1:=.mapIter (some S.r) since seen.toArray a) (b2:=.mapIter (some S.r) since (seen.toArray.push p.born) clock) H' V (by omega) hμ T (by intros;simp) (by intros;simp)
        (.iter o S since _ clock N pn pe z (by rw[OD T];simp))
       refine⟨_,_,c,.tuple #[.bool true,p.key,p.val],_,μ,?_,F.2,.tuple _ _ (.cons _ _ _ _ (.bool _) (.cons _ _ _ _ e3 (.cons _ _ _ _ e4 .nil))),fun _ _ h=>h,fun _ _=>rfl,rfl,rfl⟩;have b:=MO d;rw[hcv]at b;unfold Jy at b g;rw[N];simp only[Instr.next,CJ,NG v,Dj,Jf w _ _ _ O,IK,Cs,m,GA,Dn,g,b,F.1]
      ·exact c.elim
     ·exact c.elim
   ·exact l.elim
  ·exact l.elim
 ·exact l.elim
end
end Go.Am
namespace Go.Am
open Go Go.RowKit
variable {P:Program}
section
variable {base:Nat}{w0:Start}{I:HY}{μ:Mu}{st:St}{w:World}
theorem PN(a:Addr)(n k:Nat)(h:k≠a.block):(w.freeze a n).heap[k]? =w.heap[k]?:=by
 unfold World.freeze;split
 ·rfl
 ·simp only[OO];rw[AJ (Aj h)]
theorem Wz(a b:Addr)(n:Nat):(w.freeze a n).cell? b=w.cell? b:=by
 unfold World.freeze;split
 ·rfl
 ·simp only[World.cell?,OO];by_cases h:a.block=b.block
  ·rw[AX h];cases hb:w.heap[b.block]? with
   |none=>rfl
   |some x=>cases x<;>rfl
  ·rw[AJ h]
theorem Wy(a:Addr)(n:Nat):(w.freeze a n).heap.size=w.heap.size:=by
 unfold World.freeze;split
 ·rfl
 ·simp
theorem uM(H:CQ base w0 I μ st w){o:Nat}{x:BJ}(g:AA st.h o=some x)(l:st.lo<=o){d:Pl}(c:μ o=some d)(j n:Nat) :
 CQ base w0 I μ { st with h:=Jv st.h o } (w.freeze ⟨d.r,j,none⟩ n):=by
 have b:∀p y,AA (Jv st.h o) p=some y->p≠o/\AA st.h p=some y:=fun p y h=>by
  rw[Gz]at h;by_cases e:o=p
  ·simp[e]at h
  ·simp[e]at h;exact⟨Aj e,h⟩
 refine⟨Lib.below_freeze H.below (H.lo o x d g c l) n,by rw[Wy];exact H.lC,?_,?_,H.jS,?_,?_,?_,?_,?_,fun p y h=>H.Bi p y (b p y h).2,H.XP⟩
 ·intro r i v h;rw[Wz];exact H.PM r i v h
 ·intro r t h;have k:r≠d.r:=fun e=>by subst e;rw[H.MX o x d g c]at h;cases h
  rw[PN _ _ _ k];exact H.Iy r t h
 ·intro p y q h a;obtain⟨m,f⟩:=b p y h;exact (H.obj p y q f a).world (PN _ _ _ (H.sep p o y x q d f g a c m))
 ·intro p y q h a;exact H.lo p y q (b p y h).2 a
 ·intro p r y z q s m f u A;exact H.sep p r y z q s (b p y m).2 (b r z f).2 u A
 ·intro p y q i h a;exact H.TL p y q i (b p y h).2 a
 ·intro p y q h a;exact H.MX p y q (b p y h).2 a
theorem bB{v:AV}{c:Value}{b:UInt8}(h:BO I μ v c)(a:byteOf v=some b):∃n:Int,c=.int .u8 n/\UInt8.ofNat n.toNat=b:=by
 cases h with
 |int k n=>cases k<;>simp[byteOf]at a;exact⟨n,rfl,a⟩
 |_=>simp[byteOf]at a
theorem UF:∀{f:List AV} {d:List Value} {l:List UInt8},BR I μ f d->bytesOf f=some l->∃e:List Int,d=e.map (Value.int .u8)/\e.map (fun n=>UInt8.ofNat n.toNat)=l
 |[],_,l,h,a=>by cases h;cases a;exact⟨[],rfl,rfl⟩
 |c::f,_,l,h,a=>by
  cases h with
  |cons _ q _ d h t=>
  simp only[bytesOf]at a;split at a
  ·rename_i b m;split at a
   ·rename_i p g;cases a;obtain⟨n,i,o⟩:=bB h m;obtain⟨e,j,k⟩:=UF t g;exact⟨n::e,by simp[i,j],by simp[o,k]⟩
   ·cases a
  ·cases a
theorem foldl_push:∀(a:List Int) (s:ByteArray),a.foldl (fun r n=>r.push (UInt8.ofNat n.toNat)) s=⟨⟨s.data.toList++a.map fun n=>UInt8.ofNat n.toNat⟩⟩
 |[],s=>by simp
 |n::a,s=>by simp only[List.foldl_cons,foldl_push a];simp[ByteArray.push]
def ADS(P:Program)(src dst:TypeId):Bool:=
 match P.underlying src,P.underlying dst with
 |some (.slice e),some .string=>(match P.underlying e with|some (.int .u8)=>true|_=>false)
 |_,_=>false
theorem oK(H:CQ base w0 I μ st w){c b:TypeId}(j:ADS P c b=true){x v:AV}{A:Value}{f:St}(O:BO I μ x A)(h:Nv x st=some (v,f)):f=st/\∃m,(convert c b A).run P w=.ok m w/\BO I μ v m:=by
 unfold ADS at j;split at j
 ·rename_i e B q;split at j
  ·rename_i F;have key:∀n k,lenOf x=some n->(∀s,x≠.str s)->BS st.h 1 n x=some k->Ia st ((bytesOf k).map AV.str)=some (v,f) ->
    f=st/\∃m,(convert c b A).run P w=.ok m w/\BO I μ v m:=by
    intro n k g d J h;unfold Ia at h;split at h
    ·rename_i u V;cases h;obtain⟨l,T,Q⟩:=Gf.1 V;subst Q;obtain⟨Y,i,S,g3,N⟩:=PU (P:=P) H O J;obtain⟨t,D,p⟩:=UF S T;refine⟨rfl,.string ⟨⟨l⟩⟩,?_,.str l⟩;cases O with
     |AO=>
      rw[run_convert_bytes_string w c b e none 0 0 B F q];simp[lenOf]at g;subst g;simp only[La]at N;have:=Gn N;subst this;have:t=[]:=by simpa using D.symm
      subst this;simp at p;subst p;rfl
     |list tight sz xs r z cap K hI W R hv y U=>simp[lenOf]at g;subst g;rw[run_convert_bytes_string w c b e _ _ _ B F q];simp only[Builtin.firstCells,Fe]at i;rw[D]at i;rw[run_bytesToString w _ _ _ t i,foldl_push];simp[p]
     |AU o z len cap pl a L Z hz ha hl y=>simp[lenOf]at g;subst g;rw[run_convert_bytes_string w c b e _ _ _ B F q];simp only[Builtin.firstCells,Fe]at i;rw[D]at i;rw[run_bytesToString w _ _ _ t i,foldl_push];simp[p]
     |str s=>exact absurd rfl (d s)
     |_=>simp[lenOf]at g
    ·cases h
   unfold Nv at h;split at h
   ·cases h
   ·rename_i d;split at h
    ·rename_i n g;split at h
     ·rename_i k J;exact key n k g d J h
     ·cases h
    ·cases h
  ·cases j
 ·cases j
theorem AAU{f:Fn}{args:List AV}{first captured:List Value}(c:BR I μ args (first++captured)) :
 (Instr.makeFunc f first.toArray captured.toArray).run P w=.ok (.func f first.toArray captured.toArray) w/\BO I μ (.fn f (args.take first.length) (args.drop first.length)) (.func f first.toArray captured.toArray):=by
 refine⟨by simp[Instr.makeFunc],?_⟩;have a:=c.take first.length
 have b:=c.drop first.length
 simp at a b;exact .fn f _ _ _ _ a b
end
end Go.Am
namespace Go.Am
open Go Go.RowKit
variable {P:Program}
section
variable {base:Nat}{w0:Start}{I:HY}{μ:Mu}{st:St}{w:World}
theorem fT(H:CQ base w0 I μ st w){t:TypeId}{len e N:Nat}(V:uE P t len e N=true){F A:Bool}{x v:AV}{Q:Value}{l:List AV}{R:List Value}{k:St}(hx:BO I μ x Q)(hl:BR I μ l R)(h:Mg len N F A (x::l) st=some (v,k)) :
 k=st/\∃f g:Option Value,R=f.toList++g.toList/\(F=true↔f.isSome=true)/\(A=true↔g.isSome=true) /\
  ∃L,(Instr.sliceAt t Q f g none).run P w=.ok L w/\BO I μ v L:=by
 obtain⟨S,i,s,y⟩:=qZ V;cases hx with
 |AL o j m n=>
  simp only[Mg]at h;split at h
  ·rename_i a l1 h1;obtain⟨f,a0,e1,q,o1,D⟩:=Mf hl h1;split at h
   ·rename_i b T;obtain⟨g,U,e2,B,o2,p⟩:=Mf D T;cases p;split at h
    ·rename_i ty z cs hf;simp only[beq_eq,ble_eq,blt_eq,Ad,Aq,Aw]at h;split at h
     ·rename_i W;obtain⟨⟨⟨⟨g1,Z⟩,g3⟩,g4⟩,g5⟩:=W;cases h;subst g1;obtain⟨a4,c,fz,a3,K,d,hn,he,hw,a2,a5,a1,O,Y⟩:=H.cells hf n;rw[n]at K;cases K;refine⟨rfl,f,g,?_,q,B,?_⟩
      ·rw[e1,e2];cases F<;>cases A<;>simp at q B ⊢<;>simp[q,B]
      ·have u:=Oa (P:=P) (w:=w) (isSlice:=false) (len:=len) (cap:=len) o1 o2 (Pk.none (I:=I) (μ:=μ)) (by simp) (by simpa using g3) (by simpa using g4) (by simp);refine⟨.slice (some (if len=a.getD 0 then ⟨m.r,m.b+j,none⟩ else (⟨m.r,m.b+j,none⟩:Addr).add (a.getD 0*z))) (b.getD len-a.getD 0) (len-a.getD 0),?_,?_⟩
       ·simp only[Instr.sliceAt,CJ,BQ S,Dj,Instr.sureAddr,Cs,FY s,y];rw[u];simp[Result.andThen]
       ·refine .AU o _ _ _ m _ _ n (by rw[d];exact Z) ⟨by split<;>simp[GZ],?_⟩ (by omega) ?_
        ·intro J;rw[AJ (by omega),GZ,Fg]
        ·refine⟨rfl,?_⟩;rw[d,hn,Fg,←Hq];have:a.getD 0+(len-a.getD 0)=len:=by omega
         rw[this];exact g5
     ·cases h
    ·cases h
   ·cases h
  ·cases h
 |_=>simp[Mg]at h
theorem rC{f:Array TypeId}{e:TypeId}{x v:AV}{g:Value}{b:St}(n:BO I μ x g)(h:Kk x st=some (v,b)) :
 b=st/\∃j,(Builtin.unsafeSliceData_ f e #[g]).run P w=.ok j w/\BO I μ v j:=by
 cases n with
 |AO=>simp[Kk]at h;obtain⟨q,l⟩:=h;subst q l;exact⟨rfl,_,Lib.run_unsafeSliceData_nil w f e 0 0,.DY⟩
 |AU o d len cap m a c k t p r s=>
  simp only[Kk,blt_eq,Ad,Aw]at h;split at h
  ·rename_i i;cases h;refine⟨rfl,_,Lib.run_unsafeSliceData_row w f e a len c (by omega),?_⟩;rw[p.2 (by omega)];exact .AL o d m k
  ·cases h
 |_=>simp[Kk]at h
theorem nI{e:TypeId}(c:P.cellsOf e=1)(count a n:Nat)(d:a+n<=count):liesAt P P.depth e count a e n=true:=by have b:P.depth=(2*(P.types.size+Made.depth)+1)+1:=rfl;rw[b];simp only[liesAt,FO];left;rw[b];simp[rowAt,c,d,sameLayout,Nat.mod_one]
theorem iG{e:TypeId}(b:P.cellsOf e≠0)(count:Nat)(c:1<=count):liesAt P P.depth e count 0 e 1=true:=by have a:P.depth=(2*(P.types.size+Made.depth)+1)+1:=rfl;rw[a];simp only[liesAt,FO];left;rw[a];simp[rowAt,b,c,sameLayout]
def lK(P:Program)(pt e:TypeId):Bool:=
 (match P.underlying pt with|some (.pointer e')=>Nat.beq e' e|_=>false)&&Nat.beq (P.cellsOf e) 1
theorem Ro:∀(l:List Int) (a:Addr) (b:ByteArray),(∀j x,l[j]? =some x->w.cell? (a.add j)=some (.int .u8 x)) ->
 (loadBytes a b l.length).run P w=.ok ⟨⟨b.data.toList++l.map fun n=>UInt8.ofNat n.toNat⟩⟩ w
 |[],a,b,_=>by simp[loadBytes]
 |x::l,a,b,h=>by
  have d:w.cell? a=some (.int .u8 x):=by have:=h 0 x rfl;simpa [Addr.add]using this
  have f:=Ro l (a.add 1) (b.push x.toNat.toUInt8) (fun j y c=>by
   have:=h (j+1) y (by simpa using c)
   have e:(a.add 1).add j=a.add (j+1):=by
    unfold Addr.add
    by_cases hj:j=0
    ·subst hj;simp
    ·simp[hj];omega
   rw[e];exact this)
  simp only[FV,loadBytes,CJ,run_load,d,Result.andThen];rw[f];simp[ByteArray.push]
theorem qE{pt it ty e:TypeId}(r:P.underlying pt=some (.pointer e))(q:P.cellsOf e=1)(g a cells:Nat)(m:w.shape? g=some (e,cells))(l:List Int)(u:l≠[])(v:a+l.length<=cells)(y:l.length<=9223372036854775807)(c:∀j x,l[j]? =some x->w.cell? ((⟨g,a,none⟩:Addr).add j)=some (.int .u8 x))(k:IntKind) :
 (Builtin.unsafeString_ #[pt,it] ty #[.pointer (some ⟨g,a,none⟩),.int k l.length]).run P w=.ok (.string ⟨⟨l.map fun n=>UInt8.ofNat n.toNat⟩⟩) (w.freeze ⟨g,a,none⟩ l.length):=by
 have t:l.length≠0:=by simpa using u
 have o:=Ro (P:=P) (w:=w) l ⟨g,a,none⟩ .empty c;have b:=nI (P:=P) q (cells / P.cellsOf e) a l.length (by rw[q];simpa using v);have i:¬(9223372036854775807:Int)<(l.length:Int):=by omega
 obtain⟨p,f⟩:∃p:String,Builtin.unsafeString_ #[pt,it] ty #[.pointer (some ⟨g,a,none⟩),.int k l.length] =
  (do
   let n ← asInt (.int k l.length)
   if n<0 then runtimePanic (.error p)
   if n>IntKind.i64.max then unsupported (.unsafePointer "String: a length above the largest int")
   if n=0 then pure (.string .empty)
   else if ← variablesAt ⟨g,a,none⟩ (← elemOf pt) n.toNat then do
    let s ← loadBytes ⟨g,a,none⟩ .empty n.toNat
    freeze ⟨g,a,none⟩ n.toNat
    pure (.string s)
   else unsupported (.unsafePointer "String: not so many bytes at ptr")):=⟨_,rfl⟩
 rw[f];have h:IntKind.i64.max=9223372036854775807:=rfl;have d:¬(l.length:Int)<0:=by omega
 simp[asInt,asIntOf,h,i,d,t,variablesAt,m,elemOf,BQ r,b,o]
theorem Xq{e f g:TypeId}(p:Option Addr)(k:IntKind):(Builtin.unsafeString_ #[e,f] g #[.pointer p,.int k 0]).run P w=.ok (.string .empty) w:=by
 have c:IntKind.i64.max=9223372036854775807:=rfl;cases p with
 |none=>
  obtain⟨d,h,b⟩:∃d h:String,Builtin.unsafeString_ #[e,f] g #[.pointer none,.int k 0] =
   (do
    let n ← asInt (.int k 0)
    if n<0 then runtimePanic (.error d)
    if n>IntKind.i64.max then unsupported (.unsafePointer "String: a length above the largest int")
    if n=0 then pure (.string .empty)
    else runtimePanic (.error h)):=⟨_,_,rfl⟩
  rw[b];simp[asInt,asIntOf,c]
 |some a=>
  obtain⟨d,b⟩:∃d:String,Builtin.unsafeString_ #[e,f] g #[.pointer (some a),.int k 0] =
   (do
    let n ← asInt (.int k 0)
    if n<0 then runtimePanic (.error d)
    if n>IntKind.i64.max then unsupported (.unsafePointer "String: a length above the largest int")
    if n=0 then pure (.string .empty)
    else if ← variablesAt a (← elemOf e) n.toNat then do
     let s ← loadBytes a .empty n.toNat
     freeze a n.toNat
     pure (.string s)
    else unsupported (.unsafePointer "String: not so many bytes at ptr")):=⟨_,rfl⟩
  rw[b];simp[asInt,asIntOf,c]
theorem fF(H:CQ base w0 I μ st w){pt it ty e:TypeId}(B:lK P pt e=true){p n v:AV}{rp rn:Value}{t:St}(hp:BO I μ p rp)(hn:BO I μ n rn)(h:Ky e p n st=some (v,t)):UI P base w0 I μ st w none (Builtin.unsafeString_ #[pt,it] ty #[rp,rn]) v t:=by
 unfold lK at B;rw[Aq]at B;obtain⟨i,J⟩:=B;have Q:=Cb J;split at i
 ·rename_i e' S;have:=Cb i;subst this;unfold Ky at h;split at h
  ·rename_i m hm;obtain⟨k,rfl⟩:=Ol hn hm;simp only[beq_eq,blt_eq,ble_eq,Ad,Aw,FO,Fp,Ji,Aq]at h;split at h
   ·rename_i h0;subst h0;cases hp with
    |DY=>simp at h;obtain⟨O,A⟩:=h;subst O A;exact UI.stay H (Xq none k) (.str [])
    |AL o d u y=>simp at h;obtain⟨O,A⟩:=h;subst O A;exact UI.stay H (Xq _ k) (.str [])
    |_=>simp at h
   ·rename_i h0;cases hp with
    |AL o d u y=>
     simp only at h;split at h
     ·cases h
     rename_i hc;split at h
     ·rename_i a2 sz cs ext hf;split at h
      ·rename_i hb;obtain⟨U,a4⟩:=hb;subst U;split at h
       ·rename_i l hl;cases h;obtain⟨a1,c,fz,T,z,L,a3,he,W,F,a6,s,Y,N⟩:=H.cells hf y;rw[y]at z;cases z;have a0:=s.length;obtain⟨V,Z,D⟩:=UF ((s.drop d).take m) hl;have q:l.length=m:=by rw[←D,Fz];have:=Ot List.length Z;simp at this;omega
        have f:V.length=m:=by rw[←q,←D];simp
        have R:=uM H hf (by omega) y (u.b+d) m;have K:room=2^40:=rfl;have a5:m<=room:=by
         rcases FU room m with h|h
         ·exact absurd (.inr (by omega)) hc
         ·exact h
        have g:=qE (P:=P) (w:=w) (pt:=pt) (it:=it) (ty:=ty) S Q u.r (u.b+d) c.size (by simp[World.shape?,W]) V (by intro h;subst h;simp at f;omega)
         (by rw[f];unfold Pl.fin at F;omega) (by rw[f];omega) (fun j x hj=>by
          have a:((T.drop d).take m)[j]? =some (.int .u8 x):=by rw[Z,Gl,hj];rfl
          rw[List.getElem?_take]at a
          split at a
          ·rw[QU]at a
           obtain⟨z,q2⟩:=GJ.1 a
           rw[GZ,GV W,Fg,N _ z,q2]
          ·cases a) k
        rw[f,D]at g;exact⟨_,_,μ,g,R,.str l,fun _ _ h=>h,fun _ _=>rfl,rfl,rfl⟩
       ·cases h
      ·cases h
     ·cases h
    |_=>simp at h
  ·cases h
 ·cases i
end
end Go.Am
namespace Go.Am
open Go Go.RowKit
variable {P:Program}
section
variable {base:Nat}{w0:Start}{I:HY}{μ:Mu}{st:St}{w:World}
def lL(P:Program)(src dst:TypeId)(e n:Nat):Bool:=
 (match P.info? e with|some i=>!Nat.beq i.size 0|none=>false)&&Nat.beq (P.cellsOf e) n&&Nat.blt 0 n &&
 match P.underlying src,P.underlying dst with
 |some (.pointer t),some .unsafePointer=>Nat.beq t e
 |some .unsafePointer,some (.pointer u)=>Nat.beq u e
 |_,_=>false
theorem vg(H:CQ base w0 I μ st w){B k e:TypeId}{n:Nat}(K:lL P B k e n=true){x v:AV}{U:Value}{s:St}(W:BO I μ x U)(h:Oy e n x st=some (v,s)) :
 s=st/\∃S,(convert B k U).run P w=.ok S w/\BO I μ v S:=by
 unfold lL at K;simp only[Aq]at K;obtain⟨⟨⟨d,z⟩,m⟩,a⟩:=K;have z:=Cb z;have a5:0<n:=by rw[blt_eq]at m;simpa using m
 have O:P.cellsOf e≠0:=by omega
 split at d
 ·rename_i i V;have N:i.size≠0:=fun q=>by rw[q]at d;cases d
  unfold Oy at h;split at h
  ·cases h;cases W;refine⟨rfl,_,?_,.DY⟩;split at a
   ·rename_i t g f;simp[convert,BQ g,BQ f,Conv.unsafePointer,Result.andThen]
   ·rename_i u g f;simp[convert,BQ g,BQ f,Conv.unsafePointer,Result.andThen]
   ·cases a
  ·rename_i o;split at h
   ·rename_i F sz cs hf;simp only[beq_eq,ble_eq,Ad,Aq,Aw]at h;split at h
    ·rename_i Y;obtain⟨Q,a1⟩:=Y;subst Q;cases h;cases W with
     |AL _ _ j J=>
     obtain⟨a4,c,fz,a3,R,L,hn,he,hw,p,a6,a0,T,Z⟩:=H.cells hf J;rw[J]at R;cases R;obtain⟨a2,y⟩:=he rfl;have A:w.shape? j.r=some (F,c.size):=by simp[World.shape?,hw]
     have l:0<c.size:=by unfold Pl.fin at p;omega
     refine⟨rfl,_,?_,.AL o 0 j J⟩;split at a
     ·rename_i t g f;have:=Cb a;subst this;exact Lib.run_to_unsafe (w:=w) ⟨j.r,j.b+0,none⟩ g f V N A (by simp[y];exact l)
     ·rename_i u g f;have:=Cb a;subst this;have D:1<=c.size / P.cellsOf u:=by rw[Nat.le_div_iff_mul_le (by omega)];unfold Pl.fin at p;omega
      exact Lib.run_from_unsafe (w:=w) ⟨j.r,j.b+0,none⟩ g f V A (by simp only[y];exact iG O _ D)
     ·cases a
    ·cases h
   ·cases h
  ·cases h
 ·cases d
def ifB(P:Program)(t:TypeId)(ts:List (Nat×CK)):Bool:=
 (match P.underlying t with|some (.interface _)=>true|_=>false)&&ts.all fun p=>zh P p.1 p.2&&(match P.info? p.1 with|some i=>i.comparable|none=>false)
theorem ABF{a:List (Nat×CK)}{t:Nat}{c:CK}(h:yc a t=some c):(t,c)∈a:=by
 induction a with
 |nil=>simp[yc]at h
 |cons q a b=>
  obtain⟨u,d⟩:=q;simp only[yc,beq_eq,Ad,Aw]at h;split at h
  ·rename_i e;subst e;cases h;simp
  ·exact Cu _ (b h)
theorem AAz(n:Nat){t u v:TypeId}{m:Array (String×TypeId)}(d:P.underlying t=some (.interface m))(c:u≠v)(a b:Value):(Op.equalIn (n+1) t (.iface u a) (.iface v b)).run P w=.ok false w:=by simp[Op.equalIn,BQ d,Result.andThen,c]
theorem AAy(n:Nat){t u:TypeId}{m:Array (String×TypeId)}(c:P.underlying t=some (.interface m)){i:TypeInfo}(e:P.info? u=some i)(d:i.comparable=true)(a b:Value) :
 (Op.equalIn (n+1) t (.iface u a) (.iface u b)).run P w=(Op.equalIn n u a b).run P w:=by
 simp[Op.equalIn,BQ c,Result.andThen,typeInfo,e,d]
theorem AAi{t:TypeId}{X Y:Operand}{J:List (Nat×CK)}(z:ifB P t J=true){f:Bool}{x y v:AV}{k j:Value}{q:St}(F:BO I μ x k)(p:BO I μ y j)(d:YU f J x y st=some (v,q)) :
 q=st/\∃n,(do eqGuard (if f then .neq else .eql) t X Y k j;Go.binOp (if f then .neq else .eql) t k j:Sem Value).run P w=.ok n w/\BO I μ v n:=by
 unfold ifB at z;rw[Aq]at z;obtain⟨o,D⟩:=z;split at o
 ·rename_i O r;have h:∀e,Nu k j=true->(Op.equal t k j).run P w=.ok e w->∃n,(do eqGuard (if f then .neq else .eql) t X Y k j;Go.binOp (if f then .neq else .eql) t k j:Sem Value).run P w=.ok n w/\BO I μ (.bool (e !=f)) n:=by intro e g B;exact⟨.bool (e !=f),by simp only[CJ,Wx g,Result.andThen,XC g,B],.bool _⟩
  have a:∀b:Bool,(AV.bool b)=.bool (false !=b):=fun b=>by cases b<;>rfl
  unfold YU at d;cases F with
  |Ij=>
   cases p with
   |iface u y j p=>simp at d;obtain⟨g,l⟩:=d;subst g l;refine⟨rfl,?_⟩;rw[a];exact h false rfl (qQ 9999 r _ _)
   |_=>simp at d
  |iface R x k F=>
   cases p with
   |Ij=>simp at d;obtain⟨g,l⟩:=d;subst g l;refine⟨rfl,?_⟩;rw[a];exact h false rfl (qP 9999 r _ _)
   |iface Q y j p=>
    simp only[beq_eq,Ad,Aw]at d;split at d
    ·rename_i e;subst e;split at d
     ·rename_i c N;split at d
      ·rename_i e L;simp at d;obtain⟨g,l⟩:=d;subst g l;refine⟨rfl,h e rfl ?_⟩;have H:=Fj.1 D _ (ABF N);simp only[Aq]at H;obtain⟨A,m⟩:=H;split at m
       ·rename_i i K;have B:=dw (w:=w) A F p L 9998;exact (AAy 9999 r K m _ _).trans B
       ·cases m
      ·cases d
     ·cases d
    ·rename_i s;simp at d;obtain⟨g,l⟩:=d;subst g l;refine⟨rfl,?_⟩;rw[a];exact h false rfl (AAz 9999 r s _ _)
   |_=>simp at d
  |_=>simp at d
 ·cases o
end
end Go.Am
namespace Go.Am
open Go Go.RowKit
variable {P:Program}
section
variable {base:Nat}{w0:Start}{I:HY}{μ:Mu}{st:St}{w:World}
theorem nZ(H:CQ base w0 I μ st w){o l A k:Nat}{u:List AV}{ext:Bool}(j:AA st.h o=some (.cells l A u ext)){a:Pl}(d:μ o=some a){c:Array Value}(z:w.heap[a.r]? =some (.cells c l (0,0)))(B:base<=a.r)(R:a.fin<=k):CQ base w0 I μ st (w.freeze ⟨a.r,k,none⟩ 1):=by
 have f:(w.freeze ⟨a.r,k,none⟩ 1).heap[a.r]? =some (.cells c l (k,k+1)):=by simp[World.freeze,OO,z]
 refine⟨Lib.below_freeze H.below B 1,by rw[Wy];exact H.lC,?_,?_,H.jS,?_,H.lo,H.sep,H.TL,H.MX,H.Bi,H.XP⟩
 ·intro r i v h;rw[Wz];exact H.PM r i v h
 ·intro r D h;have m:r≠a.r:=fun e=>by subst e;rw[H.MX o _ a j d]at h;cases h
  rw[PN _ _ _ m];exact H.Iy r D h
 ·intro p y q h g;by_cases e:p=o
  ·subst e;rw[j]at h;cases h;rw[d]at g;cases g;have:=H.obj p _ a j d;cases this with
   |cells _ _ _ _ P Q s n F J b t L K x N=>rw[z]at b;injection b with b;injection b with e1 e2 e3;subst e1;exact .cells l A u ext c (k,k+1) s n F J f t (fun i x O=>by simp only;omega) K x N
  ·exact (H.obj p y q h g).world (PN _ _ _ (H.sep p o y _ q a h j g d e))
def ACU(P:Program)(src dst:TypeId)(e:Nat):Bool:=
 match P.underlying src,P.underlying dst with
 |some .string,some (.slice e')=>Nat.beq e' e&&(match P.underlying e with|some (.int .u8)=>true|_=>false)
 |_,_=>false
theorem sJ(l:List UInt8):One (l.map fun (b:UInt8)=>Value.int .u8 b.toNat):=fun v a=>by obtain⟨b,_,h⟩:=BP.1 a;rw[←h];rfl
theorem ZJ(H:CQ base w0 I μ st w){s m:TypeId}{e o:Nat}(d:ACU P s m e=true){x v:AV}{F:Value}{ob:BJ}(L:BO I μ x F)(h:VL o e x=some (v,ob))(D:AA st.h o=some ob)(A:μ o=none)(K:o<st.c):UI P base w0 I μ st w (some o) (convert s m F) v st:=by
 unfold ACU at d;split at d
 ·rename_i j U Q;rw[Aq]at d;have:=Cb d.1;subst this;have d:=d.2;split at d
  ·rename_i O;unfold VL at h;cases L with
   |str l=>
    simp only[ble_eq,Ad,Aw]at h;split at h
    ·rename_i z;cases h;have i:room=2^40:=rfl;rw[i]at z;let cap:=l.length+w.tape w.drawn (.appendCap l.length 0 j) % (2^63-l.length);have r:l.length<=cap:=KF _ _;have B:=XB (I:=I) (μ:=μ) l;have T:=sJ l;have n:=B.length;obtain⟨R,V⟩:=YN (P:=P) H.drew (rest:=List.replicate (cap-l.length) (Value.int .u8 0)) D B T (fun h=>by cases h) A K;have f:(w.drew.alloc (.cells ((l.map fun (b:UInt8)=>Value.int .u8 b.toNat)++List.replicate (cap-l.length) (Value.int .u8 0)).toArray j)).heap[w.heap.size]? =some (.cells ((l.map fun (b:UInt8)=>Value.int .u8 b.toNat)++List.replicate (cap-l.length) (Value.int .u8 0)).toArray j (0,0)):=
      World.Jb w.drew _
     have q:Hm μ o ⟨w.heap.size,0,(IY l).length,(List.replicate (cap-l.length) (Value.int .u8 0)).length,1⟩ o=some ⟨w.heap.size,0,(IY l).length,(List.replicate (cap-l.length) (Value.int .u8 0)).length,1⟩:=by simp[Hm]
     have J:=nZ V D q f H.lC (k:=cap) (by simp[Pl.fin,n];omega);refine⟨.slice (some ⟨w.heap.size,0,none⟩) l.length cap,_,_,?_,J,?_,JF A,fun p S=>?_,rfl,rfl⟩
     ·have a:(Question.appendCap l.length 0 j).forced=false:=rfl;have N:((⟨⟨l⟩⟩:ByteArray).data.map fun (b:UInt8)=>Value.int .u8 b.toNat)++Array.replicate (cap-l.length) (Value.int .u8 0)=((l.map fun (b:UInt8)=>Value.int .u8 b.toNat)++List.replicate (cap-l.length) (Value.int .u8 0)).toArray:=by simp
      have t:((l.map fun (b:UInt8)=>Value.int .u8 b.toNat)++List.replicate (cap-l.length) (Value.int .u8 0)).toArray.size=cap:=by simp;omega
      simp only[convert,CJ,BQ U,BQ Q,BQ O,Dj,Conv.stringToBytes,run_choose,a,GA,Dn,size_mk,Question.cut];rw[N];have u:(newRow j ((l.map fun (b:UInt8)=>Value.int .u8 b.toNat)++List.replicate (cap-l.length) (Value.int .u8 0)).toArray).run P { w with drawn:=w.drawn+1 }=_:=R;rw[u];simp only[Dj,markStringish,CJ,run_shape];have y:(w.drew.alloc (.cells ((l.map fun (b:UInt8)=>Value.int .u8 b.toNat)++List.replicate (cap-l.length) (Value.int .u8 0)).toArray j)).shape? w.heap.size=some (j,cap):=by simp only[World.shape?,f,t]
      have g:w.drew.heap.size=w.heap.size:=rfl;rw[g,y];rfl
     ·refine .AU o 0 l.length none _ _ cap q (by simp) ⟨rfl,by intro _;simp⟩ r ?_;refine⟨by simp,?_⟩;simp[n];omega
     ·have:p≠o:=fun e=>S (by rw[e]);simp[Hm,this]
    ·cases h
   |_=>simp at h
  ·cases d
 ·cases d
theorem get_mk! (l:List UInt8)(i:Nat):(⟨⟨l⟩⟩:ByteArray)[i]! =l[i]?.getD default:=by rw[getElem!_def,getElem_mk];cases l[i]?<;>rfl
theorem find_range{l:List UInt8}(q:UInt8->Bool):(List.range l.length).find? (fun i=>q (l[i]?.getD default))=l.findIdx? q:=by
 induction l with
 |nil=>rfl
 |cons b l a=>
  rw[FV,List.range_succ_eq_map,List.find?_cons,List.findIdx?_cons];simp only[OU,KG];cases q b with
  |true=>rfl
  |false=>simp only[GA,Dn];rw[←a,List.find?_map];rfl
def cmpL:List UInt8->List UInt8->Int
 |[],[]=>0
 |[],_::_=>-1
 |_::_,[]=>1
 |x::a,y::b=>if x==y then cmpL a b else if x<y then -1 else 1
theorem cmpL_eq:∀a b:List UInt8,cmpL a b=if a==b then 0 else if Op.bytesLess a b then -1 else 1
 |[],[]=>rfl
 |[],_::_=>rfl
 |_::_,[]=>rfl
 |x::a,y::b=>by
  simp only[cmpL,cmpL_eq a b,Op.bytesLess];by_cases h:x=y
  ·subst h;simp
  ·simp[h]
theorem yV:∀a b:List UInt8,Extern.BytealgCompare.cmp ⟨⟨a⟩⟩ ⟨⟨b⟩⟩=cmpL a b
 |[],b=>by unfold Extern.BytealgCompare.cmp;simp only[size_mk,GY,Nat.zero_min,List.range_zero,List.find?_nil];cases b<;>simp[cmpL]
 |a::x,[]=>by unfold Extern.BytealgCompare.cmp;simp[size_mk,cmpL]
 |x::a,y::b=>by
  have c:=yV a b;unfold Extern.BytealgCompare.cmp at c⊢;simp only[size_mk,get_mk!,FV]at c⊢;rw[Nat.succ_min_succ,List.range_succ_eq_map,List.find?_cons];simp only[OU,KG,cmpL];by_cases h:x=y
  ·subst h;simp only[bne_self_eq_false,beq_self_eq_true,FC,←c];rw[List.find?_map];simp only[Lm,OT];cases h2:(List.range (min a.length b.length)).find? fun i=>a[i]?.getD default !=b[i]?.getD default with
   |none=>simp
   |some i=>simp
  ·have e:(x !=y)=true:=by simp[h]
   have d:(x==y)=false:=by simp[h]
   simp[e,d]
def qK:Ext->Array Value->Sem Value
 |.same=>Extern.AbiNoEscape.same
 |.indexByte=>Extern.BytealgIndexByte.indexByte
 |.compare=>Extern.BytealgCompare.compare
theorem CU{l:List AV}{f:AV->R}{r:AV×St}(h:Jd l f=some r):∃x,l=[x]/\f x=some r:=by
 unfold Jd at h;split at h
 ·exact⟨_,rfl,h⟩
 ·cases h
theorem Cz{l:List AV}{f:AV->AV->R}{r:AV×St}(h:Ke l f=some r):∃x y,l=[x,y]/\f x y=some r:=by
 unfold Ke at h;split at h
 ·exact⟨_,_,rfl,h⟩
 ·cases h
theorem KD{l:List AV}{f:AV->AV->AV->R}{r:AV×St}(h:ZV l f=some r):∃x y z,l=[x,y,z]/\f x y z=some r:=by
 unfold ZV at h;split at h
 ·exact⟨_,_,_,rfl,h⟩
 ·cases h
theorem BR.one{x:AV}{b:List Value}(h:BR I μ [x] b):∃a,b=[a]/\BO I μ x a:=by cases h with|cons _ a _ _ d c=>cases c;exact⟨a,rfl,d⟩
theorem BR.two{x y:AV}{c:List Value}(h:BR I μ [x,y] c):∃a b,c=[a,b]/\BO I μ x a/\BO I μ y b:=by cases h with|cons _ a _ _ f e=>obtain⟨b,rfl,d⟩:=e.one;exact⟨a,b,rfl,f,d⟩
theorem BR.three{x y z:AV}{d:List Value}(h:BR I μ [x,y,z] d):∃a b c,d=[a,b,c]/\BO I μ x a/\BO I μ y b/\BO I μ z c:=by cases h with|cons _ a _ _ g f=>obtain⟨b,c,rfl,e,i⟩:=f.two;exact⟨a,b,c,rfl,g,e,i⟩
theorem ADH{e:Ext}{args:List AV}{f:List Value}{v:AV}{j:St}(r:BR I μ args f)(h:gM e args st=some (v,j)) :
 j=st/\∃s,(qK e f.toArray).run P w=.ok s w/\BO I μ v s:=by
 cases e with
 |same=>obtain⟨x,rfl,h⟩:=CU (show Jd args (fun x=>some (x,st))=_ from h);obtain⟨q,rfl,k⟩:=r.one;cases h;exact⟨rfl,q,rfl,k⟩
 |indexByte=>
  obtain⟨x,y,m,g⟩:=Cz h;subst m;clear h;have h:=g;obtain⟨q,u,rfl,k,p⟩:=r.two;unfold LJ at h;cases k with
  |str l=>
   simp only at h;split at h
   ·rename_i c B;cases h;obtain⟨n,A,t⟩:=bB p B;subst A;refine⟨rfl,_,?_,.int _ _⟩;have o:=find_range (l:=l) (fun b=>b==c);have z:n.toNat.toUInt8=c:=t;have d:qK .indexByte [Value.string ⟨⟨l⟩⟩,.int .u8 n].toArray=(do
     let b ← pure (⟨⟨l⟩⟩:ByteArray)
     let c ← pure n.toNat.toUInt8
     match (List.range b.size).find? fun i=>b[i]! ==c with
     |some i=>pure (goInt i)
     |none=>pure (goInt (-1))):=rfl
    rw[d];simp only[CJ,Cs,Dj,size_mk,get_mk!,z];rw[o];cases l.findIdx? fun b=>b==c<;>rfl
   ·cases h
  |_=>simp at h
 |compare=>
  obtain⟨x,y,m,g⟩:=Cz h;subst m;clear h;have h:=g;obtain⟨q,u,rfl,k,p⟩:=r.two;unfold LU at h;cases k with
  |str a=>
   cases p with
   |str b=>
    simp only at h;cases h;refine⟨rfl,_,?_,.int _ _⟩;have:=yV a b;rw[cmpL_eq]at this;have d:qK .compare [Value.string ⟨⟨a⟩⟩,.string ⟨⟨b⟩⟩].toArray=(do
     let a ← pure (⟨⟨a⟩⟩:ByteArray)
     let b ← pure (⟨⟨b⟩⟩:ByteArray)
     pure (goInt (Extern.BytealgCompare.cmp a b))):=rfl
    rw[d];simp only[CJ,Cs,Dj,this];rfl
   |_=>simp at h
  |_=>simp at h
end
end Go.Am
