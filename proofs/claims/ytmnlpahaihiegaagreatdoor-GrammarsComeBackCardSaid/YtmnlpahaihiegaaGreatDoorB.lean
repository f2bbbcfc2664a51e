/- A part of the proof of grammarsComeBack (merged by a program). -/
import Derived.Test.YtmnlpahaihiegaaGreatDoorA
import Derived.IntWalk
import Derived.Laws.BytesString
import Derived.Laws.Cells
import Derived.Laws.IdiomCopy
import Derived.Laws.Strings
import Derived.Laws.StructEq
import Derived.Lib.Builder
import Derived.Lib.UnsafeStr
import Derived.WideLaws
section
namespace Go.Am
open Go Go.RowKit
structure Pl where
 r:Nat
 b:Nat
 n:Nat
 e:Nat
 sz:Nat
structure Cv where
 cell:Nat->Nat->Option Value
 map:Nat->Option Obj
def Cv.le (I J:Cv):Prop:=(∀r o v,I.cell r o=some v->J.cell r o=some v)/\(∀r x,I.map r=some x->J.map r=some x)
theorem Cv.le_refl (I:Cv):I.le I:=⟨fun _ _ _ h=>h,fun _ _ h=>h⟩
theorem Cv.le_trans {I J K:Cv}(h:I.le J)(k:J.le K):I.le K:=⟨fun r o v x=>k.1 r o v (h.1 r o v x),fun r x y=>k.2 r x (h.2 r x y)⟩
abbrev Mu:=Nat->Option Pl
def One (l:List Value):Prop:=∀v∈l,v.oneCell'=true
def Ny (pl:Pl)(off:Nat)(cap:Option Nat)(rcap:Nat):Prop:=
 match cap with
 |some c=>rcap=c/\off+c*pl.sz<=pl.n
 |none=>off<=pl.n/\rcap*pl.sz=pl.n-off+pl.e
 mutual
inductive Ae (I:Cv) (μ:Mu):AV->Value->Prop
 |bool (b:Bool):Ae I μ (.bool b) (.bool b)
 |int (k:IntKind) (n:Int):Ae I μ (.int k n) (.int k n)
 |str (l:List UInt8):Ae I μ (.str l) (.string ⟨⟨l⟩⟩)
 |Ba:Ae I μ .Ba (.pointer none)
 |AO (o off:Nat) (pl:Pl) (h:μ o=some pl):Ae I μ (.AO o off) (.pointer (some ⟨pl.r,pl.b+off,none⟩))
 |BN (cs:List AV) (r off:Nat) (rvs:List Value) (hI:∀(i:Nat) (h:i<rvs.length),I.cell r (off+i)=some rvs[i]) (h1:One rvs)
  (h:Ah I μ cs rvs):Ae I μ (.BN cs) (.pointer (some ⟨r,off,none⟩))
 |AB:Ae I μ .AB (.slice none 0 0)
 |list (tight:Bool) (sz:Nat) (xs:List AV) (r off cap:Nat) (rvs:List Value) (hI:∀(i:Nat) (h:i<rvs.length),I.cell r (off+i)=some rvs[i]) (h1:One rvs)
  (hs:∀x∈xs,x.cells.length=sz) (h:Ah I μ (xs.flatMap AV.cells) rvs) (hc:xs.length<=cap) (ht:tight=true->cap=xs.length) :
  Ae I μ (.list tight sz xs) (.slice (some ⟨r,off,none⟩) xs.length cap)
 |AU (o off len:Nat) (cap:Option Nat) (pl:Pl) (a:Addr) (rcap:Nat) (h:μ o=some pl) (hz:0<pl.sz)
  (ha:a.spot=none/\(0<rcap->a=⟨pl.r,pl.b+off,none⟩)) (hl:len<=rcap) (hc:Ny pl off cap rcap):Ae I μ (.AU o off len cap) (.slice (some a) len rcap)
 |De:Ae I μ .De (.map none)
 |Cq (o:Nat) (pl:Pl) (h:μ o=some pl):Ae I μ (.Cq o) (.map (some pl.r))
 |Gs (ks vs:List AV) (r:Nat) (es:Array MapEntry) (clock:Nat) (hI:I.map r=some (.map es clock)) (hk:Ah I μ ks (es.toList.map (·.key)))
  (hv:Ah I μ vs (es.toList.map (·.val))):Ae I μ (.Gs ks vs) (.map (some r))
 |fn (f:Fn) (a b:List AV) (ra rb:List Value) (ha:Ah I μ a ra) (hb:Ah I μ b rb):Ae I μ (.fn f a b) (.func f ra.toArray rb.toArray)
 |Ih:Ae I μ .Ih .nilFunc
 |iface (t:Nat) (v:AV) (rv:Value) (h:Ae I μ v rv):Ae I μ (.iface t v) (.iface t rv)
 |Cs:Ae I μ .Cs .nilIface
 |agg (cs:List AV) (rvs:List Value) (h:Ah I μ cs rvs) (h1:One rvs):Ae I μ (.agg cs) (.agg rvs.toArray)
 |tuple (cs:List AV) (rvs:List Value) (h:Ah I μ cs rvs):Ae I μ (.tuple cs) (.tuple rvs.toArray)
inductive Ah (I:Cv) (μ:Mu):List AV->List Value->Prop
 |nil:Ah I μ [] []
 |cons (v:AV) (rv:Value) (l:List AV) (rl:List Value) (h:Ae I μ v rv) (t:Ah I μ l rl):Ah I μ (v::l) (rv::rl)
end
section
variable {I J:Cv}{μ ν:Mu}
theorem Ah.length {l:List AV}{rl:List Value}(h:Ah I μ l rl):l.length=rl.length:=by
 induction l generalizing rl with
 |nil=>cases h; rfl
 |cons v l ih=>cases h with|cons _ _ _ _ _ t=>simp[ih t]
theorem Ah.get {l:List AV}{rl:List Value}(h:Ah I μ l rl):∀(i:Nat) (v:AV),l[i]? =some v->∃rv,rl[i]? =some rv/\Ae I μ v rv:=by
 induction l generalizing rl with
 |nil=>intro i v hi; simp at hi
 |cons x l ih=>
  cases h with
  |cons _ rv _ rl h t=>
   intro i v hi
   cases i with
   |zero=>simp at hi; subst hi; exact⟨rv,rfl,h⟩
   |succ i=>simpa using ih t i v (by simpa using hi)
theorem Ah.Mh {l:List AV}{rl:List Value}(hl:l.length=rl.length)(h:∀(i:Nat) (v:AV) (rv:Value),l[i]? =some v->rl[i]? =some rv->Ae I μ v rv):Ah I μ l rl:=by
 induction l generalizing rl with
 |nil=>cases rl with
  |nil=>exact .nil
  |cons=>simp at hl
 |cons x l ih=>cases rl with
  |nil=>simp at hl
  |cons r rl=>exact .cons _ _ _ _ (h 0 x r rfl rfl) (ih (by simpa using hl) fun i v rv a b=>h (i+1) v rv (by simpa using a) (by simpa using b))
theorem Ah.append {a b:List AV}{ra rb:List Value}(ha:Ah I μ a ra)(hb:Ah I μ b rb):Ah I μ (a++b) (ra++rb):=by
 induction a generalizing ra with
 |nil=>cases ha; exact hb
 |cons x l ih=>cases ha with|cons _ _ _ _ h t=>exact .cons _ _ _ _ h (ih t)
theorem Ah.drop {l:List AV}{rl:List Value}(h:Ah I μ l rl):∀n,Ah I μ (l.drop n) (rl.drop n):=by
 induction l generalizing rl with
 |nil=>cases h; intro n; simp; exact .nil
 |cons x l ih=>cases h with
  |cons _ _ _ _ h t=>intro n; cases n with
   |zero=>exact .cons _ _ _ _ h t
   |succ n=>simpa using ih t n
theorem Ah.take {l:List AV}{rl:List Value}(h:Ah I μ l rl):∀n,Ah I μ (l.take n) (rl.take n):=by
 induction l generalizing rl with
 |nil=>cases h; intro n; simp; exact .nil
 |cons x l ih=>cases h with
  |cons _ _ _ _ h t=>intro n; cases n with
   |zero=>exact .nil
   |succ n=>exact .cons _ _ _ _ h (ih t n)
theorem Ah.split {a b:List AV}{r:List Value}(h:Ah I μ (a++b) r):Ah I μ a (r.take a.length)/\Ah I μ b (r.drop a.length):=by
 have h1:=h.take a.length
 have h2:=h.drop a.length
 simp at h1 h2
 exact⟨h1,h2⟩
def Mu.le (μ ν:Mu):Prop:=∀o pl,μ o=some pl->ν o=some pl
 mutual
theorem Ae.mono (hI:I.le J) (hμ:μ.le ν):∀{v:AV} {rv:Value},Ae I μ v rv->Ae J ν v rv
 |_,_,.bool b=>.bool b
 |_,_,.int k n=>.int k n
 |_,_,.str l=>.str l
 |_,_,.Ba=>.Ba
 |_,_,.AO o off pl h=>.AO o off pl (hμ _ _ h)
 |_,_,.BN cs r off rvs h h1 t=>.BN cs r off rvs (fun i hi=>hI.1 _ _ _ (h i hi)) h1 (Ah.mono hI hμ t)
 |_,_,.AB=>.AB
 |_,_,.list tight sz xs r off cap rvs h h1 hs t hc ht=>.list tight sz xs r off cap rvs (fun i hi=>hI.1 _ _ _ (h i hi)) h1 hs (Ah.mono hI hμ t) hc ht
 |_,_,.AU o off len cap pl a rcap h hz ha hl hc=>.AU o off len cap pl a rcap (hμ _ _ h) hz ha hl hc
 |_,_,.De=>.De
 |_,_,.Cq o pl h=>.Cq o pl (hμ _ _ h)
 |_,_,.Gs ks vs r es clock h hk hv=>.Gs ks vs r es clock (hI.2 _ _ h) (Ah.mono hI hμ hk) (Ah.mono hI hμ hv)
 |_,_,.fn f a b ra rb ha hb=>.fn f a b ra rb (Ah.mono hI hμ ha) (Ah.mono hI hμ hb)
 |_,_,.Ih=>.Ih
 |_,_,.iface t v rv h=>.iface t v rv (Ae.mono hI hμ h)
 |_,_,.Cs=>.Cs
 |_,_,.agg cs rvs h h1=>.agg cs rvs (Ah.mono hI hμ h) h1
 |_,_,.tuple cs rvs h=>.tuple cs rvs (Ah.mono hI hμ h)
theorem Ah.mono (hI:I.le J) (hμ:μ.le ν):∀{l:List AV} {rl:List Value},Ah I μ l rl->Ah J ν l rl
 |_,_,.nil=>.nil
 |_,_,.cons v rv l rl h t=>.cons v rv l rl (Ae.mono hI hμ h) (Ah.mono hI hμ t)
end
theorem Ae.cells {v:AV}{rv:Value}(h:Ae I μ v rv)(hnt:v.isTuple=false):∃rvs,rv.cells.toList=rvs/\Ah I μ v.cells rvs/\One rvs:=by
 have one:∀{x:AV} {y:Value},Ae I μ x y->y.oneCell'=true->Ah I μ [x] [y]/\One [y]:=fun h h1=>
  ⟨.cons _ _ _ _ h .nil,fun v hv=>by simp at hv; rw[hv]; exact h1⟩
 cases h with
 |agg cs rvs h h1=>exact⟨rvs,by simp[Value.cells],h,h1⟩
 |tuple=>simp[AV.isTuple] at hnt
 |bool b=>exact⟨_,rfl,one (.bool b) rfl⟩
 |int k n=>exact⟨_,rfl,one (.int k n) rfl⟩
 |str l=>exact⟨_,rfl,one (.str l) rfl⟩
 |Ba=>exact⟨_,rfl,one .Ba rfl⟩
 |AO o off pl h=>exact⟨_,rfl,one (.AO o off pl h) rfl⟩
 |BN cs r off rvs h h1 t=>exact⟨_,rfl,one (.BN cs r off rvs h h1 t) rfl⟩
 |AB=>exact⟨_,rfl,one .AB rfl⟩
 |list tight sz xs r off cap rvs h h1 hs t hc ht=>exact⟨_,rfl,one (.list tight sz xs r off cap rvs h h1 hs t hc ht) rfl⟩
 |AU o off len cap pl a rcap h hz ha hl hc=>exact⟨_,rfl,one (.AU o off len cap pl a rcap h hz ha hl hc) rfl⟩
 |De=>exact⟨_,rfl,one .De rfl⟩
 |Cq o pl h=>exact⟨_,rfl,one (.Cq o pl h) rfl⟩
 |Gs ks vs r es clock h hk hv=>exact⟨_,rfl,one (.Gs ks vs r es clock h hk hv) rfl⟩
 |fn f a b ra rb ha hb=>exact⟨_,rfl,one (.fn f a b ra rb ha hb) rfl⟩
 |Ih=>exact⟨_,rfl,one .Ih rfl⟩
 |iface t v rv h=>exact⟨_,rfl,one (.iface t v rv h) rfl⟩
 |Cs=>exact⟨_,rfl,one .Cs rfl⟩
end
theorem beq_eq (a b:Nat):Nat.beq a b=decide (a=b):=by
 cases h:Nat.beq a b with
 |true=>simp[Nat.eq_of_beq_eq_true h]
 |false=>simp[Nat.ne_of_beq_eq_false h]
theorem ble_eq (a b:Nat):Nat.ble a b=decide (a<=b):=by
 cases h:Nat.ble a b with
 |true=>simp[Nat.le_of_ble_eq_true h]
 |false=>simp; exact Nat.lt_of_not_le fun h'=>by rw[Nat.ble_eq_true_of_le h'] at h; cases h
theorem blt_eq (a b:Nat):Nat.blt a b=decide (a<b):=by
 show Nat.ble (a+1) b=_
 rw[ble_eq]; simp only[Nat.lt_iff_add_one_le]
theorem AJ (i:Nat)(x:Al)(h:Heap)(o:Nat):AA ((i,x)::h) o=if i=o then some x else AA h o:=by
 simp[AA,beq_eq,cond_eq_ite]
theorem Fa (h:Heap)(o:Nat)(y:Al)(hx:(AA h o).isSome)(p:Nat):AA (Aa h o y) p=if o=p then some y else AA h p:=by
 induction h with
 |nil=>simp[AA] at hx
 |cons q h ih=>
  obtain⟨i,x⟩:=q
  by_cases hi:i=o
  ·subst hi
   simp only[Aa,beq_eq,decide_true,cond_true,AJ]
   by_cases hp:i=p <;> simp[hp]
  ·simp only[Aa,beq_eq,hi,decide_false,cond_false,AJ]
   rw[AJ,if_neg hi] at hx
   rw[ih hx]
   by_cases hp:i=p
   ·subst hp; simp[Ne.symm hi]
   ·simp[hp]
theorem GV {h h':Heap}{o:Nat}{y:Al}(hp:LZ h o y=some h')(p:Nat):AA h' p=if o=p then some y else AA h p:=by
 induction h generalizing h' with
 |nil=>simp[LZ] at hp; subst hp; simp[AJ]
 |cons q h ih=>
  obtain⟨i,x⟩:=q
  simp only[LZ,blt_eq,beq_eq] at hp
  by_cases h1:i<o
  ·simp[h1] at hp; subst hp; simp[AJ]
  ·by_cases h2:i=o
   ·simp[h2] at hp
   ·simp only[h1,h2,decide_false,cond_false] at hp
    cases hq:LZ h o y with
    |none=>simp[hq] at hp
    |some h2'=>
     simp[hq] at hp
     subst hp
     rw[AJ,ih hq,AJ]
     by_cases h3:i=p
     ·subst h3; simp[Ne.symm h2]
     ·simp[h3]
theorem Dz (h:Heap)(o p:Nat):AA (GL h o) p=if o=p then none else AA h p:=by
 induction h with
 |nil=>simp[GL,AA]
 |cons q h ih=>
  obtain⟨i,x⟩:=q
  by_cases hi:i=o
  ·subst hi
   simp only[GL,beq_eq,decide_true,cond_true,ih,AJ]
   by_cases hp:i=p <;> simp[hp]
  ·simp only[GL,beq_eq,hi,decide_false,cond_false,AJ,ih]
   by_cases hp:i=p
   ·subst hp; simp[Ne.symm hi]
   ·simp[hp]
def Pl.fin (pl:Pl):Nat:=pl.b+pl.n+pl.e
inductive Ke (I:Cv) (μ:Mu) (w:World) (pl:Pl):Al->Prop
 |cells (ty sz:Nat) (cs:List AV) (ext:Bool) (c:Array Value) (fz:Nat × Nat) (rvs:List Value) (hsz:pl.sz=sz) (hn:pl.n=cs.length)
  (he:ext=false->pl.e=0/\pl.b=0) (hw:w.heap[pl.r]? =some (.cells c ty fz)) (hb:pl.fin<=c.size)
  (hf:∀i,pl.b<=i->i<pl.fin->¬(fz.1<=i/\i<fz.2)) (h:Ah I μ cs rvs) (h1:One rvs)
  (hc:∀(i:Nat) (h:i<rvs.length),c[pl.b+i]? =some rvs[i]):Ke I μ w pl (.cells ty sz cs ext)
 |map (ks vs:List AV) (bs:List Nat) (clock:Nat) (es:Array MapEntry) (hb:pl.b=0) (hn:pl.n=1) (he:pl.e=0) (hw:w.heap[pl.r]? =some (.map es clock))
  (hk:Ah I μ ks (es.toList.map (·.key))) (hv:Ah I μ vs (es.toList.map (·.val))) (hbs:bs=es.toList.map (·.born)) (hs:bs.Pairwise (·<·)) (hc:∀b∈bs,b<clock) :
  Ke I μ w pl (.map ks vs bs clock)
 |Gu (since:Nat) (seen:List Nat) (stepped:Nat) (hb:pl.b=0) (hn:pl.n=1) (he:pl.e=0) (hw:w.heap[pl.r]? =some (.mapIter none since seen.toArray stepped)) :
  Ke I μ w pl (.iter none since seen stepped)
 |iter (o:Nat) (pm:Pl) (since:Nat) (seen:List Nat) (stepped:Nat) (hb:pl.b=0) (hn:pl.n=1) (he:pl.e=0) (hm:μ o=some pm)
  (hw:w.heap[pl.r]? =some (.mapIter (some pm.r) since seen.toArray stepped)):Ke I μ w pl (.iter (some o) since seen stepped)
structure Start where
 w:World
 JZ:Cv
structure Ay (base:Nat)(w0:Start)(I:Cv)(μ:Mu)(st:St)(w:World):Prop where
 below:Below base w0.w w
 Tx:base<=w.heap.size
 JZ:∀r off v,I.cell r off=some v->w.cell? ⟨r,off,none⟩=some v
 Dj:∀r b,I.map r=some b->w.heap[r]? =some b
 VV:∀o,st.c<=o->μ o=none
 obj:∀o ob pl,AA st.h o=some ob->μ o=some pl->Ke I μ w pl ob
 lo:∀o ob pl,AA st.h o=some ob->μ o=some pl->st.lo<=o->base<=pl.r
 sep:∀o p x y pl pm,AA st.h o=some x->AA st.h p=some y->μ o=some pl->μ p=some pm->o≠p->pl.r≠pm.r
 MI:∀o x pl i,AA st.h o=some x->μ o=some pl->pl.b<=i->i<pl.fin->I.cell pl.r i=none
 HZ:∀o x pl,AA st.h o=some x->μ o=some pl->I.map pl.r=none
 Bc:∀o x,AA st.h o=some x->o<st.c
 OY:∀r,r<base->(∀off,I.cell r off=w0.JZ.cell r off)/\I.map r=w0.JZ.map r
theorem Ke.mono {I J:Cv}{μ ν:Mu}{w:World}{pl:Pl}{ob:Al}(hI:I.le J)(hμ:μ.le ν)(h:Ke I μ w pl ob):Ke J ν w pl ob:=by
 cases h with
 |cells ty sz cs ext c fz rvs hsz hn he hw hb hf h h1 hc=>exact .cells ty sz cs ext c fz rvs hsz hn he hw hb hf (h.mono hI hμ) h1 hc
 |map ks vs bs clock es hb hn he hw hk hv hbs hs hc=>exact .map ks vs bs clock es hb hn he hw (hk.mono hI hμ) (hv.mono hI hμ) hbs hs hc
 |Gu since seen stepped hb hn he hw=>exact .Gu since seen stepped hb hn he hw
 |iter o pm since seen stepped hb hn he hm hw=>exact .iter o pm since seen stepped hb hn he (hμ _ _ hm) hw
theorem Ke.world {I:Cv}{μ:Mu}{w w':World}{pl:Pl}{ob:Al}(hw:w'.heap[pl.r]? =w.heap[pl.r]?)(h:Ke I μ w pl ob):Ke I μ w' pl ob:=by
 cases h with
 |cells ty sz cs ext c fz rvs hsz hn he h2 hb hf h h1 hc=>exact .cells ty sz cs ext c fz rvs hsz hn he (hw.trans h2) hb hf h h1 hc
 |map ks vs bs clock es hb hn he h2 hk hv hbs hs hc=>exact .map ks vs bs clock es hb hn he (hw.trans h2) hk hv hbs hs hc
 |Gu since seen stepped hb hn he h2=>exact .Gu since seen stepped hb hn he (hw.trans h2)
 |iter o pm since seen stepped hb hn he hm h2=>exact .iter o pm since seen stepped hb hn he hm (hw.trans h2)
theorem Ke.lt {I:Cv}{μ:Mu}{w:World}{pl:Pl}{ob:Al}(h:Ke I μ w pl ob):pl.r<w.heap.size:=by
 have key:∀{x:Obj},w.heap[pl.r]? =some x->pl.r<w.heap.size:=fun {x} hx=>by
  rcases Nat.lt_or_ge pl.r w.heap.size with h|h
  ·exact h
  ·rw[Array.getElem?_eq_none h] at hx; cases hx
 cases h with
 |cells _ _ _ _ _ _ _ _ _ _ h2=>exact key h2
 |map _ _ _ _ _ _ _ _ h2=>exact key h2
 |Gu _ _ _ _ _ _ h2=>exact key h2
 |iter _ _ _ _ _ _ _ _ _ h2=>exact key h2
def Cu (μ:Mu)(o:Nat)(pl:Pl):Mu:=fun p=>if p=o then some pl else μ p
theorem Dn {μ:Mu}{o:Nat}{pl:Pl}(h:μ o=none):μ.le (Cu μ o pl):=fun p x hp=>by
 unfold Cu; by_cases e:p=o
 ·subst e; rw[h] at hp; cases hp
 ·simp[e,hp]
theorem JU {w:World}{r:Nat}{x:Obj}(hx:w.heap[r]? =some x):r<w.heap.size:=by
 rcases Nat.lt_or_ge r w.heap.size with h|h
 ·exact h
 ·rw[Array.getElem?_eq_none h] at hx; cases hx
section
variable {base:Nat}{w0:Start}{I:Cv}{μ:Mu}{st:St}{w:World}
theorem Ay.bQ (H:Ay base w0 I μ st w)(off:Nat):I.cell w.heap.size off=none:=by
 cases h:I.cell w.heap.size off with
 |none=>rfl
 |some v=>
  have:=World.block_lt_of_cell? _ _ (H.JZ _ _ _ h)
  simp at this
theorem Ay.VA (H:Ay base w0 I μ st w):I.map w.heap.size=none:=by
 cases h:I.map w.heap.size with
 |none=>rfl
 |some x=>
  have:=JU (H.Dj _ x h)
  omega
theorem Ay.iY (H:Ay base w0 I μ st w){o:Nat}{ob:Al}{h':Heap}(hp:LZ st.h o ob=some h')(hμ:μ o=none)(ho:o<st.c):Ay base w0 I μ { st with h:=h' } w:=by
 have hf:∀p y q,AA h' p=some y->μ p=some q->AA st.h p=some y:=fun p y q h hq=>by
  rw[GV hp] at h
  by_cases e:o=p
  ·subst e; rw[hμ] at hq; cases hq
  ·simpa [e] using h
 exact⟨H.below,H.Tx,H.JZ,H.Dj,H.VV,fun p y q h hq=>H.obj p y q (hf p y q h hq) hq,fun p y q h hq=>H.lo p y q (hf p y q h hq) hq,
  fun p r x y pl pm h1 h2 h3 h4=>H.sep p r x y pl pm (hf p x pl h1 h3) (hf r y pm h2 h4) h3 h4,fun p x pl i h hq=>H.MI p x pl i (hf p x pl h hq) hq,fun p x pl h hq=>H.HZ p x pl (hf p x pl h hq) hq,fun p x h=>by
   rw[GV hp] at h
   by_cases e:o=p
   ·subst e; exact ho
   ·rw[if_neg e] at h; exact H.Bc p x h,H.OY⟩
theorem Ay.cO (H:Ay base w0 I μ st w){o:Nat}{ob:Al}{pl:Pl}{x:Obj}(hf0:AA st.h o=some ob)(ho:o<st.c)(hμ:μ o=none)(hr:pl.r=w.heap.size)(hob:Ke I (Cu μ o pl) (w.alloc x) pl ob):Ay base w0 I (Cu μ o pl) st (w.alloc x):=by
 have CF:∀r,r<w.heap.size->(w.alloc x).heap[r]? =w.heap[r]?:=fun r hr=>Below.heap_alloc _ _ _ hr
 have hm:∀p q,Cu μ o pl p=some q->(p=o/\q=pl)∨(p≠o/\μ p=some q):=fun p q h=>by
  unfold Cu at h
  by_cases e:p=o
  ·simp[e] at h; exact .inl ⟨e,h.symm⟩
  ·simp[e] at h; exact .inr ⟨e,h⟩
 have Bc:∀p y q,AA st.h p=some y->μ p=some q->q.r<w.heap.size:=fun p y q h1 h2=>(H.obj p y q h1 h2).lt
 refine⟨H.below.alloc H.Tx x,by have:=H.Tx; simp; omega,?_,?_,?_,?_,?_,?_,?_,?_,H.Bc,H.OY⟩
 ·intro r off v h
  have h2:=H.JZ r off v h
  rw[World.cell?_alloc_lt]
  ·exact h2
  ·exact World.block_lt_of_cell? _ _ h2
 ·intro r es h
  have h2:=H.Dj r es h
  rw[CF r (JU h2)]; exact h2
 ·intro p hp'
  have hp2:p≠o:=by omega
  simp only[Cu,hp2,if_false]
  exact H.VV p hp'
 ·intro p y q h hq
  rcases hm p q hq with⟨rfl,rfl⟩|⟨hne,hq⟩
  ·rw[hf0] at h; cases h; exact hob
  ·have h2:=H.obj p y q h hq
   exact (h2.mono (Cv.le_refl I) (Dn hμ)).world (CF _ h2.lt)
 ·intro p y q h1 h2 h3
  rcases hm p q h2 with⟨rfl,rfl⟩|⟨hne,h2⟩
  ·rw[hr]; exact H.Tx
  ·exact H.lo p y q h1 h2 h3
 ·intro p q y z pp pq h1 h2 h3 h4 hne
  rcases hm p pp h3 with⟨e1,e2⟩|⟨hn1,g3⟩ <;> rcases hm q pq h4 with⟨e3,e4⟩|⟨hn2,g4⟩
  ·exact absurd (e1.trans e3.symm) hne
  ·have:=Bc q z pq h2 g4; rw[e2,hr]; omega
  ·have:=Bc p y pp h1 g3; rw[e4,hr]; omega
  ·exact H.sep p q y z pp pq h1 h2 g3 g4 hne
 ·intro p y q i h1 h2 h3 h4
  rcases hm p q h2 with⟨rfl,rfl⟩|⟨hne,h2⟩
  ·rw[hr]; exact H.bQ i
  ·exact H.MI p y q i h1 h2 h3 h4
 ·intro p y q h1 h2
  rcases hm p q h2 with⟨rfl,rfl⟩|⟨hne,h2⟩
  ·rw[hr]; exact H.VA
  ·exact H.HZ p y q h1 h2
structure gW (w w':World)(pl:Pl):Prop where
 os:w'.os=w.os
 tape:w'.tape=w.tape
 output:w'.output=w.output
 size:w'.heap.size=w.heap.size
 other:∀k,k≠pl.r->w'.heap[k]? =w.heap[k]?
 own:(∃c c' ty fz,w.heap[pl.r]? =some (.cells c ty fz)/\w'.heap[pl.r]? =some (.cells c' ty fz)/\c'.size=c.size/\∀i,(i<pl.b∨pl.fin<=i)->c'[i]? =c[i]?) ∨
  ((∀c ty fz,w.heap[pl.r]?≠some (.cells c ty fz))/\(∀c ty fz,w'.heap[pl.r]?≠some (.cells c ty fz)))
theorem Ay.ic (H:Ay base w0 I μ st w){o o':Nat}{x y:Al}{h':Heap}{c':Nat}{pl pl':Pl}{w':World}{ν:Mu}(ho:AA st.h o=some x)(hlo:st.lo<=o)(hlo':st.lo<=o')(hpl:μ o=some pl)(hT:gW w w' pl)(hν:ν=μ/\o'=o/\pl'=pl∨ν=Cu μ o' pl'/\μ o'=none/\o'<c')(hc:st.c<=c')(hr:pl'.r=pl.r)(hb:pl.b<=pl'.b)(hfin:pl'.fin<=pl.fin)(hf':∀p z,AA h' p=some z->(p=o'/\z=y)∨(p≠o'/\p≠o/\AA st.h p=some z))(hob:Ke I ν w' pl' y):Ay base w0 I ν { st with h:=h',c:=c' } w':=by
 have hle:μ.le ν:=by
  rcases hν with⟨h,_⟩|⟨h,h2,_⟩
  ·subst h; exact fun _ _ h=>h
  ·subst h; exact Dn h2
 have hν':ν o'=some pl':=by
  rcases hν with⟨h,h2,h3⟩|⟨h,_⟩
  ·subst h; rw[h2,h3]; exact hpl
  ·subst h; simp[Cu]
 have hm:∀p q,p≠o'->ν p=some q->μ p=some q:=fun p q hne h=>by
  rcases hν with⟨h1,_⟩|⟨h1,_⟩
  ·subst h1; exact h
  ·subst h1; simpa [Cu,hne] using h
 have hbase:base<=pl.r:=H.lo o x pl ho hpl hlo
 have hcell:∀r off,(r≠pl.r∨off<pl.b∨pl.fin<=off)->w'.cell? ⟨r,off,none⟩=w.cell? ⟨r,off,none⟩:=by
  intro r off h
  by_cases hr:r=pl.r
  ·subst hr
   have h:=h.resolve_left (by simp)
   rcases hT.own with⟨c,c',ty,fz,h1,h2,_,h4⟩|⟨h1,h2⟩
   ·simp[World.cell?,h1,h2,h4 off h]
   ·cases h3:w.heap[pl.r]? with
    |none=>cases h4:w'.heap[pl.r]? with
     |none=>simp[World.cell?,h3,h4]
     |some z=>cases z <;> first|exact absurd h4 (h2 _ _ _)|simp[World.cell?,h3,h4]
    |some z=>cases z <;> first|exact absurd h3 (h1 _ _ _)|(cases h4:w'.heap[pl.r]? with
     |none=>simp[World.cell?,h3,h4]
     |some z=>cases z <;> first|exact absurd h4 (h2 _ _ _)|simp[World.cell?,h3,h4])
  ·exact World.cell?_of_block (w:=w) (hT.other r hr)
 refine⟨?_,by rw[hT.size]; exact H.Tx,?_,?_,?_,?_,?_,?_,?_,?_,fun p z h=>?_,H.OY⟩
 ·exact H.below.trans ⟨hT.os,hT.tape,hT.output,by rw[hT.size]; exact Nat.le_refl _,fun k hk=>hT.other k (by omega)⟩
 ·intro r off v h
  rw[hcell r off]
  ·exact H.JZ r off v h
  ·by_cases hr:r=pl.r
   ·subst hr
    refine .inr ?_
    rcases Nat.lt_or_ge off pl.b with h1|h1
    ·exact .inl h1
    rcases Nat.lt_or_ge off pl.fin with h2|h2
    ·rw[H.MI o x pl off ho hpl h1 h2] at h; cases h
    ·exact .inr h2
   ·exact .inl hr
 ·intro r es h
  have hne:r≠pl.r:=fun e=>by subst e; rw[H.HZ o x pl ho hpl] at h; cases h
  rw[hT.other r hne]; exact H.Dj r es h
 ·intro p hp
  simp only at hp
  rcases hν with⟨h1,_⟩|⟨h1,_,h3⟩
  ·subst h1; exact H.VV p (by omega)
  ·subst h1
   have:p≠o':=by omega
   simp only[Cu,this,if_false]; exact H.VV p (by omega)
 ·intro p z q h hq
  rcases hf' p z h with⟨rfl,rfl⟩|⟨hn1,hn2,h⟩
  ·rw[hν'] at hq; cases hq; exact hob
  ·have h1:=hm p q hn1 hq
   have h2:=H.obj p z q h h1
   have h2':=h2.mono (Cv.le_refl I) hle
   exact h2'.world (hT.other _ (H.sep p o z x q pl h ho h1 hpl hn2))
 ·intro p z q h1 h2 h3
  rcases hf' p z h1 with⟨rfl,rfl⟩|⟨hn1,hn2,h1⟩
  ·rw[hν'] at h2; cases h2; rw[hr]; exact hbase
  ·exact H.lo p z q h1 (hm p q hn1 h2) h3
 ·intro p q y1 y2 pp pq h1 h2 h3 h4 hne
  rcases hf' p y1 h1 with⟨rfl,rfl⟩|⟨hp1,hp2,h1⟩ <;> rcases hf' q y2 h2 with⟨rfl,rfl⟩|⟨hq1,hq2,h2⟩
  ·exact absurd rfl hne
  ·rw[hν'] at h3; cases h3
   rw[hr]; exact H.sep o q x y2 pl pq ho h2 hpl (hm q pq hq1 h4) (Ne.symm hq2)
  ·rw[hν'] at h4; cases h4
   rw[hr]; exact H.sep p o y1 x pp pl h1 ho (hm p pp hp1 h3) hpl hp2
  ·exact H.sep p q y1 y2 pp pq h1 h2 (hm p pp hp1 h3) (hm q pq hq1 h4) hne
 ·intro p z q i h1 h2 h3 h4
  rcases hf' p z h1 with⟨rfl,rfl⟩|⟨hp1,hp2,h1⟩
  ·rw[hν'] at h2; cases h2
   rw[hr]; exact H.MI o x pl i ho hpl (by omega) (by omega)
  ·exact H.MI p z q i h1 (hm p q hp1 h2) h3 h4
 ·intro p z q h1 h2
  rcases hf' p z h1 with⟨rfl,rfl⟩|⟨hp1,hp2,h1⟩
  ·rw[hν'] at h2; cases h2
   rw[hr]; exact H.HZ o x pl ho hpl
  ·exact H.HZ p z q h1 (hm p q hp1 h2)
 ·rcases hf' p z h with⟨rfl,rfl⟩|⟨_,_,h⟩
  ·rcases hν with⟨_,h2,_⟩|⟨_,_,h3⟩
   ·rw[h2]; exact Nat.lt_of_lt_of_le (H.Bc o x ho) hc
   ·exact h3
  ·exact Nat.lt_of_lt_of_le (H.Bc p z h) hc
theorem Ay.iJ (H:Ay base w0 I μ st w){h':Heap}(hf:∀o x,AA h' o=some x->AA st.h o=some x):Ay base w0 I μ { st with h:=h' } w:=
 ⟨H.below,H.Tx,H.JZ,H.Dj,H.VV,fun o x pl h=>H.obj o x pl (hf o x h),fun o x pl h=>H.lo o x pl (hf o x h),fun o p x y pl pm h1 h2=>H.sep o p x y pl pm (hf o x h1) (hf p y h2),
  fun o x pl i h=>H.MI o x pl i (hf o x h),fun o x pl h=>H.HZ o x pl (hf o x h),fun o x h=>H.Bc o x (hf o x h),H.OY⟩
theorem Ay.more (H:Ay base w0 I μ st w){c':Nat}(hc:st.c<=c'):Ay base w0 I μ { st with c:=c' } w:=
 ⟨H.below,H.Tx,H.JZ,H.Dj,fun o h=>H.VV o (by simp only at h; omega),H.obj,H.lo,H.sep,H.MI,H.HZ,fun o x h=>Nat.lt_of_lt_of_le (H.Bc o x h) hc,H.OY⟩
theorem Ay.drew (H:Ay base w0 I μ st w):Ay base w0 I μ st w.drew:=
 ⟨H.below.drew,H.Tx,H.JZ,H.Dj,H.VV,fun o x pl h h1=>Ke.world (w:=w) (w':=w.drew) rfl (H.obj o x pl h h1),H.lo,H.sep,H.MI,H.HZ,H.Bc,H.OY⟩
end
end Go.Am
end
section
namespace Go.Am
open Go Go.RowKit
variable {P:Program}
theorem RN {w:World}{b:Nat}{c:Array Value}{ty:TypeId}{fz:Nat × Nat}(h:w.heap[b]? =some (.cells c ty fz))(o:Nat)(v:Value) :
 (w.setCell ⟨b,o,none⟩ v).heap[b]? =some (.cells (c.setIfInBounds o v) ty fz):=by
 simp[World.setCell,Array.getElem?_modify,h]
theorem JM (b:Nat){ty:TypeId}{fz:Nat × Nat}:∀(vs:List Value) (o:Nat) (w:World) (c:Array Value),w.heap[b]? =some (.cells c ty fz) ->
 ∃c',(w.setCells b o vs).heap[b]? =some (.cells c' ty fz)/\c'.size=c.size/\(∀i,(i<o∨o+vs.length<=i)->c'[i]? =c[i]?) /\
  (o+vs.length<=c.size->∀(j:Nat) (h:j<vs.length),c'[o+j]? =some vs[j])
 |[],o,w,c,h=>⟨c,h,rfl,fun _ _=>rfl,fun _ j hj=>by simp at hj⟩
 |v::r,o,w,c,h=>by
  obtain⟨c',h1,h2,h3,h4⟩:=JM b r (o+1) (w.setCell ⟨b,o,none⟩ v) _ (RN h o v)
  refine⟨c',h1,by simpa using h2,?_,?_⟩
  ·intro i hi
   rw[h3 i (by simp at hi; omega),Array.getElem?_setIfInBounds_ne (by simp at hi; omega)]
  ·intro hle j hj
   cases j with
   |zero=>
    simp at hle
    rw[h3 _ (by omega)]
    simp[Array.getElem?_setIfInBounds]; omega
   |succ j=>
    simp at hle
    have:=h4 (by simp; omega) j (by simpa using hj)
    rw[show o+(j+1)=o+1+j by omega]
    simpa using this
theorem JL (b:Nat):∀(vs:List Value) (o:Nat) (w:World) (k:Nat),k≠b->(w.setCells b o vs).heap[k]? =w.heap[k]?
 |[],_,_,_,_=>rfl
 |v::r,o,w,k,h=>by rw[World.setCells,JL b r _ _ k h,Below.heap_setCell _ _ _ _ h]
theorem Jn (b:Nat):∀(vs:List Value) (o:Nat) (w:World),(w.setCells b o vs).heap.size=w.heap.size
 |[],_,_=>rfl
 |v::r,o,w=>by rw[World.setCells,Jn b r]; simp
theorem Jo (b:Nat):∀(vs:List Value) (o:Nat) (w:World),(w.setCells b o vs).os=w.os/\(w.setCells b o vs).tape=w.tape/\(w.setCells b o vs).output=w.output
 |[],_,_=>⟨rfl,rfl,rfl⟩
 |v::r,o,w=>by rw[World.setCells]; exact Jo b r _ (w.setCell ⟨b,o,none⟩ v)
theorem Cc (b o i:Nat):(⟨b,o,none⟩:Addr).add i=⟨b,o+i,none⟩:=by unfold Addr.add; split <;> simp_all
section
variable {base:Nat}{w0:Start}{I:Cv}{μ:Mu}{st:St}{w:World}
theorem Cb {c:Array Value}{ty:TypeId}{fz:Nat × Nat}{r:Nat}(h:w.heap[r]? =some (.cells c ty fz))(i:Nat):w.cell? ⟨r,i,none⟩=c[i]?:=by
 simp[World.cell?,h]
theorem Kz {c:Array Value}{ty:TypeId}{fz:Nat × Nat}{r:Nat}(h:w.heap[r]? =some (.cells c ty fz))(i:Nat):w.frozen? ⟨r,i,none⟩=decide (fz.1<=i/\i<fz.2):=by
 simp[World.frozen?,h,Bool.decide_and]
theorem Ay.cells (H:Ay base w0 I μ st w){o ty sz:Nat}{cs:List AV}{ext:Bool}(h:AA st.h o=some (.cells ty sz cs ext)){pl:Pl}(h1:μ o=some pl) :
 ∃pl c fz rvs,μ o=some pl/\pl.sz=sz/\pl.n=cs.length/\(ext=false->pl.e=0/\pl.b=0)/\w.heap[pl.r]? =some (.cells c ty fz)/\pl.fin<=c.size /\
  (∀i,pl.b<=i->i<pl.fin->¬(fz.1<=i/\i<fz.2))/\Ah I μ cs rvs/\One rvs/\∀(i:Nat) (h:i<rvs.length),c[pl.b+i]? =some rvs[i]:=by
 have h2:=H.obj o _ pl h h1
 cases h2 with
 |cells _ _ _ _ c fz rvs hsz hn he hw hb hf h h1' hc=>exact⟨pl,c,fz,rvs,h1,hsz,hn,he,hw,hb,hf,h,h1',hc⟩
theorem One.drop {l:List Value}(h:One l)(n:Nat):One (l.drop n):=fun v hv=>h v (List.mem_of_mem_drop hv)
theorem One.take {l:List Value}(h:One l)(n:Nat):One (l.take n):=fun v hv=>h v (List.mem_of_mem_take hv)
theorem One.append {a b:List Value}(ha:One a)(hb:One b):One (a++b):=fun v hv=>(List.mem_append.1 hv).elim (ha v) (hb v)
theorem dz (H:Ay base w0 I μ st w){p:AV}{rp:Value}{n:Nat}{cs:List AV}(hp:Ae I μ p rp)(hr:Ac st.h p n=some cs) :
 ∃a rvs,rp=.pointer (some a)/\a.spot=none/\Ah I μ cs rvs/\One rvs/\rvs.length=n/\∀(i:Nat) (h:i<rvs.length),w.cell? (a.add i)=some rvs[i]:=by
 cases hp with
 |AO o off pl hμ=>
  simp only[Ac] at hr
  split at hr
  ·rename_i ty sz cs' ext hf
   rw[ble_eq,cond_eq_ite] at hr
   split at hr
   ·rename_i hle
    simp only[decide_eq_true_eq] at hle
    cases hr
    obtain⟨pl',c,fz,rvs,h1,hsz,hn,he,hw,hb,hfz,hv,hone,hc⟩:=H.cells hf hμ
    rw[hμ] at h1; cases h1
    have hl:=hv.length
    refine⟨_,(rvs.drop off).take n,rfl,rfl,(hv.drop off).take n,(hone.drop off).take n,by simp; omega,fun i hi=>?_⟩
    simp at hi
    rw[Cc,Cb hw,Nat.add_assoc,hc (off+i) (by omega)]
    simp
   ·cases hr
  ·cases hr
 |BN cs' r off rvs hI h1 h=>
  simp only[Ac] at hr
  rw[ble_eq,cond_eq_ite] at hr
  split at hr
  ·rename_i hle
   simp only[decide_eq_true_eq] at hle
   cases hr
   have hl:=h.length
   refine⟨_,rvs.take n,rfl,rfl,h.take n,h1.take n,by simp; omega,fun i hi=>?_⟩
   simp at hi
   rw[Cc]
   simpa using H.JZ _ _ _ (hI i (by omega))
  ·cases hr
 |_=>simp[Ac] at hr
theorem UR (H:Ay base w0 I μ st w){p:AV}{rp:Value}{v:AV}(hp:Ae I μ p rp)(hr:AP st.h p=some v) :
 ∃a rv,rp=.pointer (some a)/\Ae I μ v rv/\w.cell? a=some rv:=by
 cases hp with
 |AO o off pl hμ=>
  simp only[AP] at hr
  split at hr
  ·rename_i ty sz cs' ext hf
   obtain⟨pl',c,fz,rvs,h1,hsz,hn,he,hw,hb,hfz,hv,hone,hc⟩:=H.cells hf hμ
   rw[hμ] at h1; cases h1
   obtain⟨rv,h2,h3⟩:=hv.get off v hr
   refine⟨_,rv,rfl,h3,?_⟩
   have Bc:off<rvs.length:=(List.getElem?_eq_some_iff.1 h2).1
   rw[Cb hw,hc off Bc]
   rw[List.getElem?_eq_getElem Bc] at h2
   exact h2
  ·cases hr
 |BN cs' r off rvs hI h1 h=>
  cases h with
  |nil=>simp[AP] at hr
  |cons x rx l rl h t=>
   simp[AP] at hr
   subst hr
   refine⟨_,rx,rfl,h,?_⟩
   have:=H.JZ _ _ _ (hI 0 (by simp))
   exact this
 |_=>simp[AP] at hr
def OW:TypeDesc->Bool
 |.struct _|.array ..=>true
 |_=>false
def Rm (P:Program)(t:TypeId)(agg:Option Nat):Bool:=
 match P.underlying t,P.info? t,agg with
 |some d,some i,some n=>OW d&&Nat.beq i.size n
 |some d,some i,none=>!OW d&&Nat.beq i.size 1
 |_,_,_=>false
theorem Si {t:TypeId}{n:Nat}(h:Rm P t (some n)=true):∃d i,P.underlying t=some d/\P.info? t=some i/\OW d=true/\i.size=n:=by
 unfold Rm at h
 split at h
 ·rename_i d i n' hd hi heq
  cases heq
  simp at h
  exact⟨d,i,hd,hi,h.1,h.2⟩
 ·rename_i heq; cases heq
 ·cases h
theorem Sj {t:TypeId}(h:Rm P t none=true):∃d i,P.underlying t=some d/\P.info? t=some i/\OW d=false/\i.size=1:=by
 unfold Rm at h
 split at h
 ·rename_i heq; cases heq
 ·rename_i d i hd hi _
  simp at h
  exact⟨d,i,hd,hi,h.1,h.2⟩
 ·cases h
theorem KA {t:TypeId}{d:TypeDesc}(hd:P.underlying t=some d)(w:World):(isAgg t).run P w=.ok (OW d) w:=by
 unfold isAgg
 rw[Sem.run_bind,run_underlying hd]
 cases d <;> rfl
theorem CG {t:TypeId}{i:TypeInfo}(h:P.info? t=some i)(w:World):(sizeOf t).run P w=.ok i.size w:=by
 simp[sizeOf,typeInfo,h]
theorem Uj {t:TypeId}{n:Nat}(h:Rm P t (some n)=true){a:Addr}{rvs:List Value}(hl:rvs.length=n)(hc:∀(i:Nat) (h:i<rvs.length),w.cell? (a.add i)=some rvs[i]):(loadVar t a).run P w=.ok (.agg rvs.toArray) w:=by
 obtain⟨d,i,hd,hi,hg,hn⟩:=Si h
 have h2:=run_loadCells_list (P:=P) w a rvs fun j v hj=>by
  have:=List.getElem?_eq_some_iff.1 hj
  rw[hc j this.1,this.2]
 simp only[loadVar,Sem.run_bind,KA hd,hg,Result.andThen,if_true,CG hi,hn,← hl,h2,Sem.run_pure]
theorem Ui {t:TypeId}(h:Rm P t none=true){a:Addr}{rv:Value}(hc:w.cell? a=some rv):(loadVar t a).run P w=.ok rv w:=by
 obtain⟨d,i,hd,hi,hg,hn⟩:=Sj h
 simp[loadVar,Sem.run_bind,KA hd,hg,Result.andThen,hc]
theorem Xx (H:Ay base w0 I μ st w){t:TypeId}{agg:Option Nat}(ht:Rm P t agg=true){p:AV}{rp:Value}{v:AV}(hp:Ae I μ p rp)(hr:GU st.h agg p=some v) :
 ∃rv,(Instr.loadAt t rp).run P w=.ok rv w/\Ae I μ v rv:=by
 cases agg with
 |some n=>
  simp only[GU] at hr
  cases hc:Ac st.h p n with
  |none=>simp[hc] at hr
  |some cs=>
   simp[hc] at hr
   subst hr
   obtain⟨a,rvs,rfl,hs,hv,h1,hl,hcell⟩:=dz H hp hc
   exact⟨_,by simp only[Instr.loadAt,Instr.sureAddr,Sem.run_bind,Sem.run_pure,Result.andThen,Uj ht hl hcell],.agg cs rvs hv h1⟩
 |none=>
  obtain⟨a,rv,rfl,hv,hc⟩:=UR H hp hr
  exact⟨rv,by simp only[Instr.loadAt,Instr.sureAddr,Sem.run_bind,Sem.run_pure,Result.andThen,Ui ht hc],hv⟩
theorem RL (cs:List AV)(off:Nat)(vs:List AV)(h:off+vs.length<=cs.length):(BS cs off vs).length=cs.length:=by
 simp[BS]; omega
theorem QB {cs vs:List AV}{rcs rvs:List Value}{off:Nat}(hc:Ah I μ cs rcs)(hv:Ah I μ vs rvs):Ah I μ (BS cs off vs) (rcs.take off++(rvs++rcs.drop (off+rvs.length))):=by
 unfold BS
 rw[hv.length]
 exact (hc.take off).append (hv.append (hc.drop _))
theorem NC (H:Ay base w0 I μ st w){o off:Nat}{vs:List AV}{rvs:List Value}{st':St}{pl:Pl}(hpl:μ o=some pl)(hv:Ah I μ vs rvs)(h1:One rvs)(hw:BI st o off vs=some st') :
 ∃w',(storeCells ⟨pl.r,pl.b+off,none⟩ rvs).run P w=.ok () w'/\Ay base w0 I μ st' w':=by
 unfold BI at hw
 rw[blt_eq,cond_eq_ite] at hw
 split at hw
 ·cases hw
 rename_i hlo
 simp only[decide_eq_true_eq] at hlo
 split at hw
 ·rename_i ty sz cs ext hf
  rw[ble_eq,cond_eq_ite] at hw
  split at hw
  ·rename_i hle
   simp only[decide_eq_true_eq] at hle
   cases hw
   obtain⟨pl',c,fz,rcs,g1,hsz,hn,he,hwb,hb,hfz,hvr,hone,hc⟩:=H.cells hf hpl
   rw[hpl] at g1; cases g1
   have hl:=hv.length
   have hlc:=hvr.length
   have hfin:pl.fin=pl.b+pl.n+pl.e:=rfl
   obtain⟨c',e1,e2,e3,e4⟩:=JM pl.r rvs (pl.b+off) w c hwb
   refine⟨w.setCells pl.r (pl.b+off) rvs,?_,?_⟩
   ·refine run_storeCells_cells pl.r (pl.b+off) rvs 0 w (fun j hj=>?_) (fun j hj=>?_) h1
    ·rw[Cb hwb,show pl.b+off+0+j=pl.b+(off+j) by omega,hc (off+j) (by omega)]
     rfl
    ·rw[Kz hwb,show pl.b+off+0+j=pl.b+(off+j) by omega]
     simp only[decide_eq_false_iff_not]
     exact hfz _ (by omega) (by omega)
   ·have hT:gW w (w.setCells pl.r (pl.b+off) rvs) pl:=by
     obtain⟨r1,r2,r3⟩:=Jo pl.r rvs (pl.b+off) w
     refine⟨r1,r2,r3,Jn _ _ _ _,fun k hk=>JL _ _ _ _ k hk,.inl ⟨c,c',ty,fz,hwb,e1,e2,fun i hi=>e3 i ?_⟩⟩
     omega
    have:=H.ic (o':=o) (x:=.cells ty sz cs ext) (y:=.cells ty sz (BS cs off vs) ext) (h':=Aa st.h o (.cells ty sz (BS cs off vs) ext)) (c':=st.c) (pl':=pl) (ν:=μ)
     hf (by omega) (by omega) hpl hT (.inl ⟨rfl,rfl,rfl⟩) (Nat.le_refl _) rfl (Nat.le_refl _) (Nat.le_refl _)
     (fun p z hz=>by
      rw[Fa _ _ _ (by rw[hf]; rfl)] at hz
      by_cases e:o=p
      ·simp[e] at hz; exact .inl ⟨e.symm,hz.symm⟩
      ·simp[e] at hz; exact .inr ⟨Ne.symm e,Ne.symm e,hz⟩)
     (.cells ty sz _ ext c' fz (rcs.take off++(rvs++rcs.drop (off+rvs.length))) hsz (by rw[RL _ _ _ hle]; exact hn) he e1 (by rw[e2]; exact hb) hfz
      (QB hvr hv) ((hone.take _).append (h1.append (hone.drop _))) fun i hi=>by
       simp at hi
       by_cases hi1:i<off
       ·rw[e3 _ (by omega),List.getElem_append_left (by simp; omega),List.getElem_take]
        exact hc i (by omega)
       ·by_cases hi2:i<off+rvs.length
        ·have:=e4 (by omega) (i-off) (by omega)
         rw[show pl.b+i=pl.b+off+(i-off) by omega,this]
         rw[List.getElem_append_right (by simp; omega)]
         rw[List.getElem_append_left (by simp; omega)]
         simp[Nat.min_eq_left (show off<=rcs.length by omega)]
        ·rw[e3 _ (by omega),List.getElem_append_right (by simp; omega),List.getElem_append_right (by simp; omega)]
         rw[hc i (by omega)]
         congr 1
         simp[Nat.min_eq_left (show off<=rcs.length by omega)]
         congr 1
         omega)
    exact this
  ·cases hw
 ·cases hw
theorem World.FH (w:World)(x:Obj):(w.alloc x).heap[w.heap.size]? =some x:=by
 show (w.heap.push x)[w.heap.size]? =_
 simp
theorem QI (H:Ay base w0 I μ st w){o ty sz:Nat}{cs:List AV}{ext:Bool}{rvs rest:List Value}(hf:AA st.h o=some (.cells ty sz cs ext))(hv:Ah I μ cs rvs)(h1:One rvs)(he:ext=false->rest=[])(hμ:μ o=none)(ho:o<st.c) :
 (newRow ty (rvs++rest).toArray).run P w=.ok ⟨w.heap.size,0,none⟩ (w.alloc (.cells (rvs++rest).toArray ty)) /\
  Ay base w0 I (Cu μ o ⟨w.heap.size,0,cs.length,rest.length,sz⟩) st (w.alloc (.cells (rvs++rest).toArray ty)):=by
 refine⟨by simp[newRow],?_⟩
 have hl:=hv.length
 refine H.cO hf ho hμ rfl ?_
 refine .cells ty sz cs ext (rvs++rest).toArray (0,0) rvs rfl rfl (fun h=>by simp[he h]) (World.FH w _) (by simp[Pl.fin]; omega) (fun i _ _ h=>by simp at h)
  (hv.mono (Cv.le_refl I) (Dn hμ)) h1 fun i hi=>?_
 simp[List.getElem?_append_left hi,hi]
theorem OO (H:Ay base w0 I μ st w){o:Nat}{ob:Al}{st':St}(hn:newObj o ob st=some st')(hμ:μ o=none)(ho:o<st.c) :
 Ay base w0 I μ st' w/\AA st'.h o=some ob/\st'.c=st.c/\st'.lo=st.lo/\∀p,p≠o->AA st'.h p=AA st.h p:=by
 unfold newObj at hn
 split at hn
 ·rename_i h' hp
  cases hn
  exact⟨H.iY hp hμ ho,by simp[GV hp],rfl,rfl,fun p hne=>by simp[GV hp,Ne.symm hne]⟩
 ·cases hn
theorem ZJ (H:Ay base w0 I μ st w){o ty sz:Nat}{cs:List AV}{ext:Bool}{st':St}{rvs rest:List Value}(hn:newObj o (.cells ty sz cs ext) st=some st')(hv:Ah I μ cs rvs)(h1:One rvs)(he:ext=false->rest=[])(hμ:μ o=none)(ho:o<st.c) :
 (newRow ty (rvs++rest).toArray).run P w=.ok ⟨w.heap.size,0,none⟩ (w.alloc (.cells (rvs++rest).toArray ty)) /\
  Ay base w0 I (Cu μ o ⟨w.heap.size,0,cs.length,rest.length,sz⟩) st' (w.alloc (.cells (rvs++rest).toArray ty)):=by
 obtain⟨H',hf,hc,_,_⟩:=OO H hn hμ ho
 exact QI H' hf hv h1 he hμ (by rw[hc]; exact ho)
end
end Go.Am
end
section
namespace Go.Am
open Go Go.RowKit
variable {P:Program}
structure Tq (base:Nat)(w0:Start)(I:Cv)(μ:Mu)(st:St)(o:Option Nat)(ν:Mu)(st':St)(w':World)(v:AV)(rv:Value):Prop where
 rel:Ay base w0 I ν st' w'
 val:Ae I ν v rv
 le:μ.le ν
 same:∀p,some p≠o->ν p=μ p
 c:st'.c=st.c
 lo:st'.lo=st.lo
def Mw (P:Program)(base:Nat)(w0:Start)(I:Cv)(μ:Mu)(st:St)(w:World)(o:Option Nat)(e:Sem Value)(v:AV)(st':St):Prop:=
 ∃rv w' ν,e.run P w=.ok rv w'/\Tq base w0 I μ st o ν st' w' v rv
def gX (P:Program)(base:Nat)(w0:Start)(I:Cv)(μ:Mu)(st:St)(w:World)(e:Sem Unit)(st':St):Prop:=
 ∃w',e.run P w=.ok () w'/\Ay base w0 I μ st' w'/\st'.c=st.c/\st'.lo=st.lo
section
variable {base:Nat}{w0:Start}{I:Cv}{μ:Mu}{st:St}{w:World}
theorem Mw.stay (H:Ay base w0 I μ st w){e:Sem Value}{v:AV}{rv:Value}{o:Option Nat}(he:e.run P w=.ok rv w)(hv:Ae I μ v rv):Mw P base w0 I μ st w o e v st:=
 ⟨rv,w,μ,he,H,hv,fun _ _ h=>h,fun _ _=>rfl,rfl,rfl⟩
theorem Ck {o off:Nat}{vs:List AV}{st st':St}(h:BI st o off vs=some st'):st'.c=st.c/\st'.lo=st.lo:=by
 unfold BI at h
 rw[cond_eq_ite] at h
 split at h
 ·cases h
 split at h
 ·rw[cond_eq_ite] at h
  split at h
  ·cases h; exact⟨rfl,rfl⟩
  ·cases h
 ·cases h
theorem Ow {o:Nat}{ob:Al}{st st':St}(h:newObj o ob st=some st'):st'.c=st.c/\st'.lo=st.lo:=by
 unfold newObj at h
 split at h
 ·cases h; exact⟨rfl,rfl⟩
 ·cases h
 mutual
def TZ:AV->Value->Bool
 |.bool a,.bool b=>a==b
 |.int k a,.int j b=>Nt k j&&a==b
 |.str l,.string s=>l==s.data.toList
 |.Ba,.pointer none=>true
 |.AB,.slice none 0 0=>true
 |.De,.map none=>true
 |.Ih,.nilFunc=>true
 |.Cs,.nilIface=>true
 |.agg cs,.agg vs=>Qw cs vs.toList&&vs.toList.all (·.oneCell')
 |.tuple cs,.tuple vs=>Qw cs vs.toList
 |_,_=>false
def Qw:List AV->List Value->Bool
 |[],[]=>true
 |a::l,b::r=>TZ a b&&Qw l r
 |_,_=>false
end
theorem GX {a b:IntKind}(h:Nt a b=true):a=b:=by cases a <;> cases b <;> first|rfl|cases h
 mutual
theorem Pn:∀{v:AV} {rv:Value},TZ v rv=true->Ae I μ v rv
 |.bool a,.bool b,h=>by simp[TZ] at h; subst h; exact .bool a
 |.int k a,.int j b,h=>by simp[TZ] at h; obtain⟨h1,h2⟩:=h; cases GX h1; subst h2; exact .int k a
 |.str l,.string s,h=>by
  simp[TZ] at h
  have:s=⟨⟨l⟩⟩:=by cases s with|mk d=>cases d with|mk l'=>simp at h; rw[h]
  rw[this]; exact .str l
 |.Ba,.pointer none,_=>.Ba
 |.AB,.slice none 0 0,_=>.AB
 |.De,.map none,_=>.De
 |.Ih,.nilFunc,_=>.Ih
 |.Cs,.nilIface,_=>.Cs
 |.agg cs,.agg vs,h=>by
  simp only[TZ,Bool.and_eq_true,List.all_eq_true] at h
  have:=Ae.agg (I:=I) (μ:=μ) cs vs.toList (Lc h.1) h.2
  simpa using this
 |.tuple cs,.tuple vs,h=>by
  simp only[TZ] at h
  have:=Ae.tuple (I:=I) (μ:=μ) cs vs.toList (Lc h)
  simpa using this
theorem Lc:∀{l:List AV} {r:List Value},Qw l r=true->Ah I μ l r
 |[],[],_=>.nil
 |a::l,b::r,h=>by
  simp only[Qw,Bool.and_eq_true] at h
  exact .cons a b l r (Pn h.1) (Lc h.2)
end
def aj (l:List Value):Bool:=l.all (·.oneCell')
theorem TA {l:List Value}(h:aj l=true):One l:=fun v hv=>by simp only[aj,List.all_eq_true] at h; exact h v hv
def Rn (P:Program)(t:TypeId)(zero:List AV):Bool:=
 match P.info? t with
 |some i=>(match i.zero with|some z=>Qw zero z.cells.toList&&aj z.cells.toList|none=>false)
 |none=>false
theorem NB {t:TypeId}{zero:List AV}(h:Rn P t zero=true):∃z,(∀w,(zeroValue t).run P w=.ok z w)/\(∀{I:Cv} {μ:Mu},Ah I μ zero z.cells.toList)/\One z.cells.toList:=by
 unfold Rn at h
 split at h
 ·rename_i i hi
  split at h
  ·rename_i z hz
   simp only[Bool.and_eq_true] at h
   exact⟨z,fun w=>by simp[zeroValue,typeInfo,hi,hz],Lc h.1,TA h.2⟩
  ·cases h
 ·cases h
theorem Rv (H:Ay base w0 I μ st w){o ty sz:Nat}{cs:List AV}{z:Value}(hf:AA st.h o=some (.cells ty sz cs false))(hv:Ah I μ cs z.cells.toList)(h1:One z.cells.toList)(hμ:μ o=none)(ho:o<st.c):∃w' ν,(newVar ty z).run P w=.ok ⟨w.heap.size,0,none⟩ w'/\Tq base w0 I μ st (some o) ν st w' (.AO o 0) (.pointer (some ⟨w.heap.size,0,none⟩)):=by
 obtain⟨h2,h3⟩:=QI (P:=P) H hf hv h1 (rest:=[]) (fun _=>rfl) hμ ho
 refine⟨_,_,by simpa [newVar] using h2,h3,?_,Dn hμ,fun p hp=>?_,rfl,rfl⟩
 ·have:=Ae.AO (I:=I) (μ:=Cu μ o ⟨w.heap.size,0,cs.length,0,sz⟩) o 0 ⟨w.heap.size,0,cs.length,0,sz⟩ (by simp[Cu])
  simpa using this
 ·have:p≠o:=fun e=>hp (by rw[e])
  simp[Cu,this]
theorem dA (H:Ay base w0 I μ st w){o ty sz:Nat}{zero:List AV}(hz:Rn P ty zero=true)(hf:AA st.h o=some (.cells ty sz zero false))(hμ:μ o=none)(ho:o<st.c) :
 Mw P base w0 I μ st w (some o) (Instr.alloc ty true (.tuple #[])) (.AO o 0) st:=by
 obtain⟨z,h1,h2,h3⟩:=NB hz
 obtain⟨w',ν,h4,h5⟩:=Rv (P:=P) H hf h2 h3 hμ ho
 refine⟨_,w',ν,?_,h5⟩
 simp[Instr.alloc,h1,h4,Result.andThen]
theorem kH (H:Ay base w0 I μ st w){o ty sz:Nat}{x v:AV}{rx:Value}{ob:Al}(hx:Ae I μ x rx)(hs:Gy o ty sz x=some (v,ob))(hf:AA st.h o=some ob)(hμ:μ o=none)(ho:o<st.c) :
 Mw P base w0 I μ st w (some o) (Instr.box ty rx) v st:=by
 unfold Gy at hs
 rw[cond_eq_ite] at hs
 split at hs
 ·cases hs
 rename_i ht
 cases hs
 obtain⟨rvs,h1,h2,h3⟩:=hx.cells (by simpa using ht)
 obtain⟨w',ν,h4,h5⟩:=Rv (P:=P) (z:=rx) H hf (by rw[h1]; exact h2) (by rw[h1]; exact h3) hμ ho
 refine⟨_,w',ν,?_,h5⟩
 simp[Instr.box,h4,Result.andThen]
theorem aO (H:Ay base w0 I μ st w){t:TypeId}{n:Nat}(ht:(P.info? t).map (·.size)=some n){p x v:AV}{rp rx:Value}{st':St}(hp:Ae I μ p rp)(hx:Ae I μ x rx)(hs:BJ n p x st=some (v,st')):v=.undef/\gX P base w0 I μ st w (Instr.storeAt t rp rx) st':=by
 unfold BJ at hs
 split at hs
 ·rename_i o off
  rw[cond_eq_ite] at hs
  split at hs
  ·cases hs
  rename_i hc
  simp only[Bool.or_eq_true,Bool.not_eq_true',not_or,Bool.not_eq_true,Bool.not_eq_false] at hc
  have hn:x.cells.length=n:=Nat.eq_of_beq_eq_true hc.2
  unfold CO at hs
  split at hs
  ·rename_i st1 hw
   cases hs
   refine⟨rfl,?_⟩
   obtain⟨rvs,h1,h2,h3⟩:=hx.cells hc.1
   cases hp with
   |AO _ _ pl hμ=>
    obtain⟨w',h4,h5⟩:=NC (P:=P) H hμ h2 h3 hw
    obtain⟨i,hi,hsz⟩:=Option.map_eq_some_iff.1 ht
    refine⟨w',?_,h5,(Ck hw).1,(Ck hw).2⟩
    have hlen:rx.cells.size=i.size:=by rw[hsz,← hn,h2.length,← h1,Array.length_toList]
    simp[Instr.storeAt,Instr.sureAddr,storeVar,CG hi,hlen,h1,h4,Result.andThen]
  ·cases hs
 ·cases hs
end
end Go.Am
end
section
namespace Go.Am
open Go Go.RowKit
variable {P:Program}
section
variable {base:Nat}{w0:Start}{I:Cv}{μ:Mu}{st:St}{w:World}
theorem JV {x:AV}{rx:Value}{n:Nat}(hx:Ae I μ x rx)(h:asNat x=some n):∃k,rx=.int k n:=by
 cases hx with
 |int k m=>
  cases m with
  |ofNat m=>simp[asNat] at h; subst h; exact⟨k,rfl⟩
  |negSucc m=>simp[asNat] at h
 |_=>simp[asNat] at h
theorem dE {c a b v:AV}{rc ra rb:Value}{st':St}(hc:Ae I μ c rc)(ha:Ae I μ a ra)(hb:Ae I μ b rb)(hs:LV c a b st=some (v,st')) :
 st'=st/\∃t,rc=.bool t/\Ae I μ v (if t then ra else rb):=by
 cases hc with
 |bool t=>
  simp[LV] at hs
  obtain⟨h1,h2⟩:=hs
  refine⟨h2.symm,t,rfl,?_⟩
  rw[← h1]
  cases t
  ·exact hb
  ·exact ha
 |_=>simp[LV] at hs
theorem Uv {op:BinOp}:NZ op=true↔op=.shl∨op=.shr:=by cases op <;> simp[NZ]
theorem Zl {op:BinOp}(hns:NZ op=false){k:IntKind}{a b:Int}{v:AV}{t:TypeId}(hs:Xi op k a b=some v) :
 ∃rv,(Go.binOp op t (.int k a) (.int k b)).run P w=.ok rv w/\Ae I μ v rv:=by
 cases op <;> simp[NZ] at hns <;> simp only[Xi] at hs
 case add=>cases hs; exact⟨_,by simp[Go.binOp,Op.intArith],.int _ _⟩
 case sub=>cases hs; exact⟨_,by simp[Go.binOp,Op.intArith],.int _ _⟩
 case mul=>cases hs; exact⟨_,by simp[Go.binOp,Op.intArith],.int _ _⟩
 case quo=>
  split at hs; · cases hs
  rename_i hb; cases hs; exact⟨_,by simp[Go.binOp,Op.intDiv,hb],.int _ _⟩
 case rem=>
  split at hs; · cases hs
  rename_i hb; cases hs; exact⟨_,by simp[Go.binOp,Op.intDiv,hb],.int _ _⟩
 case and=>simp[intBits] at hs; subst hs; exact⟨_,by simp[Go.binOp,Op.intBits],.int _ _⟩
 case or=>simp[intBits] at hs; subst hs; exact⟨_,by simp[Go.binOp,Op.intBits],.int _ _⟩
 case xor=>simp[intBits] at hs; subst hs; exact⟨_,by simp[Go.binOp,Op.intBits],.int _ _⟩
 case andNot=>simp[intBits] at hs; subst hs; exact⟨_,by simp[Go.binOp,Op.intBits],.int _ _⟩
 case eql=>cases hs; exact⟨_,by simp[Go.binOp,Op.intCmp],.bool _⟩
 case neq=>cases hs; exact⟨_,by simp[Go.binOp,Op.intCmp],.bool _⟩
 case lss=>cases hs; exact⟨_,by simp[Go.binOp,Op.intCmp],.bool _⟩
 case leq=>cases hs; exact⟨_,by simp[Go.binOp,Op.intCmp],.bool _⟩
 case gtr=>cases hs; exact⟨_,by simp[Go.binOp,Op.intCmp],.bool _⟩
 case geq=>cases hs; exact⟨_,by simp[Go.binOp,Op.intCmp],.bool _⟩
theorem toList_mk (l:List UInt8):(⟨⟨l⟩⟩:ByteArray).toList=l:=by
 rw[ByteArray.toList_eq]
theorem size_mk (l:List UInt8):(⟨⟨l⟩⟩:ByteArray).size=l.length:=rfl
theorem Zp (a b:List UInt8):(⟨⟨a⟩⟩++⟨⟨b⟩⟩:ByteArray)=⟨⟨a++b⟩⟩:=by
 apply ByteArray.ext
 simp
theorem Zk {op:BinOp}{a b:List UInt8}{v:AV}{t:TypeId}(hs:Xh op a b=some v) :
 ∃rv,(Go.binOp op t (.string ⟨⟨a⟩⟩) (.string ⟨⟨b⟩⟩)).run P w=.ok rv w/\Ae I μ v rv:=by
 cases op <;> simp only[Xh] at hs <;> first
  |(cases hs; done)
  |(cases hs; exact⟨_,by simp only[Go.binOp,Op.stringOp,toList_mk,Sem.run_pure],.bool _⟩)
  |skip
 split at hs
 ·rename_i h
  cases hs
  refine⟨.string ⟨⟨a++b⟩⟩,?_,.str _⟩
  have:¬(((a.length+b.length:Nat):Int)>IntKind.i64.max):=by
   have:IntKind.i64.max=9223372036854775807:=by decide
   omega
  simp only[Go.binOp,Op.stringOp,size_mk,this,if_false,Zp,Sem.run_pure]
 ·cases hs
theorem kI {op:BinOp}{t:TypeId}{x y v:AV}{rx ry:Value}(hx:Ae I μ x rx)(hy:Ae I μ y ry)(hs:bin op x y=some v)(X Y:Operand) :
 ∃rv,(do eqGuard op t X Y rx ry; Go.binOp op t rx ry:Sem Value).run P w=.ok rv w/\Ae I μ v rv:=by
 cases hx with
 |int k a=>
  simp only[bin] at hs
  cases hy with
  |int j b=>
   simp only[cond_eq_ite] at hs
   have hg:(eqGuard op t X Y (.int k a) (.int j b)).run P w=.ok () w:=by
    cases op <;> simp[eqGuard]
   split at hs
   ·rename_i hsh
    unfold Vl at hs
    split at hs
    ·cases hs
    rename_i hb
    rcases Uv.1 hsh with rfl|rfl
    ·simp at hs; subst hs
     exact⟨_,by simp[hg,Go.binOp,Op.shift,hb,Result.andThen],.int _ _⟩
    ·simp at hs; subst hs
     exact⟨_,by simp[hg,Go.binOp,Op.shift,hb,Result.andThen],.int _ _⟩
   ·rename_i hsh
    split at hs
    ·rename_i hk
     cases GX hk
     obtain⟨rv,h1,h2⟩:=Zl (P:=P) (w:=w) (I:=I) (μ:=μ) (t:=t) (by simpa using hsh) hs
     exact⟨rv,by simp[hg,h1,Result.andThen],h2⟩
    ·cases hs
  |_=>cases hs
 |str a=>
  simp only[bin] at hs
  cases hy with
  |str b=>
   have hg:(eqGuard op t X Y (.string ⟨⟨a⟩⟩) (.string ⟨⟨b⟩⟩)).run P w=.ok () w:=by
    cases op <;> simp[eqGuard]
   obtain⟨rv,h1,h2⟩:=Zk (P:=P) (w:=w) (I:=I) (μ:=μ) (t:=t) hs
   exact⟨rv,by simp[hg,h1,Result.andThen],h2⟩
  |_=>cases hs
 |_=>simp[bin] at hs
def aF (d:TypeDesc)(c:CK):Bool:=
 match d,c with
 |.bool,.bool|.int _,.int|.string,.str=>true
 |_,_=>false
def dV (P:Program)(t:TypeId)(c:CK):Bool:=match P.underlying t with
 |some d=>aF d c
 |none=>false
def II (P:Program):Nat->List Field->List CK->Bool
 |_,[],[]=>true
 |i,f::fs,c::cs=>Nat.beq f.offset i&&f.name != "_"&&dV P f.type c&&II P (i+1) fs cs
 |_,_,_=>false
def bK (P:Program)(t:TypeId)(k:KK):Bool:=
 match k with
 |.one c=>dV P t c
 |.many cs=>match P.underlying t with
  |some (.struct fs)=>!P.stoodInHeld t&&II P 0 fs.toList cs
  |_=>false
def isConst:Operand->Bool
 |.const _=>true
 |_=>false
def iK (P:Program)(t:TypeId)(X Y:Operand)(k:EK):Bool:=
 match k with
 |.key k=>bK P t k&&!P.eqGuardType P.depth t
 |.ptr=>match P.underlying t with
  |some (.pointer e)=>(match P.info? e with|some i=>!Nat.beq i.size 0|none=>false)
  |_=>false
 |.slice=>match P.underlying t with
  |some (.slice _)=>true
  |_=>false
 |.map=>match P.underlying t with
  |some (.map ..)=>true
  |_=>false
 |.func=>match P.underlying t with
  |some (.func ..)=>true
  |_=>false
 |.iface=>match P.underlying t with
  |some (.interface _)=>isConst X||isConst Y
  |_=>false
theorem Tc {t:TypeId}{c:CK}(ht:dV P t c=true){x y:AV}{rx ry:Value}{e:Bool}(hx:Ae I μ x rx)(hy:Ae I μ y ry)(h:WA c x y=some e)(n:Nat) :
 (Op.equalIn (n+1) t rx ry).run P w=.ok e w:=by
 unfold dV at ht
 split at ht
 ·rename_i d hd
  cases c
  ·cases d <;> simp[aF] at ht
   cases hx <;> simp[WA] at h
   cases hy <;> simp at h
   simp[Op.equalIn,run_underlying hd,Result.andThen,h]
  ·cases d <;> simp[aF] at ht
   cases hx <;> simp[WA] at h
   cases hy <;> simp[cond_eq_ite] at h
   obtain⟨h1,h2⟩:=h
   cases GX h1
   simp[Op.equalIn,run_underlying hd,Result.andThen,h2]
  ·cases d <;> simp[aF] at ht
   cases hx <;> simp[WA] at h
   cases hy <;> simp at h
   subst h
   rw[run_equalIn_string _ n t _ _ hd,toList_mk,toList_mk]
 ·cases ht
theorem Kj {t:TypeId}{d:TypeDesc}{c:CK}(hd:P.underlying t=some d)(hc:aF d c=true)(cs:Array Value)(off:Nat)(v:Value)(hv:cs[off]? =some v) :
 (part t cs off).run P w=.ok v w:=by
 have:OW d=false:=by cases d <;> cases c <;> simp[aF] at hc <;> rfl
 simp[part,KA hd,this,hv,Result.andThen]
theorem getElem?_of_drop {α:Type}{l:List α}{i:Nat}{x:α}{r:List α}(h:l.drop i=x::r):l[i]? =some x/\l.drop (i+1)=r:=by
 have h1:(l.drop i)[0]? =some x:=by rw[h]; rfl
 have h2:(l.drop i).drop 1=r:=by rw[h]; rfl
 rw[List.getElem?_drop] at h1
 rw[List.drop_drop] at h2
 exact⟨by simpa using h1,by simpa [Nat.add_comm] using h2⟩
theorem SK (n:Nat)(xs ys:Array Value):∀(fs:List Field) (cs:List CK) (a b:List AV) (i:Nat) (e:Bool),II P i fs cs=true->Nr cs a b=some e ->
 Ah I μ a (xs.toList.drop i)->Ah I μ b (ys.toList.drop i)->(Op.eqFields (n+1) xs ys fs).run P w=.ok e w
 |[],[],a,b,i,e,_,h,_,_=>by
  cases a <;> cases b <;> simp[Nr] at h
  subst h; rfl
 |[],_::_,_,_,_,_,h,_,_,_=>by simp[II] at h
 |_::_,[],_,_,_,_,h,_,_,_=>by simp[II] at h
 |f::fs,c::cs,a,b,i,e,hf,h,ha,hb=>by
  simp only[II,Bool.and_eq_true,bne_iff_ne,ne_eq] at hf
  obtain⟨⟨⟨hoff,hname⟩,hct⟩,hrest⟩:=hf
  have hoff:=Nat.eq_of_beq_eq_true hoff
  cases a with
  |nil=>simp[Nr] at h
  |cons x a=>
  cases b with
  |nil=>simp[Nr] at h
  |cons y b=>
  generalize hxs:xs.toList.drop i=rx at ha
  generalize hys:ys.toList.drop i=ry at hb
  cases ha with
  |cons _ rvx _ rla hx hta=>
  cases hb with
  |cons _ rvy _ rlb hy htb=>
  obtain⟨gx,dx⟩:=getElem?_of_drop hxs
  obtain⟨gy,dy⟩:=getElem?_of_drop hys
  subst dx dy
  obtain⟨d,hd,hdc⟩:∃d,P.underlying f.type=some d/\aF d c=true:=by
   unfold dV at hct; split at hct
   ·rename_i d hd; exact⟨d,hd,hct⟩
   ·cases hct
  have px:=Kj (w:=w) hd hdc xs f.offset rvx (by rw[hoff]; simpa using gx)
  have py:=Kj (w:=w) hd hdc ys f.offset rvy (by rw[hoff]; simpa using gy)
  simp only[Nr] at h
  split at h
  ·rename_i h1
   have he:=Tc (w:=w) hct hx hy h1 n
   have ih:=SK n xs ys fs cs a b (i+1) e hrest h hta htb
   simp only[Op.eqFields,ne_eq,hname,not_false_eq_true,if_true,Sem.run_bind,px,py,he,Result.andThen,Bool.not_true,Bool.false_eq_true,if_false]
   exact ih
  ·rename_i h1
   have he:=Tc (w:=w) hct hx hy h1 n
   split at h
   ·cases h
    simp only[Op.eqFields,ne_eq,hname,not_false_eq_true,if_true,Sem.run_bind,px,py,he,Result.andThen,Bool.not_false,Sem.run_pure]
   ·cases h
  ·cases h
theorem XH {t:TypeId}{k:KK}(ht:bK P t k=true){x y:AV}{rx ry:Value}{e:Bool}(hx:Ae I μ x rx)(hy:Ae I μ y ry)(h:dU k x y=some e) :
 (Op.equal t rx ry).run P w=.ok e w:=by
 cases k with
 |one c=>exact Tc ht hx hy h _
 |many cs=>
  simp only[dU] at h
  simp only[bK] at ht
  cases hx with
  |agg a ra ha ha1=>
   cases hy with
   |agg b rb hb hb1=>
    simp only at h
    split at ht
    ·rename_i fs hd
     simp only[Bool.and_eq_true,Bool.not_eq_true'] at ht
     have:=SK (P:=P) (w:=w) 9998 ra.toArray rb.toArray fs.toList cs a b 0 e ht.2 h (by simpa using ha) (by simpa using hb)
     have hfs:P.fieldsOf t=fs:=by simp[Program.fieldsOf,hd]
     rw[← hfs] at this
     show (Op.equalIn (9998+1+1) t _ _).run P w=_
     rw[run_equalIn_struct w _ t _ _ (by rw[hfs]; exact hd) ht.1]
     exact this
    ·cases ht
   |_=>simp at h
  |_=>simp at h
def Iz:Value->Value->Bool
 |.nilIface,.nilIface=>false
 |.agg _,.agg _=>false
 |.int ..,.int ..=>false
 |.float ..,.float ..=>false
 |.complex ..,.complex ..=>false
 |.string _,.string _=>false
 |_,_=>true
theorem PD {op:BinOp}{t:TypeId}{X Y:Operand}{a b:Value}(h:Iz a b=true):(eqGuard op t X Y a b).run P w=.ok () w:=by
 cases op <;> first
  |(simp[eqGuard]; done)
  |(cases a <;> cases b <;> first|(simp[Iz] at h; done)|simp[eqGuard])
theorem PN {neg:Bool}{t:TypeId}{a b:Value}(h:Iz a b=true) :
 (Go.binOp (if neg then .neq else .eql) t a b).run P w=((Op.equal t a b).run P w).andThen (fun b w=>.ok (.bool (b !=neg)) w):=by
 cases neg <;> cases a <;> cases b <;> first|(simp[Iz] at h; done)|simp[Go.binOp]
section
variable {t e:TypeId}(n:Nat)
theorem Qq (hd:P.underlying t=some (.pointer e))(b:Option Addr):(Op.equalIn (n+1) t (.pointer none) (.pointer b)).run P w=.ok b.isNone w:=by
 simp[Op.equalIn,run_underlying hd,Result.andThen]
theorem VQ (hd:P.underlying t=some (.pointer e))(a:Addr):(Op.equalIn (n+1) t (.pointer (some a)) (.pointer none)).run P w=.ok false w:=by
 simp[Op.equalIn,run_underlying hd,Result.andThen]
theorem bY (hd:P.underlying t=some (.pointer e)){i:TypeInfo}(hi:P.info? e=some i)(hne:i.size≠0)(a b:Addr)(hab:a.block=b.block) :
 (Op.equalIn (n+1) t (.pointer (some a)) (.pointer (some b))).run P w=.ok (a==b) w:=by
 simp[Op.equalIn,run_underlying hd,CG hi,hne,Result.andThen,sameAddr,hab]
theorem TV (hd:P.underlying t=some (.slice e))(b:Option Addr)(x y:Nat):(Op.equalIn (n+1) t (.slice none 0 0) (.slice b x y)).run P w=.ok b.isNone w:=by
 simp[Op.equalIn,run_underlying hd,Result.andThen]
theorem YD (hd:P.underlying t=some (.slice e))(a:Addr)(x y:Nat):(Op.equalIn (n+1) t (.slice (some a) x y) (.slice none 0 0)).run P w=.ok false w:=by
 simp[Op.equalIn,run_underlying hd,Result.andThen]
theorem Qr {k:TypeId}(hd:P.underlying t=some (.map k e))(b:Option Nat):(Op.equalIn (n+1) t (.map none) (.map b)).run P w=.ok b.isNone w:=by
 simp[Op.equalIn,run_underlying hd,Result.andThen]
theorem VR {k:TypeId}(hd:P.underlying t=some (.map k e))(a:Nat):(Op.equalIn (n+1) t (.map (some a)) (.map none)).run P w=.ok false w:=by
 simp[Op.equalIn,run_underlying hd,Result.andThen]
theorem fu {p r:Array TypeId}{v:Bool}(hd:P.underlying t=some (.func p r v)):(Op.equalIn (n+1) t .nilFunc .nilFunc).run P w=.ok true w:=by
 simp[Op.equalIn,run_underlying hd,Result.andThen]
theorem fq {p r:Array TypeId}{v:Bool}(hd:P.underlying t=some (.func p r v))(f:Fn)(a b:Array Value):(Op.equalIn (n+1) t .nilFunc (.func f a b)).run P w=.ok false w:=by
 simp[Op.equalIn,run_underlying hd,Result.andThen]
theorem fo {p r:Array TypeId}{v:Bool}(hd:P.underlying t=some (.func p r v))(f:Fn)(a b:Array Value):(Op.equalIn (n+1) t (.func f a b) .nilFunc).run P w=.ok false w:=by
 simp[Op.equalIn,run_underlying hd,Result.andThen]
theorem YH {m:Array (String × TypeId)}(hd:P.underlying t=some (.interface m)):(Op.equalIn (n+1) t .nilIface .nilIface).run P w=.ok true w:=by
 simp[Op.equalIn,run_underlying hd,Result.andThen]
theorem YG {m:Array (String × TypeId)}(hd:P.underlying t=some (.interface m))(u:TypeId)(v:Value):(Op.equalIn (n+1) t .nilIface (.iface u v)).run P w=.ok false w:=by
 simp[Op.equalIn,run_underlying hd,Result.andThen]
theorem YF {m:Array (String × TypeId)}(hd:P.underlying t=some (.interface m))(u:TypeId)(v:Value):(Op.equalIn (n+1) t (.iface u v) .nilIface).run P w=.ok false w:=by
 simp[Op.equalIn,run_underlying hd,Result.andThen]
end
theorem mr {t:TypeId}{X Y:Operand}{k:EK}(ht:iK P t X Y k=true){neg:Bool}{x y v:AV}{rx ry:Value}(H:Ay base w0 I μ st w)(hx:Ae I μ x rx)(hy:Ae I μ y ry)(hs:Rf neg k x y=some v) :
 ∃rv,(do eqGuard (if neg then .neq else .eql) t X Y rx ry; Go.binOp (if neg then .neq else .eql) t rx ry:Sem Value).run P w=.ok rv w/\Ae I μ v rv:=by
 unfold Rf at hs
 split at hs
 ·rename_i e he
  cases hs
  have fin:(eqGuard (if neg then .neq else .eql) t X Y rx ry).run P w=.ok () w->(Go.binOp (if neg then .neq else .eql) t rx ry).run P w=((Op.equal t rx ry).run P w).andThen (fun b w=>.ok (.bool (b !=neg)) w) ->
   (Op.equal t rx ry).run P w=.ok e w->∃rv,(do eqGuard (if neg then .neq else .eql) t X Y rx ry; Go.binOp (if neg then .neq else .eql) t rx ry:Sem Value).run P w=.ok rv w/\Ae I μ (.bool (e !=neg)) rv:=by
   intro h1 h2 h3
   exact⟨.bool (e !=neg),by simp only[Sem.run_bind,h1,Result.andThen,h2,h3],.bool _⟩
  have plain:Iz rx ry=true->(Op.equal t rx ry).run P w=.ok e w->∃rv,(do eqGuard (if neg then .neq else .eql) t X Y rx ry; Go.binOp (if neg then .neq else .eql) t rx ry:Sem Value).run P w=.ok rv w/\Ae I μ (.bool (e !=neg)) rv:=
   fun h1 h3=>fin (PD h1) (PN h1) h3
  cases k with
  |key k=>
   simp only[iK,Bool.and_eq_true,Bool.not_eq_true'] at ht
   have h3:=XH (w:=w) ht.1 hx hy he
   cases k with
   |one c=>
    simp only[Zw,dU] at he
    cases c <;> cases hx <;> simp[WA] at he <;> cases hy <;> simp at he
    ·exact plain rfl h3
    ·refine fin (by cases neg <;> simp[eqGuard]) ?_ h3
     rw[cond_eq_ite] at he
     split at he
     ·rename_i hk; cases GX hk
      simp at he
      rw[h3]
      cases neg <;> simp[Go.binOp,Op.intCmp,Result.andThen,he] <;> rw[← he] <;> rfl
     ·cases he
    ·refine fin (by cases neg <;> simp[eqGuard]) ?_ h3
     rw[h3]
     cases neg <;> simp[Go.binOp,Op.stringOp,Result.andThen,he]
   |many cs=>
    simp only[Zw,dU] at he
    cases hx <;> simp at he
    cases hy <;> simp at he
    refine fin (by cases neg <;> exact run_eqGuard_agg _ _ _ _ _ _ _ ht.2) ?_ h3
    rw[h3]
    have h3':∀n,n=10000->_:=fun n hn=>h3
    cases neg
    ·rw[show (if false=true then BinOp.neq else BinOp.eql)=.eql from rfl,run_eql_struct]
     simp only[Op.equal,Op.maxDepth] at h3
     rw[h3]; simp[Result.andThen]
    ·rw[show (if true=true then BinOp.neq else BinOp.eql)=.neq from rfl,run_neq_struct]
     simp only[Op.equal,Op.maxDepth] at h3
     rw[h3]; simp[Result.andThen]
  |ptr=>
   simp only[iK] at ht
   split at ht
   ·rename_i el hd
    split at ht
    ·rename_i i hi
     have hne:i.size≠0:=fun e=>by rw[e] at ht; cases ht
     simp only[Zw] at he
     cases hx with
     |Ba=>
      cases hy with
      |Ba=>cases he; exact plain rfl (Qq _ hd _)
      |AO=>cases he; exact plain rfl (Qq _ hd _)
      |BN=>cases he; exact plain rfl (Qq _ hd _)
      |_=>cases he
     |BN=>
      cases hy with
      |Ba=>cases he; exact plain rfl (VQ _ hd _)
      |_=>cases he
     |AO o off pl hμ=>
      cases hy with
      |Ba=>cases he; exact plain rfl (VQ _ hd _)
      |AO p off' pm hμ'=>
       simp only[cond_eq_ite] at he
       split at he
       ·rename_i hop
        have hop:=Nat.eq_of_beq_eq_true hop
        subst hop
        rw[hμ] at hμ'; cases hμ'
        cases he
        refine plain rfl ?_
        have:=bY (w:=w) 9999 hd hi hne ⟨pl.r,pl.b+off,none⟩ ⟨pl.r,pl.b+off',none⟩ rfl
        refine this.trans ?_
        congr 1
        rw[beq_eq,Bool.eq_iff_iff]
        simp
       ·cases he
      |_=>cases he
     |_=>cases he
    ·cases ht
   ·cases ht
  |slice=>
   simp only[iK] at ht
   split at ht
   ·rename_i el hd
    simp only[Zw] at he
    cases hx with
    |AB=>
     cases hy with
     |AB=>cases he; exact plain rfl (TV _ hd _ _ _)
     |list=>cases he; exact plain rfl (TV _ hd _ _ _)
     |AU=>cases he; exact plain rfl (TV _ hd _ _ _)
     |_=>cases he
    |list=>cases hy with
     |AB=>cases he; exact plain rfl (YD _ hd _ _ _)
     |_=>cases he
    |AU=>cases hy with
     |AB=>cases he; exact plain rfl (YD _ hd _ _ _)
     |_=>cases he
    |_=>cases he
   ·cases ht
  |map=>
   simp only[iK] at ht
   split at ht
   ·rename_i kt el hd
    simp only[Zw] at he
    cases hx with
    |De=>
     cases hy with
     |De=>cases he; exact plain rfl (Qr _ hd _)
     |Cq=>cases he; exact plain rfl (Qr _ hd _)
     |Gs=>cases he; exact plain rfl (Qr _ hd _)
     |_=>cases he
    |Cq=>cases hy with
     |De=>cases he; exact plain rfl (VR _ hd _)
     |_=>cases he
    |Gs=>cases hy with
     |De=>cases he; exact plain rfl (VR _ hd _)
     |_=>cases he
    |_=>cases he
   ·cases ht
  |func=>
   simp only[iK] at ht
   split at ht
   ·rename_i p r vv hd
    simp only[Zw] at he
    cases hx with
    |Ih=>
     cases hy with
     |Ih=>cases he; exact plain rfl (fu _ hd)
     |fn=>cases he; exact plain rfl (fq _ hd _ _ _)
     |_=>cases he
    |fn=>cases hy with
     |Ih=>cases he; exact plain rfl (fo _ hd _ _ _)
     |_=>cases he
    |_=>cases he
   ·cases ht
  |iface=>
   simp only[iK] at ht
   split at ht
   ·rename_i ms hd
    simp only[Zw] at he
    cases hx with
    |Cs=>
     cases hy with
     |Cs=>
      cases he
      refine fin ?_ ?_ (YH _ hd)
      ·cases neg <;> cases X <;> cases Y <;> first|(simp[isConst] at ht; done)|simp[eqGuard]
      ·have:=YH (P:=P) (w:=w) 9999 hd
       cases neg <;> simp only[Go.binOp,Bool.false_eq_true,if_false,if_true,Sem.run_bind,Sem.run_pure] <;> simp
     |iface=>cases he; exact plain rfl (YG _ hd _ _)
     |_=>cases he
    |iface=>cases hy with
     |Cs=>cases he; exact plain rfl (YF _ hd _ _)
     |_=>cases he
    |_=>cases he
   ·cases ht
 ·cases hs
end
end Go.Am
end
section
namespace Go.Am
open Go Go.RowKit
variable {P:Program}
section
variable {base:Nat}{w0:Start}{I:Cv}{μ:Mu}{st:St}{w:World}
theorem lU {op:UnOp}{x v:AV}{rx:Value}(hx:Ae I μ x rx)(hs:un op x=some v):∃rv,(Op.unary op rx).run P w=.ok rv w/\Ae I μ v rv:=by
 cases hx <;> cases op <;> simp[un] at hs
 ·subst hs; exact⟨_,by simp[Op.unary],.bool _⟩
 ·subst hs; exact⟨_,by simp[Op.unary,Op.intArith],.int _ _⟩
 ·simp[intBits] at hs; subst hs; exact⟨_,by simp[Op.unary,Op.intBits],.int _ _⟩
theorem XZ {src dst:TypeId}{k j:IntKind}(hs:P.underlying src=some (.int j))(hd:P.underlying dst=some (.int k)){x v:AV}{rx:Value}{st':St}(hx:Ae I μ x rx)(h:Hq k x st=some (v,st')):st'=st/\∃rv,(Go.convert src dst rx).run P w=.ok rv w/\Ae I μ v rv:=by
 cases hx <;> simp[Hq] at h
 obtain⟨h1,h2⟩:=h
 subst h1 h2
 exact⟨rfl,_,by simp[Go.convert,run_underlying hs,run_underlying hd,Result.andThen,Conv.intToInt],.int _ _⟩
theorem WI:∀n,n<128->Utf8.encode (n:Nat)=⟨#[UInt8.ofNat n]⟩:=by decide +kernel
theorem XY {src dst:TypeId}(hs:P.underlying src=some .string∨∃j,P.underlying src=some (.int j))(hd:P.underlying dst=some .string){x v:AV}{rx:Value}{st':St}(hx:Ae I μ x rx)(h:Gc x st=some (v,st')):st'=st/\∃rv,(Go.convert src dst rx).run P w=.ok rv w/\Ae I μ v rv:=by
 cases hx <;> simp only[Gc] at h
 case str l=>
  cases h
  refine⟨rfl,_,?_,.str _⟩
  rcases hs with hs|⟨j,hs⟩ <;> simp[Go.convert,run_underlying hs,run_underlying hd,Result.andThen]
 case int k n=>
  cases n with
  |ofNat n=>
   simp only at h
   split at h
   ·rename_i hn
    cases h
    have e:=WI n hn
    refine⟨rfl,.string ⟨⟨[UInt8.ofNat n]⟩⟩,?_,.str _⟩
    rcases hs with hs|⟨j,hs⟩ <;> simp[Go.convert,run_underlying hs,run_underlying hd,Result.andThen,Conv.intToString,e]
   ·cases h
  |negSucc n=>cases h
 all_goals cases h
theorem Wy {t:TypeId}{d:TypeDesc}(hd:P.underlying t=some d)(hn:∀ms,d≠.interface ms){x:AV}{rx:Value}(hx:Ae I μ x rx) :
 ∃rv,(Instr.makeInterface t rx).run P w=.ok rv w/\Ae I μ (.iface t x) rv:=by
 refine⟨.iface t rx,?_,.iface t x rx hx⟩
 cases d <;> first|(exact absurd rfl (hn _))|simp[Instr.makeInterface,run_underlying hd,Result.andThen]
theorem Co {x:AV}{rx:Value}{n y:Nat}{code:BoundsCode}(hx:Ae I μ x rx)(h:asNat x=some n)(hy:n<=y):(Instr.sliceBound rx y code).run P w=.ok n w:=by
 cases hx with
 |int k m=>
  cases m with
  |ofNat m=>
   simp[asNat] at h; subst h
   have:(m:Int)<=(y:Int):=by omega
   simp[Instr.sliceBound,asIntOf,this]
  |negSucc m=>simp[asNat] at h
 |_=>simp[asNat] at h
inductive Jy (I:Cv) (μ:Mu):Option Nat->Option Value->Prop
 |none:Jy I μ none none
 |some (x:AV) (rx:Value) (n:Nat) (hx:Ae I μ x rx) (h:asNat x=some n):Jy I μ (some n) (some rx)
theorem JK {isSlice:Bool}{len cap:Nat}{lo hi mx:Option Nat}{rlo rhi rmx:Option Value}(hlo:Jy I μ lo rlo)(hhi:Jy I μ hi rhi)(hmx:Jy I μ mx rmx)(hm:mx.isSome=true->hi.isSome=true)(h1:lo.getD 0<=hi.getD len)(h2:hi.getD len<=mx.getD cap)(h3:mx.getD cap<=cap) :
 (Instr.sliceBounds isSlice len cap rlo rhi rmx).run P w=.ok (lo.getD 0,hi.getD len,mx.getD cap) w:=by
 cases hmx with
 |none=>
  cases hhi with
  |none=>
   cases hlo with
   |none=>simp[Instr.sliceBounds]
   |some x rx n hx h=>
    simp at h1
    simp[Instr.sliceBounds,Co hx h h1,Result.andThen]
  |some y ry m hy g=>
   simp at h2
   cases hlo with
   |none=>simp[Instr.sliceBounds,Co hy g h2,Result.andThen]
   |some x rx n hx h=>
    simp at h1
    simp[Instr.sliceBounds,Co hx h h1,Co hy g h2,Result.andThen]
 |some z rz q hz f=>
  simp at h3
  cases hhi with
  |none=>simp at hm
  |some y ry m hy g=>
   simp at h2
   cases hlo with
   |none=>simp[Instr.sliceBounds,Co hy g h2,Co hz f h3,Result.andThen]
   |some x rx n hx h=>
    simp at h1
    simp[Instr.sliceBounds,Co hx h h1,Co hy g h2,Co hz f h3,Result.andThen]
theorem extract_mk (l:List UInt8)(a b:Nat)(h:a<=b):(⟨⟨l⟩⟩:ByteArray).extract a b=⟨⟨(l.take b).drop a⟩⟩:=by
 apply ByteArray.ext
 apply Array.ext'
 simp[ByteArray.data_extract,List.drop_take]
theorem Hl {is:Bool}{l l':List AV}{rl:List Value}{n:Option Nat}(hl:Ah I μ l rl)(h:DC is l=some (n,l')) :
 ∃ro rl',rl=(if is then ro.toList++rl' else rl')/\(is=true↔ro.isSome=true)/\Jy I μ n ro/\Ah I μ l' rl':=by
 cases is with
 |false=>simp[DC] at h; obtain⟨h1,h2⟩:=h; subst h1 h2; exact⟨none,rl,by simp,by simp,.none,hl⟩
 |true=>
  cases hl with
  |nil=>simp[DC] at h
  |cons x rx l rl hx ht=>
   simp only[DC] at h
   split at h
   ·rename_i m hm
    simp at h
    obtain⟨h1,h2⟩:=h
    subst h1 h2
    exact⟨some rx,rl,by simp,by simp,.some x rx m hx hm,ht⟩
   ·cases h
theorem UF {t:TypeId}(ht:P.underlying t=some .string){lo hi:Bool}{x v:AV}{rx:Value}{l:List AV}{rl:List Value}{st':St}(hx:Ae I μ x rx)(hl:Ah I μ l rl)(h:CJ lo hi (x::l) st=some (v,st')):st'=st/\∃rlo rhi:Option Value,rl=rlo.toList++rhi.toList/\(lo=true↔rlo.isSome=true)/\(hi=true↔rhi.isSome=true) /\
 ∃rv,(Instr.sliceAt t rx rlo rhi none).run P w=.ok rv w/\Ae I μ v rv:=by
 cases hx with
 |str s=>
  simp only[CJ] at h
  split at h
  ·rename_i a l1 h1
   obtain⟨rlo,rl1,e1,f1,o1,hl1⟩:=Hl hl h1
   split at h
   ·rename_i b h2
    obtain⟨rhi,rl2,e2,f2,o2,hl2⟩:=Hl hl1 h2
    cases hl2
    simp only[ble_eq,cond_eq_ite,Bool.and_eq_true,decide_eq_true_eq] at h
    split at h
    ·rename_i hb
     cases h
     refine⟨rfl,rlo,rhi,?_,f1,f2,.string ⟨⟨(s.take (b.getD s.length)).drop (a.getD 0)⟩⟩,?_,.str _⟩
     ·rw[e1,e2]
      cases lo <;> cases hi <;> simp at f1 f2 ⊢ <;> simp[f1,f2]
     ·have:=JK (P:=P) (w:=w) (isSlice:=false) (len:=s.length) (cap:=s.length) o1 o2 (.none (I:=I) (μ:=μ)) (by simp) hb.1 (by simpa using hb.2) (by simp)
      simp only[Instr.sliceAt,Sem.run_bind,run_underlying ht,Result.andThen,Instr.slice,Option.isSome_none,Bool.false_eq_true,if_false,Sem.run_pure,size_mk,this]
      rw[extract_mk _ _ _ hb.1]
    ·cases h
   ·cases h
  ·cases h
 |_=>simp[CJ] at h
def MW (P:Program)(t:TypeId)(e sz:Nat):Bool:=
 match P.underlying t with
 |some (.slice e')=>Nat.beq e' e&&(match P.info? e with|some i=>Nat.beq i.size sz|none=>false)
 |_=>false
theorem Ni {t:TypeId}{e sz:Nat}(h:MW P t e sz=true):P.underlying t=some (.slice e)/\∃i,P.info? e=some i/\i.size=sz:=by
 unfold MW at h
 split at h
 ·rename_i e' hd
  simp only[Bool.and_eq_true] at h
  have:=Nat.eq_of_beq_eq_true h.1
  subst this
  split at h
  ·rename_i i hi
   exact⟨hd,i,hi,Nat.eq_of_beq_eq_true h.2⟩
  ·simp at h
 ·cases h
theorem OL {t:TypeId}{e sz:Nat}(ht:MW P t e sz=true){a:Option Addr}{len cap:Nat}{lo hi mx:Option Nat}{rlo rhi rmx:Option Value}(hlo:Jy I μ lo rlo)(hhi:Jy I μ hi rhi)(hmx:Jy I μ mx rmx)(hm:mx.isSome=true->hi.isSome=true)(h1:lo.getD 0<=hi.getD len)(h2:hi.getD len<=mx.getD cap)(h3:mx.getD cap<=cap) :
 (Instr.sliceAt t (.slice a len cap) rlo rhi rmx).run P w =
  .ok (.slice (if mx.getD cap=lo.getD 0 then a else a.map (·.add (lo.getD 0*sz))) (hi.getD len-lo.getD 0) (mx.getD cap-lo.getD 0)) w:=by
 obtain⟨hd,i,hi',hsz⟩:=Ni ht
 have:=JK (P:=P) (w:=w) (isSlice:=true) (len:=len) (cap:=cap) hlo hhi hmx hm h1 h2 h3
 simp only[Instr.sliceAt,Sem.run_bind,run_underlying hd,Result.andThen,Instr.slice,this,CG hi',hsz,Sem.run_pure]
theorem FM {sz:Nat}:∀(xs:List AV),(∀x∈xs,x.cells.length=sz)->∀n,(xs.take n).flatMap AV.cells=(xs.flatMap AV.cells).take (n*sz)/\(xs.drop n).flatMap AV.cells=(xs.flatMap AV.cells).drop (n*sz)
 |[],_,n=>by simp
 |x::xs,h,0=>by simp
 |x::xs,h,n+1=>by
  obtain⟨h1,h2⟩:=FM xs (fun y hy=>h y (by simp[hy])) n
  have hx:=h x (by simp)
  have e:(n+1)*sz=x.cells.length+n*sz:=by rw[hx,Nat.add_mul,Nat.one_mul,Nat.add_comm]
  constructor
  ·rw[List.take_succ_cons,List.flatMap_cons,h1,List.flatMap_cons,e,List.take_length_add_append]
  ·rw[List.drop_succ_cons,h2,List.flatMap_cons,e,List.drop_length_add_append]
theorem IW {sz:Nat}(xs:List AV)(h:∀x∈xs,x.cells.length=sz):(xs.flatMap AV.cells).length=xs.length*sz:=by
 induction xs with
 |nil=>simp
 |cons x xs ih=>simp[h x (by simp),ih (fun y hy=>h y (by simp[hy])),Nat.add_mul,Nat.add_comm]
theorem WE {xs:List AV}{r off sz:Nat}{rvs:List Value}(hI:∀(i:Nat) (h:i<rvs.length),I.cell r (off+i)=some rvs[i])(h1:One rvs)(hs:∀x∈xs,x.cells.length=sz)(h:Ah I μ (xs.flatMap AV.cells) rvs){l e:Nat}(hle:l<=e)(hxs:e<=xs.length){tight':Bool}{cap':Nat}(hc:e-l<=cap')(ht:tight'=true->cap'=e-l) :
 Ae I μ (.list tight' sz ((xs.take e).drop l)) (.slice (some ⟨r,off+l*sz,none⟩) (e-l) cap'):=by
 have hlen:((xs.take e).drop l).length=e-l:=by simp; omega
 have hs':∀x∈(xs.take e).drop l,x.cells.length=sz:=fun x hx=>hs x (List.mem_of_mem_take (List.mem_of_mem_drop hx))
 have g1:=(FM (xs.take e) (fun x hx=>hs x (List.mem_of_mem_take hx)) l).2
 have g2:=(FM xs hs e).1
 have:=Ae.list (I:=I) (μ:=μ) tight' sz ((xs.take e).drop l) r (off+l*sz) cap' ((rvs.take (e*sz)).drop (l*sz)) (fun i hi=>by
  simp at hi
  rw[Nat.add_assoc,hI (l*sz+i) (by omega)]
  simp) ((h1.take _).drop _) hs' (by rw[g1,g2]; exact (h.take _).drop _) (by rw[hlen]; exact hc) (by rw[hlen]; exact ht)
 rw[hlen] at this
 exact this
theorem aT (H:Ay base w0 I μ st w){t:TypeId}{e sz:Nat}(ht:MW P t e sz=true){lo hi mx:Bool}{x v:AV}{rx:Value}{l:List AV}{rl:List Value}{st':St}(hx:Ae I μ x rx)(hl:Ah I μ l rl)(hmx:mx=true->hi=true)(h:Bz sz lo hi mx (x::l) st=some (v,st')) :
 st'=st/\∃rlo rhi rmx:Option Value,rl=rlo.toList++(rhi.toList++rmx.toList)/\(lo=true↔rlo.isSome=true)/\(hi=true↔rhi.isSome=true)/\(mx=true↔rmx.isSome=true) /\
  ∃rv,(Instr.sliceAt t rx rlo rhi rmx).run P w=.ok rv w/\Ae I μ v rv:=by
 simp only[Bz] at h
 split at h
 ·rename_i a l1 h1
  obtain⟨rlo,rl1,e1,f1,o1,hl1⟩:=Hl hl h1
  split at h
  ·rename_i b l2 h2
   obtain⟨rhi,rl2,e2,f2,o2,hl2⟩:=Hl hl1 h2
   split at h
   ·rename_i m h3
    obtain⟨rmx,rl3,e3,f3,o3,hl3⟩:=Hl hl2 h3
    cases hl3
    have hm:m.isSome=true->b.isSome=true:=by
     intro hm
     have:rmx.isSome=true:=by cases o3 <;> first|rfl|cases hm
     have:=f2.1 (hmx (f3.2 this))
     cases o2 <;> first|rfl|cases this
    unfold Df at h
    split at h
    ·rename_i v' hv
     cases h
     refine⟨rfl,rlo,rhi,rmx,?_,f1,f2,f3,?_⟩
     ·rw[e1,e2,e3]
      cases lo <;> cases hi <;> cases mx <;> simp at f1 f2 f3 ⊢ <;> simp[f1,f2,f3]
     ·cases hx with
      |AB=>
       simp only[CE,beq_eq,cond_eq_ite,Bool.and_eq_true,decide_eq_true_eq] at hv
       split at hv
       ·rename_i hz
        cases hv
        have hb:b.getD 0=0:=hz.1.2
        have:=OL (P:=P) (w:=w) ht (a:=none) (len:=0) (cap:=0) o1 o2 o3 hm (by omega) (by omega) (by omega)
        rw[hz.1.1,hz.1.2,hz.2] at this
        exact⟨_,this,by simpa using Ae.AB⟩
       ·cases hv
      |list tight sz' xs r off cap rvs hI h1' hs hv' hc htg=>
       simp only[CE,beq_eq,cond_eq_ite,decide_eq_true_eq] at hv
       split at hv
       ·rename_i hsz
        subst hsz
        simp only[Iy] at hv
        have hrun:=fun g1 g2 g3=>OL (P:=P) (w:=w) ht (a:=some ⟨r,off,none⟩) (len:=xs.length) (cap:=cap) o1 o2 o3 hm g1 g2 g3
        have fin:∀(b' c':Nat) (tt:Bool),a.getD 0<=b'->b'<=xs.length->b'<=c'->(tt=true->c'=b') ->
         Ae I μ (.list tt sz' ((xs.take b').drop (a.getD 0))) (.slice (if c'=a.getD 0 then some ⟨r,off,none⟩ else (some ⟨r,off,none⟩:Option Addr).map (·.add (a.getD 0*sz'))) (b'-a.getD 0) (c'-a.getD 0)):=by
         intro b' c' tt g1 g2 g3 g4
         by_cases hz:c'=a.getD 0
         ·have hb:b'=a.getD 0:=by omega
          have hnil:(xs.take b').drop (a.getD 0)=[]:=by
           apply List.eq_nil_of_length_eq_zero; simp; omega
          rw[if_pos hz,hnil]
          have:=Ae.list (I:=I) (μ:=μ) tt sz' [] r off (c'-a.getD 0) [] (by simp) (by intro v hv; cases hv) (by simp) .nil (by simp) (by intro h; have:=g4 h; simp; omega)
          simpa [hb] using this
         ·rw[if_neg hz]
          simp only[Option.map_some,Cc]
          exact WE hI h1' hs hv' g1 g2 (by omega) (by intro h; have:=g4 h; omega)
        split at hv
        ·rename_i hmx'
         simp only[ble_eq,cond_eq_ite,Bool.and_eq_true,decide_eq_true_eq] at hv
         split at hv
         ·rename_i hb
          cases hv
          refine⟨_,hrun hb.1 (by simp; omega) (by simp),?_⟩
          simp only[Option.getD_none]
          refine fin _ cap _ hb.1 hb.2 (by omega) ?_
          intro htt
          rw[Bool.and_eq_true] at htt
          have:=htg htt.1
          have:=Nat.eq_of_beq_eq_true htt.2
          show cap=_
          omega
         ·cases hv
        ·rename_i mm
         simp only[ble_eq,cond_eq_ite,Bool.and_eq_true,decide_eq_true_eq] at hv
         split at hv
         ·rename_i hb
          cases hv
          refine⟨_,hrun hb.1.1 (by simpa using hb.1.2) (by simp; omega),?_⟩
          simp only[Option.getD_some]
          refine fin _ mm _ hb.1.1 (by omega) hb.1.2 ?_
          intro htt
          simpa using htt
         ·cases hv
       ·cases hv
      |AU o off len cap pl ad rcap hμ hz ha hle hc=>
       simp only[CE] at hv
       split at hv
       ·rename_i ty sz' cs ext hf
        simp only[beq_eq,blt_eq,cond_eq_ite,Bool.and_eq_true,decide_eq_true_eq] at hv
        split at hv
        ·rename_i hsz
         obtain⟨hsz1,hsz2⟩:=hsz
         subst hsz1
         obtain⟨pl',c,fz,rvs,g1,hplsz,hn,he,hw,hb,hfz,hvr,hone,hcc⟩:=H.cells hf hμ
         rw[hμ] at g1; cases g1
         rw[hplsz] at hz
         simp only[Gp,ble_eq,cond_eq_ite,decide_eq_true_eq] at hv
         split at hv
         ·rename_i hle1
          have hrun:=fun g2 g3=>OL (P:=P) (w:=w) ht (a:=some ad) (len:=len) (cap:=rcap) o1 o2 o3 hm hle1 g2 g3
          have fin:∀(e' c':Nat) (cap':Option Nat),e'<=c'->a.getD 0<=e'->(0<c'->0<rcap)->Ny pl (off+a.getD 0*sz') cap' (c'-a.getD 0) ->
           Ae I μ (.AU o (off+a.getD 0*sz') (e'-a.getD 0) cap') (.slice (if c'=a.getD 0 then some ad else (some ad:Option Addr).map (·.add (a.getD 0*sz'))) (e'-a.getD 0) (c'-a.getD 0)):=by
           intro e' c' cap' g1 g2 g3 g4
           by_cases hz':c'=a.getD 0
           ·rw[if_pos hz']
            exact .AU o _ _ _ pl ad _ hμ (by rw[hplsz]; exact hz) ⟨ha.1,by intro h; omega⟩ (by omega) g4
           ·rw[if_neg hz']
            simp only[Option.map_some]
            refine .AU o _ _ _ pl _ _ hμ (by rw[hplsz]; exact hz) ⟨by unfold Addr.add; split <;> simp_all,?_⟩ (by omega) g4
            intro h
            rw[ha.2 (g3 (by omega)),Cc,Nat.add_assoc]
          unfold Ny at hc
          split at hv
          ·rename_i hmn cc
           try simp only[ble_eq,cond_eq_ite,decide_eq_true_eq] at hv
           split at hv
           ·rename_i hb2
            cases hv
            obtain⟨hc1,hc2⟩:=hc
            refine⟨_,hrun (by simp; omega) (by simp),?_⟩
            simp only[Option.getD_none]
            refine fin _ rcap _ (by omega) hle1 (fun h=>h) ?_
            unfold Ny
            refine⟨by omega,?_⟩
            rw[hplsz] at hc2 ⊢
            have:a.getD 0<=cc:=by omega
            have:off+a.getD 0*sz'+(cc-a.getD 0)*sz'=off+cc*sz':=by rw[Nat.add_assoc,← Nat.add_mul]; congr 2; omega
            omega
           ·cases hv
          ·rename_i hmn
           try simp only[ble_eq,cond_eq_ite,decide_eq_true_eq] at hv
           split at hv
           ·rename_i hb2
            cases hv
            obtain⟨hc1,hc2⟩:=hc
            rw[hplsz] at hc2
            have hecap:b.getD len<=rcap:=by
             have:b.getD len*sz'<=rcap*sz':=by omega
             exact Nat.le_of_mul_le_mul_right this hz
            refine⟨_,hrun (by simpa using hecap) (by simp),?_⟩
            simp only[Option.getD_none]
            refine fin _ rcap _ hecap hle1 (fun h=>h) ?_
            unfold Ny
            have h2:a.getD 0*sz'<=b.getD len*sz':=Nat.mul_le_mul_right _ hle1
            refine⟨by omega,?_⟩
            rw[hplsz,Nat.sub_mul]
            omega
           ·cases hv
          ·rename_i mm cc
           try simp only[ble_eq,cond_eq_ite,Bool.and_eq_true,decide_eq_true_eq] at hv
           split at hv
           ·rename_i hb2
            cases hv
            obtain⟨hc1,hc2⟩:=hc
            refine⟨_,hrun (by simpa using hb2.1) (by simp; omega),?_⟩
            simp only[Option.getD_some]
            refine fin _ mm _ hb2.1 hle1 (by omega) ?_
            unfold Ny
            refine⟨rfl,?_⟩
            rw[hplsz] at hc2 ⊢
            have:off+a.getD 0*sz'+(mm-a.getD 0)*sz'=off+mm*sz':=by rw[Nat.add_assoc,← Nat.add_mul]; congr 2; omega
            have:mm*sz'<=cc*sz':=Nat.mul_le_mul_right _ hb2.2
            omega
           ·cases hv
          ·rename_i mm
           try simp only[ble_eq,cond_eq_ite,Bool.and_eq_true,decide_eq_true_eq] at hv
           split at hv
           ·rename_i hb2
            cases hv
            obtain⟨hc1,hc2⟩:=hc
            rw[hplsz] at hc2
            have hecap:mm<=rcap:=by
             have:mm*sz'<=rcap*sz':=by omega
             exact Nat.le_of_mul_le_mul_right this hz
            refine⟨_,hrun (by simpa using hb2.1) (by simpa using hecap),?_⟩
            simp only[Option.getD_some]
            refine fin _ mm _ hb2.1 hle1 (by omega) ?_
            unfold Ny
            refine⟨rfl,?_⟩
            rw[hplsz]
            have:off+a.getD 0*sz'+(mm-a.getD 0)*sz'=off+mm*sz':=by rw[Nat.add_assoc,← Nat.add_mul]; congr 2; omega
            omega
           ·cases hv
         ·cases hv
        ·cases hv
       ·cases hv
      |_=>simp[CE] at hv
    ·cases h
   ·cases h
  ·cases h
 ·cases h
end
end Go.Am
end
section
namespace Go.Am
open Go Go.RowKit
variable {P:Program}
section
variable {base:Nat}{w0:Start}{I:Cv}{μ:Mu}{st:St}{w:World}
theorem Ue {x v:AV}{rx:Value}{st':St}(hx:Ae I μ x rx)(h:CQ x st=some (v,st')) :
 st'=st/\v=x/\((∃a,rx=.pointer (some a))∨∃f a b,rx=.func (.func f) a b):=by
 cases hx with
 |fn f a b ra rb ha hb=>cases f <;> simp[CQ] at h ⊢ <;> (obtain⟨h1,h2⟩:=h; exact⟨h2.symm,h1.symm⟩)
 |_=>first
  |(simp[CQ] at h; done)
  |(simp[CQ] at h ⊢; obtain⟨h1,h2⟩:=h; exact⟨h2.symm,h1.symm⟩)
def TR (P:Program)(s:TypeId)(f off:Nat):Bool:=
 match P.underlying s with
 |some (.struct fs)=>(match fs[f]? with
  |some fd=>Nat.beq fd.offset off&&(match P.info? fd.type with|some i=>!Nat.beq i.size 0|none=>false)
  |none=>false)
 |_=>false
theorem Ze {s:TypeId}{f off:Nat}(h:TR P s f off=true):∃fs fd i,P.underlying s=some (.struct fs)/\fs[f]? =some fd/\fd.offset=off/\P.info? fd.type=some i/\i.size≠0:=by
 unfold TR at h
 split at h
 ·rename_i fs hd
  split at h
  ·rename_i fd hf
   rw[Bool.and_eq_true] at h
   obtain⟨h1,h2⟩:=h
   split at h2
   ·rename_i i hi
    refine⟨fs,fd,i,hd,hf,Nat.eq_of_beq_eq_true h1,hi,fun e=>?_⟩
    rw[e] at h2; cases h2
   ·cases h2
  ·cases h
 ·cases h
theorem TT {s:TypeId}{f off:Nat}(ht:TR P s f off=true){p v:AV}{rp:Value}{st':St}(hp:Ae I μ p rp)(h:DR off p st=some (v,st')) :
 st'=st/\∃rv,(Instr.fieldAt s rp f).run P w=.ok rv w/\Ae I μ v rv:=by
 obtain⟨fs,fd,i,hd,hf,hoff,hi,hne⟩:=Ze ht
 have run:∀a:Addr,(Instr.fieldAt s (.pointer (some a)) f).run P w=.ok (.pointer (some (a.add off))) w:=by
  intro a
  simp[Instr.fieldAt,run_underlying hd,Result.andThen,hf,Instr.sureAddr,fieldPlace,CG hi,hne,hoff]
 cases hp with
 |AO o a pl hμ=>
  simp[DR] at h
  obtain⟨h1,h2⟩:=h
  subst h1 h2
  refine⟨rfl,_,run _,?_⟩
  rw[Cc,Nat.add_assoc]
  exact .AO o (a+off) pl hμ
 |BN cs r a rvs hI h1 hv=>
  simp[DR] at h
  obtain⟨g1,g2⟩:=h
  subst g1 g2
  refine⟨rfl,_,run _,?_⟩
  rw[Cc]
  refine .BN _ r (a+off) (rvs.drop off) (fun i hi=>?_) (h1.drop _) (hv.drop _)
  simp at hi
  rw[Nat.add_assoc,hI (off+i) (by omega)]
  simp
 |_=>simp[DR] at h
theorem Lj {k:IntKind}{n:Int}:(asIntOf (.int k n)).run P w=.ok (k,n) w:=rfl
theorem TJ (H:Ay base w0 I μ st w){t:TypeId}{e sz:Nat}(ht:MW P t e sz=true){x i v:AV}{rx ri:Value}{st':St}(hx:Ae I μ x rx)(hi:Ae I μ i ri)(h:Ad sz x i st=some (v,st')):st'=st/\∃rv,(Instr.indexAt t rx ri).run P w=.ok rv w/\Ae I μ v rv:=by
 obtain⟨hd,ti,hti,hsz⟩:=Ni ht
 unfold Ad at h
 split at h
 ·rename_i n hn
  obtain⟨k,rfl⟩:=JV hi hn
  have run:∀(a:Addr) (len cap:Nat),n<len->(Instr.indexAt t (.slice (some a) len cap) (.int k n)).run P w=.ok (.pointer (some (a.add (n*sz)))) w:=by
   intro a len cap Bc
   have h1:(0:Int)<=n/\(n:Int)<len:=by omega
   simp[Instr.indexAt,asIntOf,run_underlying hd,Result.andThen,CG hti,hsz,Bc]
  cases hx with
  |list tight sz' xs r off cap rvs hI h1 hs hv hc htg=>
   simp only[beq_eq,cond_eq_ite,decide_eq_true_eq] at h
   split at h
   ·rename_i hsz'
    subst hsz'
    split at h
    ·rename_i y hy
     cases h
     have Bc:n<xs.length:=(List.getElem?_eq_some_iff.1 hy).1
     refine⟨rfl,_,run _ _ _ Bc,?_⟩
     rw[Cc]
     have hl:=hv.length
     rw[IW xs hs] at hl
     have hy1:(xs.drop n).take 1=[y]:=by
      rw[List.getElem?_eq_some_iff] at hy
      obtain⟨_,hy⟩:=hy
      rw[List.drop_eq_getElem_cons Bc,hy]; rfl
     have hyc:((xs.flatMap AV.cells).drop (n*sz')).take (1*sz')=y.cells:=by
      rw[← (FM xs hs n).2,← (FM (xs.drop n) (fun x hx=>hs x (List.mem_of_mem_drop hx)) 1).1,hy1]
      simp
     rw[← hyc]
     have hle:n*sz'+sz'<=xs.length*sz':=by
      have:=Nat.mul_le_mul_right sz' Bc
      rw[Nat.succ_mul] at this; exact this
     refine .BN _ r (off+n*sz') ((rvs.drop (n*sz')).take (1*sz')) (fun j hj=>?_) ((h1.drop _).take _) ((hv.drop _).take _)
     simp at hj
     rw[Nat.add_assoc,hI (n*sz'+j) (by omega)]
     simp
    ·cases h
   ·cases h
  |AU o off len cap pl ad rcap hμ hz ha hle hc=>
   simp only at h
   split at h
   ·rename_i ty sz' cs ext hf
    simp only[beq_eq,blt_eq,cond_eq_ite,Bool.and_eq_true,decide_eq_true_eq] at h
    split at h
    ·rename_i hb
     cases h
     refine⟨rfl,_,run _ _ _ hb.1,?_⟩
     rw[ha.2 (by omega),Cc,Nat.add_assoc]
     exact .AO o _ pl hμ
    ·cases h
   ·cases h
  |_=>simp at h
 ·cases h
def Zm (P:Program)(t:TypeId)(len e sz:Nat):Bool:=
 match P.underlying t with
 |some (.array n e')=>Nat.beq n len&&Nat.beq e' e&&(match P.info? e with|some i=>Nat.beq i.size sz|none=>false)
 |_=>false
theorem YN {t:TypeId}{len e sz:Nat}(h:Zm P t len e sz=true):P.underlying t=some (.array len e)/\∃i,P.info? e=some i/\i.size=sz:=by
 unfold Zm at h
 split at h
 ·rename_i n e' hd
  simp only[Bool.and_eq_true] at h
  have h1:=Nat.eq_of_beq_eq_true h.1.1
  have h2:=Nat.eq_of_beq_eq_true h.1.2
  subst h1 h2
  have h3:=h.2
  split at h3
  ·rename_i i hi
   exact⟨hd,i,hi,Nat.eq_of_beq_eq_true h3⟩
  ·cases h3
 ·cases h
theorem UE {t:TypeId}{len e sz:Nat}(ht:Zm P t len e sz=true){x i v:AV}{rx ri:Value}{st':St}(hx:Ae I μ x rx)(hi:Ae I μ i ri)(h:Ho len sz x i st=some (v,st')):st'=st/\∃rv,(Instr.indexAt t rx ri).run P w=.ok rv w/\Ae I μ v rv:=by
 obtain⟨hd,ti,hti,hsz⟩:=YN ht
 unfold Ho at h
 split at h
 ·rename_i n hn
  obtain⟨k,rfl⟩:=JV hi hn
  simp only[blt_eq,cond_eq_ite,decide_eq_true_eq] at h
  split at h
  ·rename_i Bc
   have run:∀(a:Addr),(Instr.indexAt t (.pointer (some a)) (.int k n)).run P w=.ok (.pointer (some (a.add (n*sz)))) w:=by
    intro a
    have h1:(0:Int)<=n/\(n:Int)<len:=by omega
    simp[Instr.indexAt,asIntOf,run_underlying hd,Result.andThen,CG hti,hsz,Instr.sureAddr,Bc]
   cases hx with
   |AO o off pl hμ=>
    simp at h
    obtain⟨g1,g2⟩:=h
    subst g1 g2
    refine⟨rfl,_,run _,?_⟩
    rw[Cc,Nat.add_assoc]
    exact .AO o _ pl hμ
   |BN cs r a rvs hI h1 hv=>
    simp at h
    obtain⟨g1,g2⟩:=h
    subst g1 g2
    refine⟨rfl,_,run _,?_⟩
    rw[Cc]
    refine .BN _ r _ (rvs.drop (n*sz)) (fun j hj=>?_) (h1.drop _) (hv.drop _)
    simp at hj
    rw[Nat.add_assoc,hI (n*sz+j) (by omega)]
    simp
   |_=>simp at h
  ·cases h
 ·cases h
theorem getElem_mk (l:List UInt8)(n:Nat):(⟨⟨l⟩⟩:ByteArray)[n]? =l[n]?:=by
 by_cases h:n<l.length
 ·rw[getElem?_pos (⟨⟨l⟩⟩:ByteArray) n h,getElem?_pos l n h]
  rfl
 ·rw[getElem?_neg (⟨⟨l⟩⟩:ByteArray) n h,getElem?_neg l n h]
theorem Uz {t:TypeId}(ht:P.underlying t=some .string){x i v:AV}{rx ri:Value}{st':St}(hx:Ae I μ x rx)(hi:Ae I μ i ri)(h:CR x i st=some (v,st')):st'=st/\∃rv,(Instr.index t rx ri).run P w=.ok rv w/\Ae I μ v rv:=by
 unfold CR at h
 split at h
 ·rename_i n hn
  obtain⟨k,rfl⟩:=JV hi hn
  cases hx with
  |str l=>
   simp only at h
   split at h
   ·rename_i b hb
    cases h
    refine⟨rfl,.int .u8 b.toNat,?_,.int _ _⟩
    have:(if (0:Int)<=n then (⟨⟨l⟩⟩:ByteArray)[(n:Int).toNat]? else none)=some b:=by
     rw[if_pos (by omega),Int.toNat_natCast,getElem_mk,hb]
    simp only[Instr.index,Sem.run_bind,Lj,Result.andThen,run_underlying ht,this,Sem.run_pure]
   ·cases h
  |_=>simp at h
 ·cases h
theorem Zc (vs:List Value)(off:Nat):∀(cs:Array Value) (k i:Nat),off+k+vs.length<=cs.size ->
 ((vs.zipIdx k).foldl (fun cs x=>cs.setIfInBounds (off+x.2) x.1) cs).size=cs.size /\
 ((vs.zipIdx k).foldl (fun cs x=>cs.setIfInBounds (off+x.2) x.1) cs)[i]? =if off+k<=i/\i<off+k+vs.length then vs[i-(off+k)]? else cs[i]?:=by
 induction vs with
 |nil=>
  intro cs k i h
  simp
  intro h1 h2; omega
 |cons v vs ih=>
  intro cs k i h
  simp at h
  rw[List.zipIdx_cons,List.foldl_cons]
  obtain⟨h1,h2⟩:=ih (cs.setIfInBounds (off+k) v) (k+1) i (by simp; omega)
  refine⟨by rw[h1]; simp,?_⟩
  rw[h2]
  by_cases c1:off+(k+1)<=i/\i<off+(k+1)+vs.length
  ·rw[if_pos c1,if_pos (by simp; omega)]
   rw[show i-(off+k)=i-(off+(k+1))+1 by omega]
   simp
  ·rw[if_neg c1]
   by_cases c2:i=off+k
   ·subst c2
    rw[if_pos (by simp),Array.getElem?_setIfInBounds]
    simp; omega
   ·rw[if_neg (by simp; omega),Array.getElem?_setIfInBounds_ne (by omega)]
theorem Zb (vs:List Value)(off:Nat)(cs:Array Value)(h:off+vs.length<=cs.size) :
 (vs.zipIdx.foldl (fun cs x=>cs.setIfInBounds (off+x.2) x.1) cs).toList=cs.toList.take off++(vs++cs.toList.drop (off+vs.length)):=by
 apply List.ext_getElem?
 intro i
 have:=(Zc vs off cs 0 i (by omega)).2
 rw[Array.getElem?_toList,this]
 simp only[Nat.add_zero]
 by_cases c1:i<off
 ·rw[if_neg (by omega),List.getElem?_append_left (by simp; omega),List.getElem?_take_of_lt c1,Array.getElem?_toList]
 ·rw[List.getElem?_append_right (by simp; omega)]
  simp only[List.length_take,Array.length_toList,Nat.min_eq_left (show off<=cs.size by omega)]
  by_cases c2:i<off+vs.length
  ·rw[if_pos (by omega),List.getElem?_append_left (by omega)]
  ·rw[if_neg (by omega),List.getElem?_append_right (by omega),List.getElem?_drop,Array.getElem?_toList]
   congr 1; omega
theorem TP (place:Nat->Option (Nat × Nat)):∀(parts:List (Nat × Value)) (places:List (Nat × Nat)) (vs cs cs':List AV) (rcs:Array Value),
 parts.map (fun p=>place p.1)=places.map some->Ah I μ vs (parts.map (·.2))->Ah I μ cs rcs.toList->One rcs.toList->BA cs places vs=some cs' ->
 ∃rcs':Array Value,Instr.fill place rcs parts=some rcs'/\Ah I μ cs' rcs'.toList/\One rcs'.toList
 |[],[],vs,cs,cs',rcs,_,hv,hc,h1,h=>by
  cases hv
  simp[BA] at h
  subst h
  exact⟨rcs,rfl,hc,h1⟩
 |[],_::_,_,_,_,_,hp,_,_,_,_=>by simp at hp
 |_::_,[],_,_,_,_,hp,_,_,_,_=>by simp at hp
 |(i,rv)::parts,(off,size)::places,vs,cs,cs',rcs,hp,hv,hc,h1,h=>by
  simp at hp
  obtain⟨hp1,hp2⟩:=hp
  cases hv with
  |cons v _ l _ hv ht=>
   simp only[BA,beq_eq,ble_eq,cond_eq_ite,Bool.and_eq_true,decide_eq_true_eq] at h
   split at h
   ·cases h
   rename_i hnt
   split at h
   ·rename_i hb
    obtain⟨rvs,e1,e2,e3⟩:=hv.cells (by simpa using hnt)
    have hl:=hc.length
    have hl2:=e2.length
    have hsz:rv.cells.size=size:=by rw[← Array.length_toList,e1,← hl2]; exact hb.1
    simp at hl
    have hfold:=Zb rvs off rcs (by omega)
    have hcond:(decide (rv.cells.size≠size)||decide (off+rv.cells.size>rcs.size))=false:=by
     simp; omega
    obtain⟨rcs',g1,g2,g3⟩:=TP place parts places l (BS cs off v.cells) cs' (rvs.zipIdx.foldl (fun cs x=>cs.setIfInBounds (off+x.2) x.1) rcs) hp2 ht
     (by rw[hfold]; exact QB hc e2) (by rw[hfold]; exact (h1.take _).append (e3.append (h1.drop _))) h
    refine⟨rcs',?_,g2,g3⟩
    rw[← g1]
    have:rv.cells.zipIdx.foldl (fun cs x=>cs.setIfInBounds (off+x.2) x.1) rcs=rvs.zipIdx.foldl (fun cs x=>cs.setIfInBounds (off+x.2) x.1) rcs:=by
     rw[← e1,← Array.foldl_toList]
     simp
    simp only[Instr.fill,hp1]
    rw[if_neg (by simpa using hcond)]
    rw[← this]
   ·cases h
def placesOf (P:Program):List Field->Option (List (Nat × Nat))
 |[]=>some []
 |f::fs=>match P.info? f.type with
  |some i=>match placesOf P fs with
   |some l=>some ((f.offset,i.size)::l)
   |none=>none
  |none=>none
def Lr (all:List (Nat × Nat)):List (Nat × Operand)->List (Nat × Nat)->Bool
 |[],[]=>true
 |(i,_)::l,p::ps=>(match all[i]? with|some q=>Nat.beq p.1 q.1&&Nat.beq p.2 q.2|none=>false)&&Lr all l ps
 |_,_=>false
def Xg (P:Program)(t:TypeId)(parts:List (Nat × Operand))(zero:List AV)(places:List (Nat × Nat)):Bool:=
 Rn P t zero&&(match P.underlying t with
  |some (.struct fs)=>(match placesOf P fs.toList with|some all=>Lr all parts places|none=>false)
  |_=>false)
theorem run_places {fs:List Field}{l:List (Nat × Nat)}(h:placesOf P fs=some l)(w:World) :
 (fs.mapM fun f=>(do let s ← sizeOf f.type; pure (f.offset,s):Sem (Nat × Nat))).run P w=.ok l w:=by
 induction fs generalizing l with
 |nil=>simp[placesOf] at h; subst h; rfl
 |cons f fs ih=>
  simp only[placesOf] at h
  split at h
  ·rename_i i hi
   split at h
   ·rename_i l' hl
    cases h
    have:=ih hl
    simp only[List.mapM_cons,Sem.run_bind,CG hi,Result.andThen,Sem.run_pure,this]
   ·cases h
  ·cases h
theorem QM {all:List (Nat × Nat)}:∀{parts:List (Nat × Operand)} {places:List (Nat × Nat)},Lr all parts places=true->parts.map (fun p=>all[p.1]?)=places.map some
 |[],[],_=>rfl
 |[],_::_,h=>by simp[Lr] at h
 |_::_,[],h=>by simp[Lr] at h
 |(i,x)::l,p::ps,h=>by
  simp only[Lr,Bool.and_eq_true] at h
  obtain⟨h1,h2⟩:=h
  split at h1
  ·rename_i q hq
   rw[Bool.and_eq_true] at h1
   have e1:=Nat.eq_of_beq_eq_true h1.1
   have e2:=Nat.eq_of_beq_eq_true h1.2
   simp only[List.map_cons,hq,QM h2]
   rw[show q=p from Prod.ext e1.symm e2.symm]
  ·cases h1
theorem cK {t:TypeId}{parts:List (Nat × Operand)}{zero:List AV}{places:List (Nat × Nat)}(ht:Xg P t parts zero places=true){ρ:Operand->Value}{vs cs:List AV}(hv:Ah I μ vs (parts.map fun p=>ρ p.2))(h:BA zero places vs=some cs) :
 ∃rv,(Instr.build t (parts.toArray.map fun (i,x)=>(i,ρ x))).run P w=.ok rv w/\Ae I μ (.agg cs) rv:=by
 unfold Xg at ht
 rw[Bool.and_eq_true] at ht
 obtain⟨hz,hb⟩:=ht
 obtain⟨z,z1,z2,z3⟩:=NB hz
 split at hb
 ·rename_i fs hd
  split at hb
  ·rename_i all hall
   have hp:=QM hb
   obtain⟨rcs',g1,g2,g3⟩:=TP (I:=I) (μ:=μ) (all[·]?) (parts.map fun p=>(p.1,ρ p.2)) places vs zero cs z.cells (by rw[← hp]; simp) (by rw[List.map_map]; exact hv) z2 z3 h
   refine⟨.agg rcs',?_,by simpa using Ae.agg cs rcs'.toList g2 g3⟩
   have hrun:=run_places hall w
   have hm:(fs.mapM fun f=>(do let s ← sizeOf f.type; pure (f.offset,s):Sem (Nat × Nat))).run P w=.ok all.toArray w:=by
    rw[Array.mapM_eq_mapM_toList,Sem.run_map,hrun]
    rfl
   simp only[Instr.build,Sem.run_bind,z1,Result.andThen,run_underlying hd,hm]
   simp only[List.map_toArray,List.getElem?_toArray]
   rw[g1]
   rfl
  ·cases hb
 ·cases hb
def Li (P:Program)(t:TypeId)(e sz len:Nat)(parts:List (Nat × Operand))(zero:List AV)(offs:List Nat):Bool:=
 MW P t e sz&&Nat.ble (len*sz) (2 ^ 24)&&(match P.info? e with
  |some i=>(match i.zero with
   |some z=>Qw zero ((List.range (len*sz)).map (z.cells[· % z.cells.size]!))&&aj z.cells.toList&&!Nat.beq z.cells.size 0
   |none=>false)
  |none=>false)&&(parts.map (·.1)==offs)
theorem mod_one {z:Array Value}(h1:One z.toList)(h0:z.size≠0)(n:Nat):One ((List.range n).map (z[· % z.size]!)):=by
 intro v hv
 rw[List.mem_map] at hv
 obtain⟨i,_,rfl⟩:=hv
 have Bc:i % z.size<z.size:=Nat.mod_lt _ (by omega)
 rw[getElem!_pos z _ Bc]
 exact h1 _ (by simp)
theorem Rl (H:Ay base w0 I μ st w){t:TypeId}{e sz len:Nat}{parts:List (Nat × Operand)}{zero:List AV}{offs:List Nat}(ht:Li P t e sz len parts zero offs=true){ρ:Operand->Value}{vs:List AV}{v:AV}{o:Nat}{ob:Al}(hv:Ah I μ vs (parts.map fun p=>ρ p.2))(h:Ar o e sz len zero offs vs=some (v,ob))(hf:AA st.h o=some ob)(hμ:μ o=none)(ho:o<st.c) :
 Mw P base w0 I μ st w (some o) (Instr.buildSlice t len (parts.toArray.map fun (i,x)=>(i,ρ x))) v st:=by
 unfold Li at ht
 simp only[Bool.and_eq_true] at ht
 obtain⟨⟨⟨h1,h2⟩,h3⟩,h4⟩:=ht
 obtain⟨hd,i,hi,hsz⟩:=Ni h1
 rw[hi] at h3
 simp only at h3
 split at h3
 ·rename_i z hz
  simp only[Bool.and_eq_true] at h3
  obtain⟨⟨g1,g2⟩,g3⟩:=h3
  have g2:=TA g2
  have g3:z.cells.size≠0:=fun e=>by rw[e] at g3; cases g3
  have h4:parts.map (·.1)=offs:=by simpa using h4
  unfold Ar at h
  simp only[blt_eq,beq_eq,cond_eq_ite,decide_eq_true_eq] at h
  split at h
  ·rename_i hpos
   split at h
   ·rename_i cs hcs
    split at h
    ·rename_i hlen
     cases h
     have hz0:Ah I μ zero ((Array.range (len*sz)).map (z.cells[· % z.cells.size]!)).toList:=by
      have:=Lc (I:=I) (μ:=μ) g1
      simpa using this
     have hz1:One ((Array.range (len*sz)).map (z.cells[· % z.cells.size]!)).toList:=by
      have:=mod_one g2 g3 (len*sz)
      simpa using this
     obtain⟨rcs',f1,f2,f3⟩:=TP (I:=I) (μ:=μ) (fun i=>some (i*sz,sz)) (parts.map fun p=>(p.1,ρ p.2)) (offs.map fun i=>(i*sz,sz)) vs zero cs _
      (by rw[← h4]; simp) (by rw[List.map_map]; exact hv) hz0 hz1 hcs
     obtain⟨r1,r2⟩:=QI (P:=P) H hf f2 f3 (rest:=[]) (fun _=>rfl) hμ ho
     simp only[List.append_nil,Array.toArray_toList] at r1 r2
     refine⟨.slice (some ⟨w.heap.size,0,none⟩) len len,_,_,?_,r2,?_,Dn hμ,?_,rfl,rfl⟩
     ·have hle:¬(len*sz>2 ^ 24):=by
       have:=Nat.le_of_ble_eq_true h2; omega
      have hzv:(zeroValue e).run P w=.ok z w:=by simp[zeroValue,typeInfo,hi,hz]
      simp only[List.map_toArray] at f1 ⊢
      simp only[Instr.buildSlice,Sem.run_bind,run_underlying hd,Result.andThen,CG hi,hsz,Sem.run_ite,if_neg hle,Sem.run_pure,hzv,List.map_toArray]
      by_cases h0:len*sz=0
      ·rw[if_pos h0]
       rw[h0] at f1 ⊢
       have e0:∀g:Nat->Value,(Array.range 0).map g=#[]:=fun g=>by simp
       rw[e0] at f1 ⊢
       rw[f1]
       simp[r1,Result.andThen]
      ·rw[if_neg h0,f1]
       simp[r1,Result.andThen]
     ·exact .AU o 0 len (some len) ⟨w.heap.size,0,cs.length,0,sz⟩ _ len (by simp[Cu]) hpos ⟨rfl,by intro _; simp⟩ (Nat.le_refl _) ⟨rfl,by simp[hlen]⟩
     ·intro p hp
      have:p≠o:=fun e=>hp (by rw[e])
      simp[Cu,this]
    ·cases h
   ·cases h
  ·cases h
 ·cases h3
end
end Go.Am
end
section
namespace Go.Am
open Go Go.RowKit
variable {P:Program}
section
variable {base:Nat}{w0:Start}{I:Cv}{μ:Mu}{st:St}{w:World}
theorem Jm (H:Ay base w0 I μ st w){sz n:Nat}{v:AV}{rv:Value}{cs:List AV}(hv:Ae I μ v rv)(h:Au st.h sz n v=some cs) :
 ∃rvs,(Builtin.firstCells sz n rv).run P w=.ok rvs.toArray w/\Ah I μ cs rvs/\One rvs/\rvs.length=n*sz:=by
 cases hv with
 |AB=>
  simp only[Au,beq_eq,cond_eq_ite,decide_eq_true_eq] at h
  split at h
  ·rename_i hn
   cases h
   subst hn
   exact⟨[],by simp[Builtin.firstCells],.nil,(by intro v hv; cases hv),by simp⟩
  ·cases h
 |list tight sz' xs r off cap rvs hI h1 hs hv hc htg=>
  simp only[Au,beq_eq,ble_eq,cond_eq_ite,Bool.and_eq_true,decide_eq_true_eq] at h
  split at h
  ·rename_i hb
   cases h
   obtain⟨hb1,hb2⟩:=hb
   subst hb2
   have hl:=hv.length
   rw[IW xs hs] at hl
   have hle:n*sz'<=xs.length*sz':=Nat.mul_le_mul_right _ hb1
   have hlen:(rvs.take (n*sz')).length=n*sz':=by simp; omega
   refine⟨rvs.take (n*sz'),?_,by rw[(FM xs hs n).1]; exact hv.take _,h1.take _,hlen⟩
   simp only[Builtin.firstCells]
   have key:=run_loadCells_list (P:=P) w ⟨r,off,none⟩ (rvs.take (n*sz')) fun j v hj=>by
    rw[List.getElem?_eq_some_iff] at hj
    obtain⟨hj1,hj2⟩:=hj
    rw[Cc,H.JZ _ _ _ (hI j (by simp at hj1; omega)),← hj2]
    simp
   rw[hlen] at key
   exact key
  ·cases h
 |AU o off len cap pl ad rcap hμ hz ha hle hc=>
  simp only[Au] at h
  split at h
  ·rename_i ty sz' cs' ext hf
   simp only[beq_eq,ble_eq,cond_eq_ite,Bool.and_eq_true,decide_eq_true_eq] at h
   split at h
   ·rename_i hb
    cases h
    obtain⟨⟨hb1,hb2⟩,hb3⟩:=hb
    subst hb1
    obtain⟨pl',c,fz,rvs,g1,hplsz,hn,he,hw,hbb,hfz,hvr,hone,hcc⟩:=H.cells hf hμ
    rw[hμ] at g1; cases g1
    have hl:=hvr.length
    have hlen:((rvs.drop off).take (n*sz')).length=n*sz':=by simp; omega
    refine⟨(rvs.drop off).take (n*sz'),?_,(hvr.drop _).take _,(hone.drop _).take _,hlen⟩
    simp only[Builtin.firstCells]
    by_cases hn0:n=0
    ·subst hn0; simp[loadCells,loadCellsFrom]
    ·rw[ha.2 (by omega)]
     have key:=run_loadCells_list (P:=P) w ⟨pl.r,pl.b+off,none⟩ ((rvs.drop off).take (n*sz')) fun j v hj=>by
      rw[List.getElem?_eq_some_iff] at hj
      obtain⟨hj1,hj2⟩:=hj
      simp at hj1
      rw[Cc,Cb hw,Nat.add_assoc,hcc (off+j) (by omega),← hj2]
      simp
     rw[hlen] at key
     exact key
   ·cases h
  ·cases h
 |_=>simp[Au] at h
theorem Uo {v:AV}{rv:Value}{n:Nat}(hv:Ae I μ v rv)(h:lenOf v=some n):(Builtin.lenOf rv).run P w=.ok n w:=by
 cases hv <;> simp[lenOf] at h <;> subst h <;> simp[Builtin.lenOf,size_mk]
theorem WQ (H:Ay base w0 I μ st w){o ty sz:Nat}{cs:List AV}{ext:Bool}(hf:AA st.h o=some (.cells ty sz cs ext)){pl:Pl}(hpl:μ o=some pl){off:Nat}{rvs:List Value}(h1:One rvs)(hle:off+rvs.length<=pl.n+pl.e) :
 ∃w' c c' fz,(storeCells ⟨pl.r,pl.b+off,none⟩ rvs).run P w=.ok () w'/\gW w w' pl/\w.heap[pl.r]? =some (.cells c ty fz)/\w'.heap[pl.r]? =some (.cells c' ty fz)/\c'.size=c.size/\pl.fin<=c.size /\
  (∀i,pl.b<=i->i<pl.fin->¬(fz.1<=i/\i<fz.2))/\(∀i,(i<pl.b+off∨pl.b+off+rvs.length<=i)->c'[i]? =c[i]?)/\(∀(j:Nat) (h:j<rvs.length),c'[pl.b+off+j]? =some rvs[j]):=by
 obtain⟨pl',c,fz,rcs,g1,hsz,hn,he,hwb,hb,hfz,hvr,hone,hc⟩:=H.cells hf hpl
 rw[hpl] at g1; cases g1
 have hfin:pl.fin=pl.b+pl.n+pl.e:=rfl
 obtain⟨c',e1,e2,e3,e4⟩:=JM pl.r rvs (pl.b+off) w c hwb
 refine⟨w.setCells pl.r (pl.b+off) rvs,c,c',fz,?_,?_,hwb,e1,e2,hb,hfz,e3,e4 (by omega)⟩
 ·refine run_storeCells_cells pl.r (pl.b+off) rvs 0 w (fun j hj=>?_) (fun j hj=>?_) h1
  ·rw[Cb hwb,Array.getElem?_eq_getElem (by omega)]
   rfl
  ·rw[Kz hwb]
   simp only[decide_eq_false_iff_not]
   exact hfz _ (by omega) (by omega)
 ·obtain⟨r1,r2,r3⟩:=Jo pl.r rvs (pl.b+off) w
  refine⟨r1,r2,r3,Jn _ _ _ _,fun k hk=>JL _ _ _ _ k hk,.inl ⟨c,c',ty,fz,hwb,e1,e2,fun i hi=>e3 i ?_⟩⟩
  omega
theorem SI (n:Nat):∀r c,Builtin.growBy n r c<=max c (n+(n+768) / 4)
 |0,c=>by simp[Builtin.growBy]; omega
 |r+1,c=>by
  simp only[Builtin.growBy]
  split
  ·omega
  ·have:=SI n r (c+(c+768) / 4)
   omega
theorem Wv {n c:Nat}(h:c<n):Builtin.nextslicecap n c<=2*n+192:=by
 unfold Builtin.nextslicecap
 split
 ·omega
 ·split
  ·omega
  ·have:=SI n 4 c
   omega
def FN (P:Program)(t:TypeId)(e sz bytes:Nat):Bool:=
 match P.underlying t with
 |some (.slice e')=>Nat.beq e' e&&(match P.info? e with
  |some i=>Nat.beq i.size sz&&Nat.beq i.bytes bytes&&(match i.zero with|some z=>Nat.beq z.cells.size sz&&aj z.cells.toList|none=>false)
  |none=>false)
 |_=>false
theorem Iq {t:TypeId}{e sz bytes:Nat}(h:FN P t e sz bytes=true):P.underlying t=some (.slice e)/\∃i z,P.info? e=some i/\i.size=sz/\i.bytes=bytes/\i.zero=some z/\z.cells.size=sz/\One z.cells.toList:=by
 unfold FN at h
 split at h
 ·rename_i e' hd
  rw[Bool.and_eq_true] at h
  have:=Nat.eq_of_beq_eq_true h.1
  subst this
  have h:=h.2
  split at h
  ·rename_i i hi
   simp only[Bool.and_eq_true] at h
   obtain⟨⟨h1,h2⟩,h3⟩:=h
   split at h3
   ·rename_i z hz
    rw[Bool.and_eq_true] at h3
    exact⟨hd,i,z,hi,Nat.eq_of_beq_eq_true h1,Nat.eq_of_beq_eq_true h2,hz,Nat.eq_of_beq_eq_true h3.1,TA h3.2⟩
   ·cases h3
  ·cases h
 ·cases h
theorem Ps (z:Array Value)(n:Nat):(Builtin.zeroCells z n).size=n*z.size:=by simp[Builtin.zeroCells]
theorem Og {t xt:TypeId}{e sz bytes:Nat}(ht:FN P t e sz bytes=true){dx:TypeDesc}(hx:P.underlying xt=some dx)(hxi:∀k,dx≠.int k){a:Option Addr}{len rcap n:Nat}{ry:Value}{CF new:List Value}(hlen:(Builtin.lenOf ry).run P w=.ok n w)(hnew:∀W:World,(∀b,b<w.heap.size->W.heap[b]? =w.heap[b]?)->(Builtin.firstCells sz n ry).run P W=.ok new.toArray W)(hold:∀W:World,(∀b,b<w.heap.size->W.heap[b]? =w.heap[b]?)->(Builtin.firstCells sz len (.slice a len rcap)).run P W=.ok CF.toArray W)(hcap:rcap<len+n)(hb1:(len+n)*bytes<=2 ^ 40)(hb2:len+n<=2 ^ 40) :
 ∃(c:Nat) (rest:List Value),len+n<=c/\rest.length=(c-(len+n))*sz/\(Builtin.append_ #[t,xt] t #[.slice a len rcap,ry]).run P w =
  ((newRow e (CF++new++rest).toArray).run P w.drew).andThen (fun ad w'=>.ok (.slice (some ad) (len+n) c) w'):=by
 obtain⟨hd,i,z,hi,hsz,hby,hz,hzs,hz1⟩:=Iq ht
 have hz0:(match dx with|.int _=>true|_=>false)=false:=by cases dx <;> first|rfl|exact absurd rfl (hxi _)
 refine⟨(Question.appendCap (len+n) rcap e).cut (w.tape w.drawn (Question.appendCap (len+n) rcap e)),(Builtin.zeroCells z.cells ((Question.appendCap (len+n) rcap e).cut (w.tape w.drawn (Question.appendCap (len+n) rcap e))-(len+n))).toList,?_,?_,?_⟩
 ·simp[Question.cut]
 ·simp[Ps,hzs]
 ·have hn1:¬(len+n<=rcap):=by omega
  have hn2:¬(((len+n:Nat):Int)>IntKind.i64.max/\(False∨i.bytes=0)):=by
   have:IntKind.i64.max=9223372036854775807:=by decide
   rintro⟨h,_⟩; omega
  have hn3:¬(Builtin.nextslicecap (len+n) rcap*i.bytes>2 ^ 48):=by
   have h1:=Wv hcap
   have h2:Builtin.nextslicecap (len+n) rcap*i.bytes<=(2*(len+n)+192)*i.bytes:=Nat.mul_le_mul_right _ h1
   have h3:i.bytes<=(len+n)*i.bytes:=Nat.le_mul_of_pos_left _ (by omega)
   rw[hby] at *
   have h4:(2*(len+n)+192)*bytes=2*((len+n)*bytes)+192*bytes:=by rw[Nat.add_mul,Nat.mul_assoc]
   omega
  have hti:(typeInfo e).run P w=.ok i w:=by simp[typeInfo,hi]
  have hti':∀W,(typeInfo e).run P W=.ok i W:=fun W=>by simp[typeInfo,hi]
  have hzv:∀W,(zeroValue e).run P W=.ok z W:=fun W=>by simp[zeroValue,typeInfo,hi,hz]
  have hsz':=fun W=>CG hi W
  have hforced:(Question.appendCap (len+n) rcap e).forced=false:=rfl
  have h1:=hold w.drew (fun _ _=>rfl)
  have h2:=hnew w.drew (fun _ _=>rfl)
  rw[hsz] at hsz'
  simp only[Builtin.append_,List.getElem?_toArray,List.getElem?_cons_zero,List.getElem?_cons_succ,Sem.run_bind,run_underlying hd,run_underlying hx,Result.andThen_ok,hsz',Sem.run_pure,hz0,Bool.false_eq_true,if_false,hlen,
   Sem.run_ite,if_neg hn1,hti']
  rw[if_neg hn2,if_neg hn3]
  simp only[run_choose,hforced,Bool.false_eq_true,if_false,Result.andThen_ok,run_askRoom,World.drew_eq,h1,h2,Bool.not_false,if_true,hzv]
  have e2:∀(x:Array Value),(CF++new++x.toList).toArray=CF.toArray++new.toArray++x:=fun x=>by simp
  rw[e2]
theorem fO (H:Ay base w0 I μ st w){st0 st':St}{o ty sz bytes len n:Nat}{CF new:List AV}{rold rnew:List Value}{v:AV}(hst:st0={ st with h:=st0.h })(hfew:∀p x,AA st0.h p=some x->AA st.h p=some x)(ho1:Ah I μ CF rold)(ho2:One rold)(hn1:Ah I μ new rnew)(hn2:One rnew)(hl1:rold.length=len*sz)(hl2:rnew.length=n*sz)(hsz:0<sz)(h:grow o ty sz bytes len n (CF++new) st0=some (v,st'))(hμ:μ o=none)(ho:o<st.c){c:Nat}{rest:List Value}(hc:len+n<=c)(hrest:rest.length=(c-(len+n))*sz) :
 ∃w' ν rv,((newRow ty (rold++rnew++rest).toArray).run P w.drew).andThen (fun ad w'=>(.ok (.slice (some ad) (len+n) c) w':Result Value))=.ok rv w'/\Tq base w0 I μ st (some o) ν st' w' v rv:=by
 unfold grow at h
 simp only[ble_eq,cond_eq_ite,Bool.and_eq_true,decide_eq_true_eq] at h
 split at h
 ·split at h
  ·rename_i st1 hn
   cases h
   have H0:Ay base w0 I μ st0 w:=by rw[hst]; exact H.iJ hfew
   have hc0:st0.c=st.c:=by rw[hst]
   have hlo0:st0.lo=st.lo:=by rw[hst]
   obtain⟨r1,r2⟩:=ZJ (P:=P) H0.drew hn (ho1.append hn1) (ho2.append hn2) (rest:=rest) (fun h=>by cases h) hμ (by rw[hc0]; exact ho)
   refine⟨_,_,_,by rw[r1]; rfl,r2,?_,Dn hμ,fun p hp=>?_,by rw[(Ow hn).1,hc0],by rw[(Ow hn).2,hlo0]⟩
   ·have hlen:(CF++new).length=(len+n)*sz:=by
     rw[(ho1.append hn1).length,List.length_append,hl1,hl2,Nat.add_mul]
    refine .AU o 0 (len+n) none ⟨w.drew.heap.size,0,(CF++new).length,rest.length,sz⟩ _ c (by simp[Cu]) hsz ⟨rfl,by intro _; simp⟩ hc ⟨Nat.zero_le _,?_⟩
    simp only[hlen,hrest,Nat.sub_zero]
    rw[← Nat.add_mul]
    congr 1; omega
   ·have:p≠o:=fun e=>hp (by rw[e])
    simp[Cu,this]
  ·cases h
 ·cases h
end
end Go.Am
end
section
namespace Go.Am
open Go Go.RowKit
variable {P:Program}
section
variable {base:Nat}{w0:Start}{I:Cv}{μ:Mu}{st:St}{w:World}
theorem Ii {t xt:TypeId}{e sz bytes:Nat}(ht:FN P t e sz bytes=true){dx:TypeDesc}(hx:P.underlying xt=some dx)(hxi:∀k,dx≠.int k){a:Option Addr}{len rcap n:Nat}{ry:Value}{new:List Value}(hlen:(Builtin.lenOf ry).run P w=.ok n w)(hnew:(Builtin.firstCells sz n ry).run P w=.ok new.toArray w)(hcap:len+n<=rcap){w':World}(hst:match a with|some ad=>(storeCells (ad.add (len*sz)) new).run P w=.ok () w'|none=>w'=w) :
 (Builtin.append_ #[t,xt] t #[.slice a len rcap,ry]).run P w=.ok (.slice a (len+n) rcap) w':=by
 obtain⟨hd,i,z,hi,hsz,hby,hz,hzs,hz1⟩:=Iq ht
 have hz0:(match dx with|.int _=>true|_=>false)=false:=by cases dx <;> first|rfl|exact absurd rfl (hxi _)
 have hsz':=fun W=>CG hi W
 rw[hsz] at hsz'
 simp only[Builtin.append_,List.getElem?_toArray,List.getElem?_cons_zero,List.getElem?_cons_succ,Sem.run_bind,run_underlying hd,run_underlying hx,Result.andThen_ok,hsz',Sem.run_pure,hz0,Bool.false_eq_true,if_false,hlen,
  Sem.run_ite,if_pos hcap,hnew,Bool.not_false,if_true]
 cases a with
 |none=>simp only at hst; subst hst; rfl
 |some ad=>simp only at hst; simp only[Sem.run_bind,hst,Result.andThen_ok,Sem.run_pure]
theorem LB (H:Ay base w0 I μ st w){t xt:TypeId}{e sz bytes:Nat}(ht:FN P t e sz bytes=true){dx:TypeDesc}(hx:P.underlying xt=some dx)(hxi:∀k,dx≠.int k){x v:AV}{rx ry:Value}{o n:Nat}{new:List AV}{rnew:List Value}{st':St}(hvx:Ae I μ x rx)(hlen:(Builtin.lenOf ry).run P w=.ok n w)(hnew:∀W:World,(∀b,b<w.heap.size->W.heap[b]? =w.heap[b]?)->(Builtin.firstCells sz n ry).run P W=.ok rnew.toArray W)(hn1:Ah I μ new rnew)(hn2:One rnew)(hn3:rnew.length=n*sz)(h:BV o e sz bytes x n new st=some (v,st'))(hμ:μ o=none)(ho:o<st.c)(hol:st.lo<=o):Mw P base w0 I μ st w (some o) (Builtin.append_ #[t,xt] t #[rx,ry]) v st':=by
 unfold BV at h
 simp only[beq_eq,cond_eq_ite,decide_eq_true_eq] at h
 split at h
 ·cases h
 rename_i hsz0
 have hszp:0<sz:=by omega
 have hnew0:=hnew w (fun _ _=>rfl)
 have stay:∀{a:Option Addr} {len rcap:Nat},rx=.slice a len rcap->n=0->len<=rcap->v=x->st'=st->Mw P base w0 I μ st w (some o) (Builtin.append_ #[t,xt] t #[rx,ry]) v st':=by
  intro a len rcap hrx hn0 hle hv hs
  subst hv hs hrx
  have hr0:rnew=[]:=List.eq_nil_of_length_eq_zero (by rw[hn3,hn0]; simp)
  refine Mw.stay H (rv:=.slice a len rcap) ?_ hvx
  have:=Ii (P:=P) (w:=w) (w':=w) ht hx hxi (a:=a) (len:=len) (rcap:=rcap) hlen hnew0 (by omega) (by
   cases a with
   |none=>rfl
   |some ad=>rw[hr0]; rfl)
  rw[hn0] at this
  exact this
 have fresh:∀{a:Option Addr} {len rcap:Nat} {CF:List AV} {rold:List Value} {st0:St},rx=.slice a len rcap->st0={ st with h:=st0.h }->(∀p x,AA st0.h p=some x->AA st.h p=some x) ->
  Ah I μ CF rold->One rold->rold.length=len*sz->(∀W:World,(∀b,b<w.heap.size->W.heap[b]? =w.heap[b]?)->(Builtin.firstCells sz len (.slice a len rcap)).run P W=.ok rold.toArray W) ->
  rcap<len+n->grow o e sz bytes len n (CF++new) st0=some (v,st')->Mw P base w0 I μ st w (some o) (Builtin.append_ #[t,xt] t #[rx,ry]) v st':=by
  intro a len rcap CF rold st0 hrx hst hfew ho1 ho2 hl1 hold hcap hg
  subst hrx
  have hb:(len+n)*bytes<=2 ^ 40/\len+n<=2 ^ 40:=by
   unfold grow at hg
   simp only[ble_eq,cond_eq_ite,Bool.and_eq_true,decide_eq_true_eq] at hg
   split at hg
   ·assumption
   ·cases hg
  obtain⟨c,rest,c1,c2,c3⟩:=Og (P:=P) (w:=w) ht hx hxi hlen hnew hold hcap hb.1 hb.2
  obtain⟨w',ν,rv,g1,g2⟩:=fO (P:=P) H hst hfew ho1 ho2 hn1 hn2 hl1 hn3 hszp hg hμ ho c1 c2
  exact⟨rv,w',ν,by rw[c3]; exact g1,g2⟩
 cases hvx with
 |AB=>
  simp only at h
  split at h
  ·rename_i hn0
   cases h
   exact stay rfl hn0 (Nat.le_refl _) rfl rfl
  ·rename_i hn0
   exact fresh (a:=none) (len:=0) (rcap:=0) (CF:=[]) (rold:=[]) (st0:=st) rfl rfl (fun _ _ h=>h) .nil (by intro v hv; cases hv) (by simp) (fun W hW=>by simp[Builtin.firstCells]) (by omega) h
 |list tight sz' xs r off cap rvs hI h1 hs hv hc htg=>
  simp only at h
  split at h
  ·rename_i hn0
   cases h
   exact stay rfl hn0 hc rfl rfl
  ·rename_i hn0
   simp only[Bool.and_eq_true,decide_eq_true_eq] at h
   split at h
   ·rename_i hb
    obtain⟨hb1,hb2⟩:=hb
    have hb2:=Nat.eq_of_beq_eq_true (by simpa [beq_eq] using hb2)
    subst hb2
    have hl:=hv.length
    rw[IW xs hs] at hl
    refine fresh (a:=some ⟨r,off,none⟩) (len:=xs.length) (rcap:=cap) (CF:=xs.flatMap AV.cells) (rold:=rvs) (st0:=st) rfl rfl (fun _ _ h=>h) hv h1 hl.symm (fun W hW=>?_) (by have:=htg hb1; omega) h
    simp only[Builtin.firstCells]
    have key:=run_loadCells_list (P:=P) W ⟨r,off,none⟩ rvs fun j v hj=>by
     rw[List.getElem?_eq_some_iff] at hj
     obtain⟨hj1,hj2⟩:=hj
     have:=H.JZ _ _ _ (hI j hj1)
     rw[Cc,World.cell?_of_block (w:=w) (hW r (World.block_lt_of_cell? _ _ this)),this,hj2]
    rw[← hl] at key
    exact key
   ·cases h
 |AU oo off len cap pl ad rcap hμo hz ha hle hc=>
  simp only at h
  split at h
  ·rename_i hn0
   cases h
   exact stay rfl hn0 hle rfl rfl
  ·rename_i hn0
   unfold Dr at h
   split at h
   ·rename_i ty' sz' cs ext hf
    simp only[beq_eq,ble_eq,cond_eq_ite,Bool.and_eq_true,decide_eq_true_eq] at h
    split at h
    ·rename_i hb
     obtain⟨⟨hb1,hb2⟩,hb3⟩:=hb
     subst hb1 hb2
     obtain⟨pl',c,fz,rvs,g1,hplsz,hn,he,hw,hbb,hfz,hvr,hone,hcc⟩:=H.cells hf hμo
     rw[hμo] at g1; cases g1
     have hl:=hvr.length
     have hnsz:0<n*sz':=Nat.mul_pos (by omega) hszp
     have hadd:(len+n)*sz'=len*sz'+n*sz':=Nat.add_mul _ _ _
     have hold:∀W:World,(∀b,b<w.heap.size->W.heap[b]? =w.heap[b]?)->(Builtin.firstCells sz' len (.slice (some ad) len rcap)).run P W=.ok ((rvs.drop off).take (len*sz')).toArray W:=by
      intro W hW
      simp only[Builtin.firstCells]
      by_cases hl0:len=0
      ·subst hl0; simp[loadCells,loadCellsFrom]
      ·rw[ha.2 (by omega)]
       have hlen2:((rvs.drop off).take (len*sz')).length=len*sz':=by simp; omega
       have hW':W.heap[pl.r]? =some (.cells c ty' fz):=(hW pl.r (JU hw)).trans hw
       have key:=run_loadCells_list (P:=P) W ⟨pl.r,pl.b+off,none⟩ ((rvs.drop off).take (len*sz')) fun j v hj=>by
        rw[List.getElem?_eq_some_iff] at hj
        obtain⟨hj1,hj2⟩:=hj
        simp at hj1
        rw[Cc,Cb hW',Nat.add_assoc,hcc (off+j) (by omega),← hj2]
        simp
       rw[hlen2] at key
       exact key
     have inplace:∀{st1:St},BI st oo (off+len*sz') new=some st1->len+n<=rcap->v=.AU oo off (len+n) cap->st'=st1 ->
      Mw P base w0 I μ st w (some o) (Builtin.append_ #[t,xt] t #[.slice (some ad) len rcap,ry]) v st':=by
      intro st1 hw1 hfit hv hs
      subst hv hs
      have had:=ha.2 (by omega)
      obtain⟨w',e1,e2⟩:=NC (P:=P) H hμo hn1 hn2 hw1
      refine⟨.slice (some ad) (len+n) rcap,w',μ,?_,e2,?_,fun _ _ h=>h,fun _ _=>rfl,(Ck hw1).1,(Ck hw1).2⟩
      ·refine Ii ht hx hxi hlen hnew0 hfit ?_
       show (storeCells (ad.add (len*sz')) rnew).run P w=.ok () w'
       rw[had,Cc,Nat.add_assoc]
       exact e1
      ·exact .AU oo off (len+n) cap pl ad rcap hμo hz ha hfit hc
     split at h
     ·rename_i cc
      unfold Ny at hc
      obtain⟨hc1,hc2⟩:=hc
      split at h
      ·rename_i hfit
       split at h
       ·rename_i st1 hw1
        cases h
        exact inplace hw1 (by omega) rfl rfl
       ·cases h
      ·rename_i hfit
       exact fresh (st0:=st) rfl rfl (fun _ _ h=>h) ((hvr.drop _).take _) ((hone.drop _).take _) (by simp; omega) hold (by omega) h
     ·unfold Ny at hc
      obtain⟨hc1,hc2⟩:=hc
      rw[hplsz] at hc2 hz
      split at h
      ·rename_i hfit
       split at h
       ·rename_i st1 hw1
        cases h
        refine inplace hw1 ?_ rfl rfl
        have:(len+n)*sz'<=rcap*sz':=by omega
        exact Nat.le_of_mul_le_mul_right this hszp
       ·cases h
      ·rename_i hfit
       split at h
       ·rename_i hext
        obtain⟨hext,hlo⟩:=hext
        by_cases hroom:len+n<=rcap
        ·have had:=ha.2 (by omega)
         have hfin:pl.fin=pl.b+pl.n+pl.e:=rfl
         have hmul:(len+n)*sz'<=rcap*sz':=Nat.mul_le_mul_right _ hroom
         obtain⟨w',c1,c1',fz1,e1,hT,e2,e3,e4,e5,e6,e7,e8⟩:=WQ (P:=P) H hf hμo (off:=off+len*sz') (rvs:=rnew) hn2 (by omega)
         rw[hw] at e2; cases e2
         unfold grow at h
         simp only[ble_eq,cond_eq_ite,Bool.and_eq_true,decide_eq_true_eq] at h
         split at h
         ·split at h
          ·rename_i st1 hn'
           cases h
           unfold newObj at hn'
           split at hn'
           ·rename_i h' hp
            cases hn'
            have hne:oo≠o:=fun e=>by subst e; rw[hμ] at hμo; cases hμo
            have hlold:((rvs.drop off).take (len*sz')).length=len*sz':=by simp; omega
            have hcl:((cs.drop off).take (len*sz')++new).length=(len+n)*sz':=by
             rw[List.length_append,((hvr.drop off).take (len*sz')).length,hlold,hn1.length,hn3,hadd]
            have hW:=H.ic (o:=oo) (o':=o) (x:=.cells ty' sz' cs ext) (y:=.cells ty' sz' ((cs.drop off).take (len*sz')++new) true) (h':=h') (c':=st.c)
             (pl':=⟨pl.r,pl.b+off,(len+n)*sz',pl.fin-(pl.b+off+(len+n)*sz'),sz'⟩) (ν:=Cu μ o ⟨pl.r,pl.b+off,(len+n)*sz',pl.fin-(pl.b+off+(len+n)*sz'),sz'⟩)
             hf hlo hol hμo hT (.inr ⟨rfl,hμ,ho⟩) (Nat.le_refl _) rfl (by simp) (by simp only[Pl.fin] at hfin ⊢; omega)
             (fun p z hz=>by
              rw[GV hp,Dz] at hz
              by_cases e1:o=p
              ·simp[e1] at hz; exact .inl ⟨e1.symm,hz.symm⟩
              ·simp[e1] at hz
               exact .inr ⟨Ne.symm e1,Ne.symm hz.1,hz.2⟩)
             (.cells ty' sz' _ true c1' fz ((rvs.drop off).take (len*sz')++rnew) rfl hcl.symm (by intro h; cases h) e3 (by simp only[Pl.fin] at hfin e5 ⊢; omega)
              (fun i h1 h2=>e6 i (by simp only at h1; omega) (by simp only[Pl.fin] at h2 hfin ⊢; omega))
              ((((hvr.drop _).take _).append hn1).mono (Cv.le_refl I) (Dn hμ)) (((hone.drop _).take _).append hn2) (fun i hi=>by
               simp only[List.length_append,hlold] at hi
               by_cases hi1:i<len*sz'
               ·rw[e7 _ (by simp only; omega),List.getElem_append_left (by rw[hlold]; exact hi1)]
                rw[Nat.add_assoc,hcc (off+i) (by omega)]
                simp
               ·have:=e8 (i-len*sz') (by omega)
                rw[List.getElem_append_right (by rw[hlold]; omega)]
                simp only[hlold]
                rw[← this]
                congr 1
                omega))
            refine⟨.slice (some ad) (len+n) rcap,w',_,?_,hW,?_,Dn hμ,fun p hp=>?_,rfl,rfl⟩
            ·refine Ii ht hx hxi hlen hnew0 hroom ?_
             show (storeCells (ad.add (len*sz')) rnew).run P w=.ok () w'
             rw[had,Cc,Nat.add_assoc]
             exact e1
            ·refine .AU o 0 (len+n) none ⟨pl.r,pl.b+off,(len+n)*sz',pl.fin-(pl.b+off+(len+n)*sz'),sz'⟩ ad rcap (by simp[Cu]) hszp ⟨ha.1,by intro _; rw[had]; simp⟩ hroom ⟨Nat.zero_le _,?_⟩
             simp only[Nat.sub_zero]
             omega
            ·have:p≠o:=fun e=>hp (by rw[e])
             simp[Cu,this]
           ·cases hn'
          ·cases h
         ·cases h
        ·exact fresh (st0:={ st with h:=GL st.h oo }) rfl rfl (fun p y h=>by
          rw[Dz] at h; split at h
          ·cases h
          ·exact h) ((hvr.drop _).take _) ((hone.drop _).take _) (by simp; omega) hold (by omega) h
       ·cases h
    ·cases h
   ·cases h
 |_=>simp at h
end
end Go.Am
end
section
namespace Go.Am
open Go Go.RowKit
variable {P:Program}
section
variable {base:Nat}{w0:Start}{I:Cv}{μ:Mu}{st:St}{w:World}
theorem OZ {sz n:Nat}{v:AV}{rv:Value}{rvs:List Value}(H:Ay base w0 I μ st w){cs:List AV}(hv:Ae I μ v rv)(hc:Au st.h sz n v=some cs)(h:(Builtin.firstCells sz n rv).run P w=.ok rvs.toArray w)(hl:rvs.length=n*sz)(W:World)(hW:∀b,b<w.heap.size->W.heap[b]? =w.heap[b]?):(Builtin.firstCells sz n rv).run P W=.ok rvs.toArray W:=by
 cases hv with
 |AB=>simp[Builtin.firstCells] at h ⊢; exact h
 |list tight sz' xs r off cap rvs' hI h1 hs hv hcc htg=>
  have H':∀(i:Nat) (h:i<rvs'.length),W.cell? ⟨r,off+i,none⟩=some rvs'[i]:=fun i hi=>by
   have:=H.JZ _ _ _ (hI i hi)
   rw[World.cell?_of_block (w:=w) (hW r (World.block_lt_of_cell? _ _ this)),this]
  simp only[Au,beq_eq,ble_eq,cond_eq_ite,Bool.and_eq_true,decide_eq_true_eq] at hc
  split at hc
  ·rename_i hb
   obtain⟨hb1,hb2⟩:=hb
   subst hb2
   have hlr:=hv.length
   rw[IW xs hs] at hlr
   have hle:n*sz'<=xs.length*sz':=Nat.mul_le_mul_right _ hb1
   have hlen:(rvs'.take (n*sz')).length=n*sz':=by simp; omega
   have key:∀W:World,(∀(i:Nat) (h:i<rvs'.length),W.cell? ⟨r,off+i,none⟩=some rvs'[i])->(Builtin.firstCells sz' n (.slice (some ⟨r,off,none⟩) xs.length cap)).run P W=.ok (rvs'.take (n*sz')).toArray W:=by
    intro W hWc
    simp only[Builtin.firstCells]
    have key:=run_loadCells_list (P:=P) W ⟨r,off,none⟩ (rvs'.take (n*sz')) fun j v hj=>by
     rw[List.getElem?_eq_some_iff] at hj
     obtain⟨hj1,hj2⟩:=hj
     rw[Cc,hWc j (by simp at hj1; omega),← hj2]
     simp
    rw[hlen] at key
    exact key
   have k0:=key w (fun i hi=>H.JZ _ _ _ (hI i hi))
   rw[h] at k0
   have e:rvs.toArray=(rvs'.take (n*sz')).toArray:=by injection k0
   rw[e]
   exact key W H'
  ·cases hc
 |AU o off len cap pl ad rcap hμ hz ha hle hcap=>
  simp only[Au] at hc
  split at hc
  ·rename_i ty sz' cs' ext hf
   simp only[beq_eq,ble_eq,cond_eq_ite,Bool.and_eq_true,decide_eq_true_eq] at hc
   split at hc
   ·rename_i hb
    cases hc
    obtain⟨⟨hb1,hb2⟩,hb3⟩:=hb
    subst hb1
    obtain⟨pl',c,fz,rvs',g1,hplsz,hn,he,hw,hbb,hfz,hvr,hone,hcc⟩:=H.cells hf hμ
    rw[hμ] at g1; cases g1
    have hlr:=hvr.length
    have hlen:((rvs'.drop off).take (n*sz')).length=n*sz':=by simp; omega
    have key:∀W:World,W.heap[pl.r]? =some (.cells c ty fz)->(Builtin.firstCells sz' n (.slice (some ad) len rcap)).run P W=.ok ((rvs'.drop off).take (n*sz')).toArray W:=by
     intro W hW
     simp only[Builtin.firstCells]
     by_cases hn0:n=0
     ·subst hn0; simp[loadCells,loadCellsFrom]
     ·rw[ha.2 (by omega)]
      have key:=run_loadCells_list (P:=P) W ⟨pl.r,pl.b+off,none⟩ ((rvs'.drop off).take (n*sz')) fun j v hj=>by
       rw[List.getElem?_eq_some_iff] at hj
       obtain⟨hj1,hj2⟩:=hj
       simp at hj1
       rw[Cc,Cb hW,Nat.add_assoc,hcc (off+j) (by omega),← hj2]
       simp
      rw[hlen] at key
      exact key
    have k0:=key w hw
    rw[h] at k0
    have e:rvs.toArray=((rvs'.drop off).take (n*sz')).toArray:=by injection k0
    rw[e]
    exact key W ((hW pl.r (JU hw)).trans hw)
   ·cases hc
  ·cases hc
 |_=>simp[Au] at hc
theorem Zo (H:Ay base w0 I μ st w){t xt:TypeId}{e sz bytes:Nat}(ht:FN P t e sz bytes=true){dx:TypeDesc}(hx:P.underlying xt=some dx)(hxi:∀k,dx≠.int k){x y v:AV}{rx ry:Value}{o:Nat}{st':St}(hvx:Ae I μ x rx)(hvy:Ae I μ y ry)(h:Bq o e sz bytes x y st=some (v,st'))(hμ:μ o=none)(ho:o<st.c)(hol:st.lo<=o) :
 Mw P base w0 I μ st w (some o) (Builtin.append_ #[t,xt] t #[rx,ry]) v st':=by
 unfold Bq at h
 split at h
 ·cases h
 ·split at h
  ·rename_i n hn
   split at h
   ·rename_i new hnew
    obtain⟨rvs,h1,h2,h3,h4⟩:=Jm (P:=P) H hvy hnew
    exact LB H ht hx hxi hvx (Uo hvy hn) (OZ H hvy hnew h1 h4) h2 h3 h4 h hμ ho hol
   ·cases h
  ·cases h
theorem PL (l:List UInt8):Ah I μ (Ch l) (l.map fun b=>.int .u8 b.toNat):=by
 induction l with
 |nil=>exact .nil
 |cons b l ih=>exact .cons _ _ _ _ (.int _ _) ih
theorem Vh (l:List UInt8):One (l.map fun b=>(.int .u8 b.toNat:Value)):=fun v hv=>by
 rw[List.mem_map] at hv; obtain⟨b,_,rfl⟩:=hv; rfl
theorem Qn (n:Nat)(l:List UInt8)(hn:n=l.length)(W:World):(Builtin.firstCells 1 n (.string ⟨⟨l⟩⟩)).run P W=.ok (l.map fun b=>(.int .u8 b.toNat:Value)).toArray W:=by
 subst hn
 simp only[Builtin.firstCells,Sem.run_pure]
 congr 1
 apply Array.ext'
 simp[ByteArray.data_extract]
theorem Tf (H:Ay base w0 I μ st w){t xt:TypeId}{e:Nat}(ht:FN P t e 1 1=true)(hx:P.underlying xt=some .string){x y v:AV}{rx ry:Value}{o:Nat}{st':St}(hvx:Ae I μ x rx)(hvy:Ae I μ y ry)(h:Gd o e x y st=some (v,st'))(hμ:μ o=none)(ho:o<st.c)(hol:st.lo<=o) :
 Mw P base w0 I μ st w (some o) (Builtin.append_ #[t,xt] t #[rx,ry]) v st':=by
 unfold Gd at h
 split at h
 ·rename_i l
  cases hvy
  exact LB H ht hx (fun k hk=>by cases hk) hvx (n:=l.length) (by simp[Builtin.lenOf,size_mk]) (fun W _=>Qn _ l rfl W) (PL l) (Vh l) (by simp) h hμ ho hol
 ·cases h
theorem Km {zero:List AV}{rz:List Value}(h:Ah I μ zero rz):∀n,Ah I μ (FV zero n) ((List.range n).flatMap fun _=>rz)
 |0=>.nil
 |n+1=>by
  rw[List.range_succ_eq_map,List.flatMap_cons,List.flatMap_map]
  exact h.append (Km h n)
theorem OM (z:Array Value)(n:Nat):(List.range (n*z.size)).map (z[· % z.size]!)=(List.range n).flatMap fun _=>z.toList:=by
 induction n with
 |zero=>simp
 |succ n ih=>
  rw[List.range_succ,List.flatMap_append,← ih,Nat.succ_mul,List.range_add,List.map_append]
  congr 1
  simp only[List.flatMap_cons,List.flatMap_nil,List.append_nil,List.map_map]
  apply List.ext_getElem?
  intro i
  by_cases hi:i<z.size
  ·simp[hi,Nat.mod_eq_of_lt hi,getElem!_pos]
  ·simp[hi]
theorem UZ {rz:List Value}(h:One rz)(n:Nat):One ((List.range n).flatMap fun _=>rz):=fun v hv=>by
 rw[List.mem_flatMap] at hv; obtain⟨_,_,hv⟩:=hv; exact h v hv
def KI (P:Program)(t:TypeId)(e sz bytes:Nat)(zero:List AV):Bool:=FN P t e sz bytes&&Rn P e zero
theorem Wx (H:Ay base w0 I μ st w){t:TypeId}{e sz bytes:Nat}{zero:List AV}(ht:KI P t e sz bytes zero=true){l c v:AV}{rl rc:Value}{o:Nat}{ob:Al}(hl:Ae I μ l rl)(hc:Ae I μ c rc)(h:KZ o e sz bytes zero l c=some (v,ob))(hf:AA st.h o=some ob)(hμ:μ o=none)(ho:o<st.c):Mw P base w0 I μ st w (some o) (Instr.makeSlice t rl rc) v st:=by
 unfold KI at ht
 rw[Bool.and_eq_true] at ht
 obtain⟨hd,i,z,hi,hsz,hby,hz,hzs,hz1⟩:=Iq ht.1
 obtain⟨z',z1,z2,z3⟩:=NB ht.2
 have:z'=z:=by
  have:=z1 w
  simp[zeroValue,typeInfo,hi,hz] at this
  exact this.symm
 subst this
 unfold KZ at h
 split at h
 ·rename_i n hn
  obtain⟨k1,rfl⟩:=JV hl hn
  split at h
  ·rename_i m hm
   obtain⟨k2,rfl⟩:=JV hc hm
   simp only[ble_eq,blt_eq,beq_eq,cond_eq_ite,Bool.and_eq_true,decide_eq_true_eq] at h
   split at h
   ·rename_i hb
    obtain⟨⟨⟨⟨hb1,hb2⟩,hb3⟩,hb4⟩,hb5⟩:=hb
    cases h
    have hroom:room=2 ^ 40:=rfl
    rw[hroom] at hb2 hb3
    obtain⟨r1,r2⟩:=QI (P:=P) (rvs:=(List.range m).flatMap fun _=>z'.cells.toList) H hf (Km z2 m) (UZ z3 m) (rest:=[]) (fun _=>rfl) hμ ho
    have hw1:IntKind.i64.wrap (n:Int)=n:=IntWalk.i64_in _ (by omega)
    have hw2:IntKind.i64.wrap (m:Int)=m:=IntWalk.i64_in _ (by omega)
    have hti:(typeInfo e).run P w=.ok i w:=by simp[typeInfo,hi]
    have hmb:¬((m:Int)<0||(i.bytes:Int)*m>2 ^ 48)=true:=by
     have:i.bytes*m<=2 ^ 40:=by rw[hby,Nat.mul_comm]; exact hb2
     have h2:(i.bytes:Int)*m<=2 ^ 40:=by exact_mod_cast this
     simp; omega
    have hz0:sz≠0:=by omega
    have hcells:(Array.range (m*sz)).map (z'.cells[· % z'.cells.size]!)=((List.range m).flatMap fun _=>z'.cells.toList).toArray:=by
     apply Array.ext'
     have:=OM z'.cells m
     rw[hzs] at this
     simpa [hzs] using this
    refine⟨.slice (some ⟨w.heap.size,0,none⟩) n m,_,_,?_,r2,?_,Dn hμ,?_,rfl,rfl⟩
    ·simp only[List.append_nil] at r1 ⊢
     simp only[Instr.makeSlice,asInt,Sem.run_bind,run_underlying hd,Result.andThen_ok,Lj,Sem.run_pure,hti,hw1,hw2]
     have hc1:((((m:Int)<0||(i.bytes:Int)*m>2 ^ 48)||((n:Int)<0))||((n:Int)>m))=false:=by
      simp at hmb ⊢; omega
     rw[if_neg (by rw[hc1]; exact Bool.false_ne_true)]
     simp only[Sem.run_bind,run_askRoom,Result.andThen_ok,CG hi,hsz,Int.toNat_natCast,Sem.run_ite,Sem.run_pure,z1]
     by_cases h0:m*sz=0
     ·rw[if_pos h0]
      have hm0:m=0:=by
       rcases Nat.mul_eq_zero.1 h0 with h|h
       ·exact h
       ·exact absurd h hz0
      subst hm0
      simp only[Nat.zero_mul]
      have e0:∀g:Nat->Value,(Array.range 0).map g=#[]:=fun g=>by simp
      rw[e0]
      simp only[List.range_zero,List.flatMap_nil] at r1 ⊢
      rw[r1]; rfl
     ·rw[if_neg h0,hcells,r1]; rfl
    ·exact .AU o 0 n (some m) ⟨w.heap.size,0,(FV zero m).length,0,sz⟩ _ m (by simp[Cu]) hb4 ⟨rfl,by intro _; simp⟩ hb1 ⟨rfl,by
      rw[(Km (z2 (I:=I) (μ:=μ)) m).length,← OM]; simp[hzs]⟩
    ·intro p hp
     have:p≠o:=fun e=>hp (by rw[e])
     simp[Cu,this]
   ·cases h
  ·cases h
 ·cases h
end
end Go.Am
end
section
namespace Go.Am
open Go Go.RowKit
variable {P:Program}
section
variable {base:Nat}{w0:Start}{I:Cv}{μ:Mu}{st:St}{w:World}
theorem Tq.write {st':St}{w':World}(H:Ay base w0 I μ st' w'){v:AV}{rv:Value}(hv:Ae I μ v rv)(hc:st'.c=st.c)(hl:st'.lo=st.lo){o:Option Nat}:Tq base w0 I μ st o μ st' w' v rv:=
 ⟨H,hv,fun _ _ h=>h,fun _ _=>rfl,hc,hl⟩
theorem gB (H:Ay base w0 I μ st w){t xt:TypeId}{e sz:Nat}(ht:MW P t e sz=true){d y v:AV}{rd ry:Value}{st':St}(hd:Ae I μ d rd)(hy:Ae I μ y ry)(h:Kn sz d y st=some (v,st'))(o:Option Nat) :
 Mw P base w0 I μ st w o (Builtin.copy_ #[t,xt] t #[rd,ry]) v st':=by
 obtain⟨hdt,ti,hti,hsz⟩:=Ni ht
 unfold Kn at h
 split at h
 ·cases h
 split at h
 ·rename_i b hb
  have hlen:=Uo (P:=P) (w:=w) hy hb
  cases hd with
  |AB=>
   cases h
   refine Mw.stay H (rv:=.int .i64 0) ?_ (.int _ _)
   have:Nat.min b 0=0:=by simp
   cases hy <;> simp[lenOf] at hb <;> subst hb <;> simp[Builtin.copy_,run_underlying hdt,Result.andThen,CG hti,hsz,Builtin.lenOf,Builtin.firstCells,loadCells,loadCellsFrom,goInt]
  |AU oo off a cap pl ad rcap hμ hz ha hle hc=>
   simp only at h
   split at h
   ·rename_i cs hcs
    obtain⟨rvs,h1,h2,h3,h4⟩:=Jm (P:=P) H hy hcs
    have run:∀{w':World},(storeCells ad rvs).run P w=.ok () w'->(Builtin.copy_ #[t,xt] t #[.slice (some ad) a rcap,ry]).run P w=.ok (.int .i64 (Nat.min b a)) w':=by
     intro w' hst
     simp only[Builtin.copy_,List.getElem?_toArray,List.getElem?_cons_zero,List.getElem?_cons_succ,Sem.run_bind,run_underlying hdt,Result.andThen_ok,CG hti,hsz,hlen,h1,Sem.run_pure,hst,goInt]
    simp only[beq_eq,cond_eq_ite,decide_eq_true_eq] at h
    split at h
    ·rename_i hm0
     cases h
     have:rvs=[]:=List.eq_nil_of_length_eq_zero (by rw[h4,hm0]; simp)
     subst this
     have:=run (w':=w) rfl
     rw[hm0] at this
     exact Mw.stay H this (.int _ _)
    ·rename_i hm0
     split at h
     ·rename_i ty sz' cs' ext hf
      split at h
      ·rename_i hsz'
       unfold CO at h
       split at h
       ·rename_i st1 hw1
        cases h
        have hpos:0<rcap:=by
         have:Nat.min b a<=a:=Nat.min_le_right _ _
         omega
        obtain⟨w',e1,e2⟩:=NC (P:=P) H hμ h2 h3 hw1
        refine⟨_,w',μ,run (by rw[ha.2 hpos]; exact e1),Tq.write e2 (.int _ _) (Ck hw1).1 (Ck hw1).2⟩
       ·cases h
      ·cases h
     ·cases h
   ·cases h
  |_=>simp at h
 ·cases h
theorem bq (H:Ay base w0 I μ st w){t:TypeId}{e sz bytes:Nat}{zero:List AV}(ht:KI P t e sz bytes zero=true){x v:AV}{rx:Value}{st':St}(hx:Ae I μ x rx)(h:Ko zero x st=some (v,st'))(o:Option Nat) :
 Mw P base w0 I μ st w o (Builtin.clear_ #[t] t #[rx]) v st':=by
 unfold KI at ht
 rw[Bool.and_eq_true] at ht
 obtain⟨hd,i,z,hi,hsz,hby,hz,hzs,hz1⟩:=Iq ht.1
 obtain⟨z',z1,z2,z3⟩:=NB ht.2
 have:z'=z:=by
  have:=z1 w
  simp[zeroValue,typeInfo,hi,hz] at this
  exact this.symm
 subst this
 have htup:Ae I μ (.tuple []) (.tuple #[]):=.tuple [] [] .nil
 unfold Ko at h
 cases hx with
 |AB=>
  cases h
  exact Mw.stay H (rv:=.tuple #[]) (by simp[Builtin.clear_,run_underlying hd,Result.andThen]) htup
 |AU oo off len cap pl ad rcap hμ hzz ha hle hc=>
  simp only[beq_eq,cond_eq_ite,decide_eq_true_eq] at h
  split at h
  ·rename_i h0
   cases h
   subst h0
   exact Mw.stay H (rv:=.tuple #[]) (by simp[Builtin.clear_,run_underlying hd,Result.andThen]) htup
  ·rename_i h0
   split at h
   ·rename_i ty sz' cs ext hf
    split at h
    ·rename_i hzl
     unfold CO at h
     split at h
     ·rename_i st1 hw1
      cases h
      obtain⟨w',e1,e2⟩:=NC (P:=P) (rvs:=(List.range len).flatMap fun _=>z'.cells.toList) H hμ (Km z2 len) (UZ z3 len) hw1
      refine⟨.tuple #[],w',μ,?_,Tq.write e2 htup (Ck hw1).1 (Ck hw1).2⟩
      have hcells:(Builtin.zeroCells z'.cells len).toList=(List.range len).flatMap fun _=>z'.cells.toList:=by
       have:=OM z'.cells len
       simpa [Builtin.zeroCells] using this
      obtain⟨n,rfl⟩:∃n,len=n+1:=⟨len-1,by omega⟩
      rw[ha.2 (by omega)]
      simp only[Builtin.clear_,List.getElem?_toArray,List.getElem?_cons_zero,Sem.run_bind,run_underlying hd,Result.andThen_ok,z1,hcells,e1,Sem.run_pure]
     ·cases h
    ·cases h
   ·cases h
 |_=>simp at h
theorem Ay.maps (H:Ay base w0 I μ st w){o clock:Nat}{ks vs:List AV}{bs:List Nat}(h:AA st.h o=some (.map ks vs bs clock)){pl:Pl}(h1:μ o=some pl) :
 ∃pl es,μ o=some pl/\pl.b=0/\pl.n=1/\pl.e=0/\w.heap[pl.r]? =some (.map es clock)/\Ah I μ ks (es.toList.map (·.key))/\Ah I μ vs (es.toList.map (·.val))/\bs=es.toList.map (·.born) /\
  bs.Pairwise (·<·)/\(∀b∈bs,b<clock):=by
 have h2:=H.obj o _ pl h h1
 cases h2 with
 |map _ _ _ _ es hb hn he hw hk hv hbs hs hc=>exact⟨pl,es,h1,hb,hn,he,hw,hk,hv,hbs,hs,hc⟩
def jQ (P:Program)(t:TypeId)(k:LK):Bool:=
 match P.underlying t,k with
 |some .string,.str=>true
 |some (.slice _),.slice=>true
 |some (.map ..),.map=>true
 |_,_=>false
theorem jP (H:Ay base w0 I μ st w){t:TypeId}{k:LK}(ht:jQ P t k=true){x v:AV}{rx:Value}{st':St}(hx:Ae I μ x rx)(h:Be k x st=some (v,st')):st'=st/\∃rv,(Builtin.len_ #[t] t #[rx]).run P w=.ok rv w/\Ae I μ v rv:=by
 unfold Be at h
 split at h
 ·rename_i n hn
  cases h
  refine⟨rfl,.int .i64 n,?_,.int _ _⟩
  unfold jQ at ht
  split at ht
  ·rename_i hd
   simp only[Jq] at hn
   cases hx <;> simp at hn
   subst hn
   simp[Builtin.len_,run_underlying hd,Result.andThen,goInt,size_mk]
  ·rename_i e hd
   simp only[Bu] at hn
   cases hx <;> simp at hn <;> subst hn <;> simp[Builtin.len_,run_underlying hd,Result.andThen,goInt]
  ·rename_i kt e hd
   simp only[QW] at hn
   cases hx with
   |De=>simp at hn; subst hn; simp[Builtin.len_,run_underlying hd,Result.andThen,goInt]
   |Cq o pl hμ=>
    simp only at hn
    split at hn
    ·rename_i ks vs bs clock hf
     obtain⟨pl',es,g1,_,_,_,hw,hk,hv,_,_,_⟩:=H.maps hf hμ
     rw[hμ] at g1; cases g1
     simp at hn; subst hn
     have:=hk.length
     simp at this
     simp[Builtin.len_,run_underlying hd,Result.andThen,goInt,run_getObj_map w pl.r es clock hw,this]
    ·cases hn
   |Gs ks vs r es clock hI hk hv=>
    simp at hn; subst hn
    have:=hk.length
    simp at this
    have hw:=H.Dj _ _ hI
    simp[Builtin.len_,run_underlying hd,Result.andThen,goInt,run_getObj_map w r es clock hw,this]
   |_=>simp at hn
  ·cases ht
 ·cases h
theorem kG {t:TypeId}{e:TypeId}(hd:P.underlying t=some (.slice e)){x v:AV}{rx:Value}{st':St}(hx:Ae I μ x rx)(h:MO x st=some (v,st')) :
 st'=st/\∃rv,(Builtin.cap_ #[t] t #[rx]).run P w=.ok rv w/\Ae I μ v rv:=by
 have run:∀(a:Option Addr) (l c:Nat),(Builtin.cap_ #[t] t #[.slice a l c]).run P w=.ok (goInt c) w:=fun a l c=>by
  simp[Builtin.cap_,run_underlying hd,Result.andThen]
 cases hx with
 |AB=>simp[MO] at h; obtain⟨h1,h2⟩:=h; subst h1 h2; exact⟨rfl,_,run _ _ _,.int _ _⟩
 |list tight sz xs r off cap rvs hI h1 hs hv hc htg=>
  cases tight <;> simp[MO] at h
  obtain⟨g1,g2⟩:=h; subst g1 g2
  refine⟨rfl,_,run _ _ _,?_⟩
  rw[htg rfl]; exact .int _ _
 |AU o off len cap pl a rcap hμ hz ha hl hc=>
  cases cap with
  |none=>simp[MO] at h
  |some c=>
   simp[MO] at h
   obtain⟨g1,g2⟩:=h; subst g1 g2
   refine⟨rfl,_,run _ _ _,?_⟩
   rw[hc.1]; exact .int _ _
 |_=>simp[MO] at h
theorem Rx:∀(l:List AV) (rl:List Value) (k:IntKind) (x:Int) (v:AV),Ah I μ l rl->OP k x l=some v->∃rv,(rl.foldlM Builtin.min2 (.int k x)).run P w=.ok rv w/\Ae I μ v rv
 |[],rl,k,x,v,hl,h=>by cases hl; simp[OP] at h; subst h; exact⟨_,rfl,.int _ _⟩
 |y::l,rl,k,x,v,hl,h=>by
  cases hl with
  |cons _ ry _ rl hy ht=>
   cases hy with
   |int j n=>
    simp only[OP] at h
    obtain⟨rv,h1,h2⟩:=Rx l rl k _ v ht h
    exact⟨rv,by simp[List.foldlM_cons,Builtin.min2,h1,Result.andThen],h2⟩
   |_=>simp[OP] at h
theorem Ry:∀(l:List AV) (rl:List Value) (k:IntKind) (x:Int) (v:AV),Ah I μ l rl->OQ k x l=some v->∃rv,(rl.foldlM Builtin.max2 (.int k x)).run P w=.ok rv w/\Ae I μ v rv
 |[],rl,k,x,v,hl,h=>by cases hl; simp[OQ] at h; subst h; exact⟨_,rfl,.int _ _⟩
 |y::l,rl,k,x,v,hl,h=>by
  cases hl with
  |cons _ ry _ rl hy ht=>
   cases hy with
   |int j n=>
    simp only[OQ] at h
    obtain⟨rv,h1,h2⟩:=Ry l rl k _ v ht h
    exact⟨rv,by simp[List.foldlM_cons,Builtin.max2,h1,Result.andThen],h2⟩
   |_=>simp[OQ] at h
theorem jL {l:List AV}{rl:List Value}{v:AV}{st':St}(ts:Array TypeId)(t:TypeId)(hl:Ah I μ l rl)(h:Ou l st=some (v,st')):st'=st/\∃rv,(Builtin.min_ ts t rl.toArray).run P w=.ok rv w/\Ae I μ v rv:=by
 cases hl with
 |nil=>simp[Ou] at h
 |cons x rx l rl hx ht=>
  cases hx with
  |int k n=>
   simp only[Ou,Df] at h
   split at h
   ·rename_i v' hv
    cases h
    obtain⟨rv,h1,h2⟩:=Rx (P:=P) (w:=w) l rl k n v ht hv
    exact⟨rfl,rv,by simp[Builtin.min_,h1],h2⟩
   ·cases h
  |_=>simp[Ou] at h
theorem jN {l:List AV}{rl:List Value}{v:AV}{st':St}(ts:Array TypeId)(t:TypeId)(hl:Ah I μ l rl)(h:Ov l st=some (v,st')):st'=st/\∃rv,(Builtin.max_ ts t rl.toArray).run P w=.ok rv w/\Ae I μ v rv:=by
 cases hl with
 |nil=>simp[Ov] at h
 |cons x rx l rl hx ht=>
  cases hx with
  |int k n=>
   simp only[Ov,Df] at h
   split at h
   ·rename_i v' hv
    cases h
    obtain⟨rv,h1,h2⟩:=Ry (P:=P) (w:=w) l rl k n v ht hv
    exact⟨rfl,rv,by simp[Builtin.max_,h1],h2⟩
   ·cases h
  |_=>simp[Ov] at h
end
end Go.Am
end
section
namespace Go.Am
open Go Go.RowKit
variable {P:Program}
section
variable {base:Nat}{w0:Start}{I:Cv}{μ:Mu}{st:St}{w:World}
theorem Nq {t:TypeId}{c:CK}(ht:dV P t c=true)(e:Bool)(n:Nat)(v:Value):(Instr.checkKey e (n+1) t v).run P w=.ok () w:=by
 unfold dV at ht
 split at ht
 ·rename_i d hd
  cases d <;> cases c <;> simp[aF] at ht <;> simp[Instr.checkKey,run_underlying hd,Result.andThen]
 ·cases ht
theorem KE (e:Bool)(n:Nat)(xs:Array Value):∀(fs:List Field) (cs:List CK) (a:List AV) (i:Nat),II P i fs cs=true->a.length=cs.length->Ah I μ a (xs.toList.drop i) ->
 ((forIn fs PUnit.unit fun f (_:PUnit)=>(
  if f.name ≠ "_" then do
   let u ← part f.type xs f.offset
   Instr.checkKey e (n+1) f.type u
   pure (ForInStep.yield PUnit.unit)
  else pure (ForInStep.yield PUnit.unit):Sem (ForInStep PUnit))):Sem PUnit).run P w=.ok PUnit.unit w
 |[],[],a,i,_,_,_=>rfl
 |[],_::_,_,_,h,_,_=>by simp[II] at h
 |_::_,[],_,_,h,_,_=>by simp[II] at h
 |f::fs,c::cs,a,i,hf,hl,ha=>by
  simp only[II,Bool.and_eq_true,bne_iff_ne,ne_eq] at hf
  obtain⟨⟨⟨hoff,hname⟩,hct⟩,hrest⟩:=hf
  have hoff:=Nat.eq_of_beq_eq_true hoff
  cases a with
  |nil=>simp at hl
  |cons x a=>
  generalize hxs:xs.toList.drop i=rx at ha
  cases ha with
  |cons _ rvx _ rla hx hta=>
  obtain⟨gx,dx⟩:=getElem?_of_drop hxs
  subst dx
  obtain⟨d,hd,hdc⟩:∃d,P.underlying f.type=some d/\aF d c=true:=by
   unfold dV at hct; split at hct
   ·rename_i d hd; exact⟨d,hd,hct⟩
   ·cases hct
  have px:=Kj (w:=w) hd hdc xs f.offset rvx (by rw[hoff]; simpa using gx)
  have he:=Nq (w:=w) hct e n rvx
  have ih:=KE e n xs fs cs a (i+1) hrest (by simpa using hl) hta
  rw[List.forIn_cons]
  simp only[ne_eq,hname,not_false_eq_true,if_true,Sem.run_bind,px,he,Result.andThen,Sem.run_pure]
  exact ih
theorem Lg {t:TypeId}{k:KK}(ht:bK P t k=true)(e:Bool){x:AV}{rx:Value}(hx:Ae I μ x rx)(hk:KL k x=true):(Instr.checkKey e 10000 t rx).run P w=.ok () w:=by
 cases k with
 |one c=>exact Nq ht e 9999 rx
 |many cs=>
  simp only[bK] at ht
  cases hx with
  |agg a ra ha ha1=>
   split at ht
   ·rename_i fs hd
    simp only[Bool.and_eq_true,Bool.not_eq_true'] at ht
    have hk:=Nat.eq_of_beq_eq_true hk
    have:=KE (P:=P) (w:=w) e 9998 ra.toArray fs.toList cs a 0 ht.2 hk (by simpa using ha)
    show (Instr.checkKey e (9998+1+1) t _).run P w=_
    rw[Instr.checkKey]
    simp only[Sem.run_bind,run_underlying hd,Result.andThen]
    rw[← Array.forIn_toList]
    rw[this]; rfl
   ·cases ht
  |_=>simp[KL] at hk
theorem QZ {d:TypeDesc}{c:CK}(hd:aF d c=true){x y:AV}{rx ry:Value}{e:Bool}(hx:Ae I μ x rx)(hy:Ae I μ y ry)(h:WA c x y=some e):Instr.sameNow d rx ry=some e:=by
 cases d <;> cases c <;> simp[aF] at hd
 ·cases hx <;> simp[WA] at h
  cases hy <;> simp at h
  simp[Instr.sameNow,h]
 ·cases hx <;> simp[WA] at h
  cases hy <;> simp[cond_eq_ite] at h
  obtain⟨h1,h2⟩:=h
  cases GX h1
  simp[Instr.sameNow,h2]
 ·cases hx <;> simp[WA] at h
  cases hy <;> simp at h
  rename_i a b
  simp only[Instr.sameNow,beq_toListBytes,toList_mk,h]
def FB (es:List MapEntry)(i0:Nat):Option Nat->Option (Nat × Value)
 |none=>none
 |some i=>(es[i]?).map fun e=>(i0+i,e.val)
theorem Mr {d:TypeDesc}{c:CK}(hd:aF d c=true){x:AV}{rx:Value}(hx:Ae I μ x rx):∀(es:List MapEntry) (ks:List AV) (i0:Nat) (r:Option Nat),Ah I μ ks (es.map (·.key))->FY (.one c) ks x=some r ->
 Instr.findNow d rx es i0=some (FB es i0 r)
 |[],ks,i0,r,hk,h=>by
  cases hk; simp[FY] at h; subst h; rfl
 |e::es,ks,i0,r,hk,h=>by
  cases hk with
  |cons k _ ks _ hk ht=>
   simp only[FY] at h
   split at h
   ·rename_i h1
    cases h
    simp[Instr.findNow,QZ hd hx hk h1,FB]
   ·rename_i h1
    split at h
    ·rename_i i h2
     cases h
     have:=Mr hd hx es ks (i0+1) _ ht h2
     simp only[Instr.findNow,QZ hd hx hk h1,this,FB,List.getElem?_cons_succ]
     congr 2
     funext e; congr 1; omega
    ·rename_i h2
     cases h
     have:=Mr hd hx es ks (i0+1) _ ht h2
     simp only[Instr.findNow,QZ hd hx hk h1,this,FB]
    ·cases h
   ·cases h
theorem Ju {t:TypeId}{kk:KK}(ht:bK P t kk=true){x:AV}{rx:Value}(hx:Ae I μ x rx):∀(es:List MapEntry) (ks:List AV) (i0:Nat) (r:Option Nat),Ah I μ ks (es.map (·.key))->FY kk ks x=some r ->
 (Instr.findAsking t rx es i0).run P w=.ok (FB es i0 r) w
 |[],ks,i0,r,hk,h=>by
  cases hk; simp[FY] at h; subst h; rfl
 |e::es,ks,i0,r,hk,h=>by
  cases hk with
  |cons k _ ks _ hk hrest=>
   simp only[FY] at h
   split at h
   ·rename_i h1
    cases h
    have:=XH (w:=w) ht hx hk h1
    simp[Instr.findAsking,this,Result.andThen,FB]
   ·rename_i h1
    have h0:=XH (w:=w) ht hx hk h1
    split at h
    ·rename_i i h2
     cases h
     have:=Ju ht hx es ks (i0+1) _ hrest h2
     simp only[Instr.findAsking,Sem.run_bind,h0,Result.andThen,Bool.false_eq_true,if_false,this,FB,List.getElem?_cons_succ]
     congr 2
     funext e; congr 1; omega
    ·rename_i h2
     cases h
     have:=Ju ht hx es ks (i0+1) _ hrest h2
     simp only[Instr.findAsking,Sem.run_bind,h0,Result.andThen,Bool.false_eq_true,if_false,this,FB]
    ·cases h
   ·cases h
theorem Hy {t:TypeId}{kk:KK}(ht:bK P t kk=true){x:AV}{rx:Value}(hx:Ae I μ x rx){es:List MapEntry}{ks:List AV}{r:Option Nat}(hk:Ah I μ ks (es.map (·.key)))(h:FY kk ks x=some r) :
 (Instr.findKey t rx es).run P w=.ok (FB es 0 r) w:=by
 cases kk with
 |one c=>
  have ht':=ht
  simp only[bK,dV] at ht
  split at ht
  ·rename_i d hd
   have:=Mr ht hx es ks 0 r hk h
   simp only[Instr.findKey,Sem.run_bind,run_underlying hd,Result.andThen,this,Sem.run_pure]
  ·cases ht
 |many cs=>
  have ht':=ht
  simp only[bK] at ht
  split at ht
  ·rename_i fs hd
   cases es with
   |nil=>
    cases hk
    simp[FY] at h; subst h
    simp[Instr.findKey,run_underlying hd,Result.andThen,Instr.findNow,FB]
   |cons e es=>
    have hnow:Instr.findNow (.struct fs) rx (e::es) 0=none:=by
     simp[Instr.findNow,Instr.sameNow]
    have:=Ju (w:=w) ht' hx (e::es) ks 0 r hk h
    simp only[Instr.findKey,Sem.run_bind,run_underlying hd,Result.andThen,hnow,this]
  ·cases ht
end
end Go.Am
end
section
namespace Go.Am
open Go Go.RowKit
variable {P:Program}
section
variable {base:Nat}{w0:Start}{I:Cv}{μ:Mu}{st:St}{w:World}
theorem Ve {c:CK}{x y:AV}{rx ry:Value}(hx:Ae I μ x rx)(hy:Ae I μ y ry)(h:WA c x y=some true):rx=ry/\∀n,Instr.sameBits n ry rx=true:=by
 cases c
 ·cases hx <;> simp[WA] at h
  cases hy <;> simp at h
  subst h; exact⟨rfl,fun n=>by cases n <;> simp[Instr.sameBits]⟩
 ·cases hx <;> simp[WA] at h
  cases hy <;> simp[cond_eq_ite] at h
  obtain⟨h1,h2⟩:=h
  cases GX h1
  subst h2; exact⟨rfl,fun n=>by cases n <;> simp[Instr.sameBits]⟩
 ·cases hx <;> simp[WA] at h
  cases hy <;> simp at h
  subst h; exact⟨rfl,fun n=>by cases n <;> simp[Instr.sameBits,beq_toListBytes]⟩
theorem SY:∀{cs:List CK} {a b:List AV} {ra rb:List Value},Ah I μ a ra->Ah I μ b rb->Nr cs a b=some true->ra=rb/\∀n,((rb.zip ra).all fun (x,y)=>Instr.sameBits n x y)=true
 |[],[],[],_,_,ha,hb,_=>by cases ha; cases hb; exact⟨rfl,fun n=>rfl⟩
 |c::cs,x::a,y::b,ra,rb,ha,hb,h=>by
  cases ha with
  |cons _ rx _ ra hx ha=>
  cases hb with
  |cons _ ry _ rb hy hb=>
  simp only[Nr] at h
  split at h
  ·rename_i h1
   obtain⟨e1,e2⟩:=Ve hx hy h1
   obtain⟨e3,e4⟩:=SY ha hb h
   subst e1 e3
   exact⟨rfl,fun n=>by simp only[List.zip_cons_cons,List.all_cons,e2 n,e4 n,Bool.and_self]⟩
  ·split at h <;> cases h
  ·cases h
 |[],_::_,_,_,_,_,_,h=>by simp[Nr] at h
 |[],[],_::_,_,_,_,_,h=>by simp[Nr] at h
 |_::_,[],_,_,_,_,_,h=>by simp[Nr] at h
 |_::_,_::_,[],_,_,_,_,h=>by simp[Nr] at h
theorem Ut {kk:KK}{x y:AV}{rx ry:Value}(hx:Ae I μ x rx)(hy:Ae I μ y ry)(h:dU kk x y=some true):rx=ry/\Instr.sameBits 10000 ry rx=true:=by
 cases kk with
 |one c=>have:=Ve hx hy h; exact⟨this.1,this.2 _⟩
 |many cs=>
  simp only[dU] at h
  cases hx with
  |agg a ra ha ha1=>
   cases hy with
   |agg b rb hb hb1=>
    obtain⟨e1,e2⟩:=SY ha hb h
    subst e1
    exact⟨rfl,by show Instr.sameBits (9999+1) _ _=true; simp only[Instr.sameBits,beq_self_eq_true,Bool.true_and]; exact e2 9999⟩
   |_=>simp at h
  |_=>simp at h
theorem QY {kk:KK}{x:AV}:∀{ks:List AV} {i:Nat},FY kk ks x=some (some i)->∃k,ks[i]? =some k/\dU kk x k=some true
 |[],i,h=>by simp[FY] at h
 |k::ks,i,h=>by
  simp only[FY] at h
  split at h
  ·rename_i h1; cases h; exact⟨k,rfl,h1⟩
  ·split at h
   ·rename_i j h2; cases h; obtain⟨k',g1,g2⟩:=QY h2; exact⟨k',by simpa using g1,g2⟩
   ·cases h
   ·cases h
  ·cases h
def eX (P:Program)(t:TypeId)(kk:KK):Bool:=
 match P.underlying t with
 |some (.map k _)=>bK P k kk
 |_=>false
def KJ (P:Program)(t:TypeId)(kk:KK)(zero:AV):Bool:=
 match P.underlying t with
 |some (.map k e)=>bK P k kk&&(match P.info? e with|some i=>(match i.zero with|some z=>TZ zero z|none=>false)|none=>false)
 |_=>false
theorem ZK (H:Ay base w0 I μ st w){t:TypeId}{kk:KK}{zero:AV}(ht:KJ P t kk zero=true){ok:Bool}{m k v:AV}{rm rk:Value}{st':St}(hm:Ae I μ m rm)(hk:Ae I μ k rk)(h:Gq kk zero ok m k st=some (v,st')):st'=st/\∃rv,(Instr.lookup t rm rk ok).run P w=.ok rv w/\Ae I μ v rv:=by
 unfold KJ at ht
 split at ht
 ·rename_i kt e hd
  rw[Bool.and_eq_true] at ht
  obtain⟨hkk,hz⟩:=ht
  obtain⟨z,hz1,hz2⟩:∃z,(∀w,(zeroValue e).run P w=.ok z w)/\Ae I μ zero z:=by
   split at hz
   ·rename_i i hi
    split at hz
    ·rename_i z hz'
     exact⟨z,fun w=>by simp[zeroValue,typeInfo,hi,hz'],Pn hz⟩
    ·cases hz
   ·cases hz
  have key:∀(es:List MapEntry) (ks vs:List AV),Ah I μ ks (es.map (·.key))->Ah I μ vs (es.map (·.val))->Ie kk zero ok ks vs k st=some (v,st') ->
   st'=st/\∃r:Option (Nat × Value),(Instr.findKey kt rk es).run P w=.ok r w/\(∀b,(Instr.checkKey b 10000 kt rk).run P w=.ok () w) /\
    (∃rv b,(match r with|some (_,v)=>(v,true)|none=>(z,false))=(rv,b)/\Ae I μ v (if ok then .tuple #[rv,.bool b] else rv)):=by
   intro es ks vs hks hvs hl
   unfold Ie at hl
   rw[cond_eq_ite] at hl
   split at hl
   ·rename_i hki
    have hchk:∀b,(Instr.checkKey b 10000 kt rk).run P w=.ok () w:=fun b=>Lg hkk b hk hki
    split at hl
    ·rename_i hf
     have:=Hy (w:=w) hkk hk hks hf
     simp[Jj] at hl
     obtain⟨g1,g2⟩:=hl
     subst g1 g2
     refine⟨rfl,none,this,hchk,z,false,rfl,?_⟩
     cases ok
     ·exact hz2
     ·exact .tuple _ _ (.cons _ _ _ _ hz2 (.cons _ _ _ _ (.bool _) .nil))
    ·rename_i i hf
     split at hl
     ·rename_i v' hv'
      have:=Hy (w:=w) hkk hk hks hf
      obtain⟨rv,g1,g2⟩:=hvs.get i v' hv'
      simp[Jj] at hl
      obtain⟨g3,g4⟩:=hl
      subst g3 g4
      rw[List.getElem?_map] at g1
      obtain⟨en,e1,e2⟩:=Option.map_eq_some_iff.1 g1
      subst e2
      simp only[FB,e1,Option.map_some] at this
      refine⟨rfl,_,this,hchk,en.val,true,rfl,?_⟩
      cases ok
      ·exact g2
      ·exact .tuple _ _ (.cons _ _ _ _ g2 (.cons _ _ _ _ (.bool _) .nil))
     ·cases hl
    ·cases hl
   ·cases hl
  have fin:∀(es:Array MapEntry),((rm=.map none/\es=#[])∨∃r clock,rm=.map (some r)/\w.heap[r]? =some (.map es clock)) ->
   (st'=st/\∃r:Option (Nat × Value),(Instr.findKey kt rk es.toList).run P w=.ok r w/\(∀b,(Instr.checkKey b 10000 kt rk).run P w=.ok () w) /\
    (∃rv b,(match r with|some (_,v)=>(v,true)|none=>(z,false))=(rv,b)/\Ae I μ v (if ok then .tuple #[rv,.bool b] else rv)))->st'=st/\∃rv,(Instr.lookup t rm rk ok).run P w=.ok rv w/\Ae I μ v rv:=by
   intro es he hr
   obtain⟨hs,r,h1,h2,rv,b,h3,h4⟩:=hr
   refine⟨hs,_,?_,h4⟩
   rcases he with⟨rfl,rfl⟩|⟨rr,clock,rfl,hw⟩
   ·simp only[Instr.lookup,Sem.run_bind,run_underlying hd,Result.andThen_ok,Sem.run_pure,h2]
    simp only[List.toList_toArray] at h1
    rw[h1]
    cases r with
    |none=>cases h3; simp[hz1,Result.andThen]
    |some x=>obtain⟨i,u⟩:=x; cases h3; simp[Result.andThen]
   ·simp only[Instr.lookup,Sem.run_bind,run_underlying hd,Result.andThen_ok,Sem.run_pure,run_getObj_map w rr es clock hw,h2,h1]
    cases r with
    |none=>cases h3; simp[hz1,Result.andThen]
    |some x=>obtain⟨i,u⟩:=x; cases h3; simp[Result.andThen]
  unfold Gq at h
  cases hm with
  |De=>exact fin #[] (.inl ⟨rfl,rfl⟩) (key [] [] [] .nil .nil h)
  |Cq o pl hμ=>
   simp only at h
   split at h
   ·rename_i ks vs bs clock hf
    obtain⟨pl',es,g1,_,_,_,hw,hks,hvs,_,_,_⟩:=H.maps hf hμ
    rw[hμ] at g1; cases g1
    exact fin es (.inr ⟨_,clock,rfl,hw⟩) (key es.toList ks vs hks hvs h)
   ·cases h
  |Gs ks vs r es clock hI hks hvs=>
   have hw:=H.Dj _ _ hI
   exact fin es (.inr ⟨_,clock,rfl,hw⟩) (key es.toList ks vs hks hvs h)
  |_=>simp at h
 ·cases ht
theorem GZ (H:Ay base w0 I μ st w){o:Nat}{pl:Pl}{x y:Al}{b1 b2:Obj}(ho:AA st.h o=some x)(hlo:st.lo<=o)(hpl:μ o=some pl)(hw:w.heap[pl.r]? =some b1)(h1:∀c t f,b1≠.cells c t f)(h2:∀c t f,b2≠.cells c t f)(hob:Ke I μ { w with heap:=w.heap.setIfInBounds pl.r b2 } pl y) :
 (setObj pl.r b2).run P w=.ok () { w with heap:=w.heap.setIfInBounds pl.r b2 }/\Ay base w0 I μ { st with h:=Aa st.h o y } { w with heap:=w.heap.setIfInBounds pl.r b2 }:=by
 refine⟨?_,?_⟩
 ·simp only[setObj,Sem.run,hw]
 ·have Bc:=JU hw
  have hT:gW w { w with heap:=w.heap.setIfInBounds pl.r b2 } pl:=by
   refine⟨rfl,rfl,rfl,by simp,fun k hk=>?_,.inr ⟨fun c t f e=>?_,fun c t f e=>?_⟩⟩
   ·show (w.heap.setIfInBounds pl.r b2)[k]? =_
    rw[Array.getElem?_setIfInBounds_ne (Ne.symm hk)]
   ·rw[hw] at e; exact h1 c t f (by injection e)
   ·have:(w.heap.setIfInBounds pl.r b2)[pl.r]? =some b2:=by simp[Bc]
    simp only at e
    rw[this] at e
    exact h2 c t f (by injection e)
  exact H.ic (o':=o) (x:=x) (y:=y) (h':=Aa st.h o y) (c':=st.c) (pl':=pl) (ν:=μ) ho hlo hlo hpl hT (.inl ⟨rfl,rfl,rfl⟩) (Nat.le_refl _) rfl (Nat.le_refl _) (Nat.le_refl _)
   (fun p z hz=>by
    rw[Fa _ _ _ (by rw[ho]; rfl)] at hz
    by_cases e:o=p
    ·simp[e] at hz; exact .inl ⟨e.symm,hz.symm⟩
    ·simp[e] at hz; exact .inr ⟨Ne.symm e,Ne.symm e,hz⟩) hob
theorem Ah.set {l:List AV}{rl:List Value}(h:Ah I μ l rl){v:AV}{rv:Value}(hv:Ae I μ v rv):∀i,Ah I μ (l.set i v) (rl.set i rv):=by
 induction l generalizing rl with
 |nil=>cases h; intro i; exact .nil
 |cons x l ih=>cases h with
  |cons _ rx _ rl hx ht=>intro i; cases i with
   |zero=>exact .cons _ _ _ _ hv ht
   |succ i=>exact .cons _ _ _ _ hx (ih ht i)
theorem JG {w:World}{r:Nat}{x y:Obj}(h:w.heap[r]? =some x):({ w with heap:=w.heap.setIfInBounds r y }:World).heap[r]? =some y:=by
 have:=JU h
 simp[this]
theorem NS (H:Ay base w0 I μ st w){t:TypeId}{kk:KK}(ht:eX P t kk=true){m k x v:AV}{rm rk rx:Value}{st':St}(hm:Ae I μ m rm)(hk:Ae I μ k rk)(hx:Ae I μ x rx)(h:Du kk m k x st=some (v,st')):v=.undef/\gX P base w0 I μ st w (Instr.mapUpdate t rm rk rx) st':=by
 unfold eX at ht
 split at ht
 ·rename_i kt e hd
  unfold Du at h
  cases hm with
  |Cq o pl hμ=>
   simp only[blt_eq,cond_eq_ite,Bool.or_eq_true,decide_eq_true_eq,Bool.not_eq_true'] at h
   split at h
   ·cases h
   rename_i hcond
   have hlo:st.lo<=o:=by
    rcases Nat.lt_or_ge o st.lo with h1|h1
    ·exact absurd (.inl h1) hcond
    ·exact h1
   have hki:KL kk k=true:=by
    cases hkk:KL kk k with
    |true=>rfl
    |false=>exact absurd (.inr hkk) hcond
   split at h
   ·rename_i ks vs bs clock hf
    obtain⟨pl',es,g1,pb,pn,pe,hw,hks,hvs,hbs,hps,hcl⟩:=H.maps hf hμ
    rw[hμ] at g1; cases g1
    have hchk:=Lg (P:=P) (w:=w) ht false hk hki
    split at h
    ·rename_i i hf2
     cases h
     refine⟨rfl,?_⟩
     have hfk:=Hy (w:=w) (P:=P) ht hk hks hf2
     obtain⟨k',q1,q2⟩:=QY hf2
     obtain⟨rk',q3,q4⟩:=hks.get i k' q1
     rw[List.getElem?_map] at q3
     obtain⟨en,e1,e2⟩:=Option.map_eq_some_iff.1 q3
     subst e2
     obtain⟨e3,e4⟩:=Ut hk q4 q2
     simp only[FB,e1,Option.map_some] at hfk
     have hes:es[i]? =some en:=by rw[← Array.getElem?_toList]; exact e1
     have hil:i<es.size:=(Array.getElem?_eq_some_iff.1 hes).1
     have hiv:es[i]=en:=(Array.getElem?_eq_some_iff.1 hes).2
     have hmod:∀g:MapEntry->MapEntry,(es.modify i g).toList=es.toList.set i (g en):=fun g=>by
      apply List.ext_getElem?
      intro j
      rw[Array.getElem?_toList,Array.getElem?_modify,List.getElem?_set]
      by_cases hij:i=j
      ·subst hij; simp[hes,hil,hiv]
      ·simp[hij]
     have Aa:=GZ (P:=P) (y:=.map ks (vs.set i x) bs clock) (b1:=.map es clock) (b2:=.map (es.modify i fun e=>{ e with key:=rk,val:=rx }) clock) H hf hlo hμ hw (by intros; simp) (by intros; simp)
      (.map ks _ bs clock _ pb pn pe (JG hw)
       (by
        rw[hmod]
        simp only[List.map_set]
        have:(es.toList.map (·.key)).set i rk=es.toList.map (·.key):=by
         apply List.ext_getElem?
         intro j
         rw[List.getElem?_set]
         by_cases hij:i=j
         ·subst hij; simp[e1,hil,hiv,e3]
         ·simp[hij]
        rw[this]; exact hks)
       (by rw[hmod]; simp only[List.map_set]; exact hvs.set hx i)
       (by
        rw[hmod,hbs]
        simp only[List.map_set]
        apply List.ext_getElem?
        intro j
        rw[List.getElem?_set]
        by_cases hij:i=j
        ·subst hij; simp[e1,hil,hiv]
        ·simp[hij])
       hps hcl)
     refine⟨_,?_,Aa.2,rfl,rfl⟩
     have hstay:(Instr.keyThatStays (((es[i]?).map (·.key)).getD rk) rk).run P w=.ok rk w:=by
      rw[hes]
      simp only[Option.map_some,Option.getD_some,Instr.keyThatStays,e4,if_true,Sem.run_pure]
     simp only[Instr.mapUpdate,Sem.run_bind,run_underlying hd,Result.andThen_ok,run_getObj_map w pl.r es clock hw,hchk,hfk,Nat.zero_add,hstay]
     exact Aa.1
    ·rename_i hf2
     cases h
     refine⟨rfl,?_⟩
     have hfk:=Hy (w:=w) (P:=P) ht hk hks hf2
     simp only[FB] at hfk
     have Aa:=GZ (P:=P) (y:=.map (ks++[k]) (vs++[x]) (bs++[clock]) (clock+1)) (b1:=.map es clock) (b2:=.map (es.push { key:=rk,val:=rx,born:=clock }) (clock+1)) H hf hlo hμ hw (by intros; simp) (by intros; simp)
      (.map _ _ _ _ _ pb pn pe (JG hw) (by simpa using hks.append (.cons _ _ _ _ hk .nil)) (by simpa using hvs.append (.cons _ _ _ _ hx .nil)) (by simp[hbs])
       (by
        rw[List.pairwise_append]
        refine⟨hps,by simp,fun a ha b hb=>?_⟩
        simp at hb; subst hb; exact hcl a ha)
       (by
        intro b hb
        rw[List.mem_append] at hb
        rcases hb with hb|hb
        ·exact Nat.lt_succ_of_lt (hcl b hb)
        ·simp at hb; omega))
     refine⟨_,?_,Aa.2,rfl,rfl⟩
     simp only[Instr.mapUpdate,Sem.run_bind,run_underlying hd,Result.andThen_ok,run_getObj_map w pl.r es clock hw,hchk,hfk]
     exact Aa.1
    ·cases h
   ·cases h
  |_=>simp at h
 ·cases ht
end
end Go.Am
end
section
namespace Go.Am
open Go Go.RowKit
variable {P:Program}
section
variable {base:Nat}{w0:Start}{I:Cv}{μ:Mu}{st:St}{w:World}
theorem MQ (es:Array MapEntry)(i:Nat)(en:MapEntry)(hes:es[i]? =some en)(g:MapEntry->MapEntry):(es.modify i g).toList=es.toList.set i (g en):=by
 have hil:i<es.size:=(Array.getElem?_eq_some_iff.1 hes).1
 have hiv:es[i]=en:=(Array.getElem?_eq_some_iff.1 hes).2
 apply List.ext_getElem?
 intro j
 rw[Array.getElem?_toList,Array.getElem?_modify,List.getElem?_set]
 by_cases hij:i=j
 ·subst hij; simp[hes,hil,hiv]
 ·simp[hij]
theorem QD {α:Type}{l:List α}{i:Nat}{x:α}(h:l[i]? =some x):l.set i x=l:=by
 apply List.ext_getElem?
 intro j
 rw[List.getElem?_set]
 by_cases hij:i=j
 ·subst hij
  have:=(List.getElem?_eq_some_iff.1 h).1
  have h2:=(List.getElem?_eq_some_iff.1 h).2
  simp[h2,this]
 ·simp[hij]
theorem ZW {h:Heap}{o:Nat}{x:Al}(hf:AA h o=some x):∀p,AA (Aa h o x) p=AA h p:=fun p=>by
 rw[Fa _ _ _ (by rw[hf]; rfl)]
 by_cases e:o=p
 ·subst e; simp[hf]
 ·simp[e]
theorem Uh (H:Ay base w0 I μ st w){t:TypeId}{kk:KK}{zero:AV}(ht:KJ P t kk zero=true){m k v:AV}{rm rk:Value}{st':St}(hm:Ae I μ m rm)(hk:Ae I μ k rk)(h:JP kk zero m k st=some (v,st')):Mw P base w0 I μ st w none (Instr.mapEntry t rm rk) v st':=by
 unfold KJ at ht
 split at ht
 ·rename_i kt e hd
  rw[Bool.and_eq_true] at ht
  obtain⟨hkk,hz⟩:=ht
  obtain⟨z,hz1,hz2⟩:∃z,(∀w,(zeroValue e).run P w=.ok z w)/\Ae I μ zero z:=by
   split at hz
   ·rename_i i hi
    split at hz
    ·rename_i z hz'
     exact⟨z,fun w=>by simp[zeroValue,typeInfo,hi,hz'],Pn hz⟩
    ·cases hz
   ·cases hz
  unfold JP at h
  cases hm with
  |Cq o pl hμ=>
   simp only[blt_eq,cond_eq_ite,Bool.or_eq_true,decide_eq_true_eq,Bool.not_eq_true'] at h
   split at h
   ·cases h
   rename_i hcond
   have hlo:st.lo<=o:=by
    rcases Nat.lt_or_ge o st.lo with h1|h1
    ·exact absurd (.inl h1) hcond
    ·exact h1
   have hki:KL kk k=true:=by
    cases hkk:KL kk k with
    |true=>rfl
    |false=>exact absurd (.inr hkk) hcond
   split at h
   ·rename_i ks vs bs clock hf
    obtain⟨pl',es,g1,pb,pn,pe,hw,hks,hvs,hbs,hps,hcl⟩:=H.maps hf hμ
    rw[hμ] at g1; cases g1
    have hchk:=Lg (P:=P) (w:=w) hkk false hk hki
    split at h
    ·rename_i i hf2
     split at h
     ·rename_i av ab hva hba
      cases h
      have hfk:=Hy (w:=w) (P:=P) hkk hk hks hf2
      obtain⟨k',q1,q2⟩:=QY hf2
      obtain⟨rk',q3,q4⟩:=hks.get i k' q1
      rw[List.getElem?_map] at q3
      obtain⟨en,e1,e2⟩:=Option.map_eq_some_iff.1 q3
      subst e2
      obtain⟨e3,e4⟩:=Ut hk q4 q2
      simp only[FB,e1,Option.map_some] at hfk
      have hes:es[i]? =some en:=by rw[← Array.getElem?_toList]; exact e1
      have hmod:(es.modify i fun e=>{ e with key:=rk }).toList=es.toList:=by
       rw[MQ es i en hes]
       refine QD ?_
       rw[e1,e3]
      have hmod':(es.modify i fun e=>{ e with key:=rk })=es:=Array.toList_inj.1 hmod
      have hst:=GZ (P:=P) (y:=.map ks vs bs clock) (b1:=.map es clock) (b2:=.map es clock) H hf hlo hμ hw (by intros; simp) (by intros; simp)
       (.map ks _ bs clock es pb pn pe (JG hw) hks hvs hbs hps hcl)
      have hW:Ay base w0 I μ st { w with heap:=w.heap.setIfInBounds pl.r (.map es clock) }:=
       Ay.iJ (h':=st.h) hst.2 (fun p x hp=>by
        show AA (Am.Aa st.h o _) p=_
        rw[ZW hf]; exact hp)
      have hbv:en.born=ab:=by
       rw[hbs,List.getElem?_map,e1] at hba
       simpa using hba
      obtain⟨rv,r1,r2⟩:=hvs.get i av hva
      rw[List.getElem?_map,e1] at r1
      cases r1
      have hstay:(Instr.keyThatStays (((es[i]?).map (·.key)).getD rk) rk).run P w=.ok rk w:=by
       rw[hes]
       simp only[Option.map_some,Option.getD_some,Instr.keyThatStays,e4,if_true,Sem.run_pure]
      refine⟨.tuple #[en.val,.int .i64 en.born],_,μ,?_,hW,?_,fun _ _ h=>h,fun _ _=>rfl,rfl,rfl⟩
      ·simp only[Instr.mapEntry,Sem.run_bind,run_underlying hd,Result.andThen_ok,run_getObj_map w pl.r es clock hw,hchk,hfk,Nat.zero_add,hstay,hmod',hst.1,Sem.run_pure]
       rw[hes]; rfl
      ·rw[hbv]; exact .tuple _ _ (.cons _ _ _ _ r2 (.cons _ _ _ _ (.int _ _) .nil))
     ·cases h
    ·rename_i hf2
     cases h
     have hfk:=Hy (w:=w) (P:=P) hkk hk hks hf2
     simp only[FB] at hfk
     have hst:=GZ (P:=P) (y:=.map (ks++[k]) (vs++[zero]) (bs++[clock]) (clock+1)) (b1:=.map es clock) (b2:=.map (es.push { key:=rk,val:=z,born:=clock }) (clock+1)) H hf hlo hμ hw (by intros; simp) (by intros; simp)
      (.map _ _ _ _ _ pb pn pe (JG hw) (by simpa using hks.append (.cons _ _ _ _ hk .nil)) (by simpa using hvs.append (.cons _ _ _ _ hz2 .nil)) (by simp[hbs])
       (by
        rw[List.pairwise_append]
        refine⟨hps,by simp,fun a ha b hb=>?_⟩
        simp at hb; subst hb; exact hcl a ha)
       (by
        intro b hb
        rw[List.mem_append] at hb
        rcases hb with hb|hb
        ·exact Nat.lt_succ_of_lt (hcl b hb)
        ·simp at hb; omega))
     refine⟨.tuple #[z,.int .i64 clock],_,μ,?_,hst.2,?_,fun _ _ h=>h,fun _ _=>rfl,rfl,rfl⟩
     ·simp only[Instr.mapEntry,Sem.run_bind,run_underlying hd,Result.andThen_ok,run_getObj_map w pl.r es clock hw,hchk,hfk,hz1,hst.1,Sem.run_pure]
      rfl
     ·exact .tuple _ _ (.cons _ _ _ _ hz2 (.cons _ _ _ _ (.int _ _) .nil))
    ·cases h
   ·cases h
  |_=>simp at h
 ·cases ht
theorem KY {b:Nat}:∀{bs:List Nat} {i:Nat},Jv bs b=some i->bs[i]? =some b/\∀j,j<i->bs[j]?≠some b
 |[],i,h=>by simp[Jv] at h
 |x::bs,i,h=>by
  simp only[Jv,beq_eq,cond_eq_ite,decide_eq_true_eq] at h
  split at h
  ·rename_i e
   subst e; cases h; exact⟨rfl,fun j hj=>by omega⟩
  ·rename_i hne
   split at h
   ·rename_i i' h1
    cases h
    obtain⟨g1,g2⟩:=KY h1
    refine⟨by simpa using g1,fun j hj=>?_⟩
    cases j with
    |zero=>simp[hne]
    |succ j=>simpa using g2 j (by omega)
   ·cases h
theorem TN {es:Array MapEntry}{b i:Nat}(h:Jv (es.toList.map (·.born)) b=some i):es.findIdx? (fun e=>(e.born:Int)==(b:Int))=some i:=by
 obtain⟨h1,h2⟩:=KY h
 rw[List.getElem?_map] at h1
 obtain⟨en,e1,e2⟩:=Option.map_eq_some_iff.1 h1
 rw[Array.getElem?_toList] at e1
 obtain⟨Bc,e1⟩:=Array.getElem?_eq_some_iff.1 e1
 rw[Array.findIdx?_eq_some_iff_getElem]
 refine⟨Bc,by rw[e1]; simp[e2],fun j hj=>?_⟩
 have:=h2 j hj
 rw[List.getElem?_map,Array.getElem?_toList,Array.getElem?_eq_getElem (by omega)] at this
 simp at this
 simp only[beq_iff_eq,Int.natCast_inj,Bool.not_eq_true',beq_eq_false_iff_ne,ne_eq,this,not_false_eq_true]
theorem find_born {es:Array MapEntry}{b i:Nat}{en:MapEntry}(h:Jv (es.toList.map (·.born)) b=some i)(he:es[i]? =some en):es.find? (fun e=>e.born==b)=some en:=by
 obtain⟨h1,h2⟩:=KY h
 rw[List.getElem?_map,Array.getElem?_toList,he] at h1
 obtain⟨Bc,e1⟩:=Array.getElem?_eq_some_iff.1 he
 rw[Array.find?_eq_some_iff_getElem]
 refine⟨by simpa using h1,i,Bc,e1,fun j hj=>?_⟩
 have:=h2 j hj
 rw[List.getElem?_map,Array.getElem?_toList,Array.getElem?_eq_getElem (by omega)] at this
 simp at this
 simpa using this
theorem Rh (H:Ay base w0 I μ st w){t:TypeId}{m b x v:AV}{rm rb rx:Value}{st':St}(hm:Ae I μ m rm)(hb:Ae I μ b rb)(hx:Ae I μ x rx)(h:Gr m b x st=some (v,st')):v=.undef/\gX P base w0 I μ st w (Instr.entryStore t rm rb rx) st':=by
 unfold Gr at h
 split at h
 ·rename_i n hn
  obtain⟨k,rfl⟩:=JV hb hn
  cases hm with
  |Cq o pl hμ=>
   simp only[blt_eq,cond_eq_ite,decide_eq_true_eq] at h
   split at h
   ·cases h
   rename_i hlo
   split at h
   ·rename_i ks vs bs clock hf
    obtain⟨pl',es,g1,pb,pn,pe,hw,hks,hvs,hbs,hps,hcl⟩:=H.maps hf hμ
    rw[hμ] at g1; cases g1
    split at h
    ·rename_i i hi
     cases h
     refine⟨rfl,?_⟩
     rw[hbs] at hi
     have h1:=(KY hi).1
     rw[List.getElem?_map] at h1
     obtain⟨en,e1,e2⟩:=Option.map_eq_some_iff.1 h1
     have hes:es[i]? =some en:=by rw[← Array.getElem?_toList]; exact e1
     have hmod:=MQ es i en hes fun e=>{ e with val:=rx }
     have hk':(es.toList.map (·.key)).set i en.key=es.toList.map (·.key):=QD (by rw[List.getElem?_map,e1]; rfl)
     have hb':(es.toList.map (·.born)).set i en.born=es.toList.map (·.born):=QD (by rw[List.getElem?_map,e1]; rfl)
     have hst:=GZ (P:=P) (y:=.map ks (vs.set i x) bs clock) (b1:=.map es clock) (b2:=.map (es.modify i fun e=>{ e with val:=rx }) clock) H hf (by omega) hμ hw (by intros; simp) (by intros; simp)
      (.map ks _ bs clock _ pb pn pe (JG hw) (by rw[hmod,List.map_set,hk']; exact hks) (by rw[hmod,List.map_set]; exact hvs.set hx i) (by rw[hmod,List.map_set,hb']; exact hbs) hps hcl)
     refine⟨_,?_,hst.2,rfl,rfl⟩
     have:=TN hi
     simp only[Instr.entryStore,Sem.run_bind,Sem.run_pure,Result.andThen_ok,run_getObj_map w pl.r es clock hw,asInt,Lj,this]
     exact hst.1
    ·cases h
   ·cases h
  |_=>simp at h
 ·cases h
theorem ay (H:Ay base w0 I μ st w){t:TypeId}{o:Nat}(hf:AA st.h o=some (.map [] [] [] 0))(hμ:μ o=none)(ho:o<st.c):Mw P base w0 I μ st w (some o) (Instr.makeMap t none) (.Cq o) st:=by
 have H':=H.cO (o:=o) (pl:=⟨w.heap.size,0,1,0,1⟩) (x:=.map #[] 0) hf ho hμ rfl
  (.map [] [] [] 0 #[] rfl rfl rfl (World.FH w _) .nil .nil rfl .nil (by simp))
 refine⟨.map (some w.heap.size),_,_,?_,H',?_,Dn hμ,fun p hp=>?_,rfl,rfl⟩
 ·simp[Instr.makeMap,run_newObj,Result.andThen]
 ·exact .Cq o ⟨w.heap.size,0,1,0,1⟩ (by simp[Cu])
 ·have:p≠o:=fun e=>hp (by rw[e])
  simp[Cu,this]
end
end Go.Am
end
section
namespace Go.Am
open Go Go.RowKit
variable {P:Program}
section
variable {base:Nat}{w0:Start}{I:Cv}{μ:Mu}{st:St}{w:World}
def pY (P:Program)(base:Nat)(w0:Start)(I:Cv)(μ:Mu)(st:St)(w:World)(o:Option Nat)(e:Sem Value)(m:M (AV × St)):Prop:=
 ∀Q,m.all Q->∃v st',Q (v,st')/\Mw P base w0 I μ st w o e v st'
theorem IG {r since stepped:Nat}{m:Option Nat}{seen:Array Nat}(h:w.heap[r]? =some (.mapIter m since seen stepped)):(getObj r).run P w=.ok (.mapIter m since seen stepped) w:=by simp[getObj,Sem.run,h]
def az (P:Program)(t:TypeId):Bool:=match P.underlying t with
 |some (.map ..)=>true
 |_=>false
theorem UT (H:Ay base w0 I μ st w){t:TypeId}(ht:az P t=true){o:Nat}{m v:AV}{rm:Value}{st':St}(hm:Ae I μ m rm)(h:JO o m st=some (v,st'))(hμ:μ o=none)(ho:o<st.c):Mw P base w0 I μ st w (some o) (Instr.range t rm) v st':=by
 unfold az at ht
 split at ht
 ·rename_i kt e hd
  have fin:∀(ob:Al) (b:Obj) (st1:St),newObj o ob st=some st1->Ke I (Cu μ o ⟨w.heap.size,0,1,0,1⟩) (w.alloc b) ⟨w.heap.size,0,1,0,1⟩ ob ->
   (Instr.range t rm).run P w=.ok (.pointer (some ⟨w.heap.size,0,none⟩)) (w.alloc b)->Mw P base w0 I μ st w (some o) (Instr.range t rm) (.AO o 0) st1:=by
   intro ob b st1 hn hob hr
   obtain⟨H1,hf,hc,hl,_⟩:=OO H hn hμ ho
   have H':=H1.cO (o:=o) (pl:=⟨w.heap.size,0,1,0,1⟩) (x:=b) hf (by rw[hc]; exact ho) hμ rfl hob
   refine⟨_,_,_,hr,H',?_,Dn hμ,fun p hp=>?_,hc,hl⟩
   ·have:=Ae.AO (I:=I) (μ:=Cu μ o ⟨w.heap.size,0,1,0,1⟩) o 0 ⟨w.heap.size,0,1,0,1⟩ (by simp[Cu])
    simpa using this
   ·have:p≠o:=fun e=>hp (by rw[e])
    simp[Cu,this]
  unfold JO at h
  cases hm with
  |De=>
   simp only[CO] at h
   split at h
   ·rename_i st1 hn
    cases h
    refine fin _ (.mapIter none 0 #[] 0) _ hn (.Gu 0 [] 0 rfl rfl rfl (World.FH w _)) ?_
    simp[Instr.range,run_underlying hd,run_newObj,Result.andThen]
   ·cases h
  |Cq x pm hx=>
   simp only at h
   split at h
   ·rename_i ks vs bs clock hf
    simp only[CO] at h
    obtain⟨pl',es,g1,pb,pn,pe,hw,hks,hvs,hbs,hps,hcl⟩:=H.maps hf hx
    rw[hx] at g1; cases g1
    split at h
    ·rename_i st1 hn
     cases h
     refine fin _ (.mapIter (some pm.r) clock #[] clock) _ hn (.iter x pm clock [] clock rfl rfl rfl (Dn hμ _ _ hx) (World.FH w _)) ?_
     simp[Instr.range,run_underlying hd,run_newObj,Result.andThen,run_getObj_map w _ _ _ hw]
    ·cases h
   ·cases h
  |_=>simp at h
 ·cases ht
theorem Ay.bM (H:Ay base w0 I μ st w){o since stepped:Nat}{m:Option Nat}{seen:List Nat}(h:AA st.h o=some (.iter m since seen stepped)){pl:Pl}(h1:μ o=some pl) :
 pl.b=0/\pl.n=1/\pl.e=0/\((m=none/\w.heap[pl.r]? =some (.mapIter none since seen.toArray stepped)) ∨
  ∃x pm,m=some x/\μ x=some pm/\w.heap[pl.r]? =some (.mapIter (some pm.r) since seen.toArray stepped)):=by
 have h2:=H.obj o _ pl h h1
 cases h2 with
 |Gu _ _ _ hb hn he hw=>exact⟨hb,hn,he,.inl ⟨rfl,hw⟩⟩
 |iter x pm _ _ _ hb hn he hm hw=>exact⟨hb,hn,he,.inr ⟨x,pm,rfl,hm,hw⟩⟩
theorem XP {i:Nat}{x v:AV}{rx:Value}{st':St}(hx:Ae I μ x rx)(h:Gb i x st=some (v,st')):st'=st/\∃rv,(Instr.extract rx i).run P w=.ok rv w/\Ae I μ v rv:=by
 unfold Gb Df at h
 cases hx with
 |tuple vs rvs hv=>
  simp only at h
  split at h
  ·rename_i u hu
   cases h
   obtain⟨rv,h1,h2⟩:=hv.get i v hu
   exact⟨rfl,rv,by simp[Instr.extract,h1],h2⟩
  ·cases h
 |_=>simp at h
theorem VS {es:Array MapEntry}{bs:List Nat}(hbs:bs=es.toList.map (·.born)){ks vs:List AV}(hks:Ah I μ ks (es.toList.map (·.key)))(hvs:Ah I μ vs (es.toList.map (·.val))){b j:Nat}(hb:Jv bs b=some j){k v:AV}(hk:ks[j]? =some k)(hv:vs[j]? =some v) :
 ∃en,es[j]? =some en/\en.born=b/\Ae I μ k en.key/\Ae I μ v en.val:=by
 obtain⟨h1,h2⟩:=KY hb
 rw[hbs,List.getElem?_map] at h1
 obtain⟨en,e1,e2⟩:=Option.map_eq_some_iff.1 h1
 obtain⟨rk,r1,r2⟩:=hks.get j k hk
 obtain⟨rv,s1,s2⟩:=hvs.get j v hv
 rw[List.getElem?_map,e1] at r1 s1
 cases r1; cases s1
 exact⟨en,by rw[← Array.getElem?_toList]; exact e1,e2,r2,s2⟩
theorem bZ (H:Ay base w0 I μ st w){it v:AV}{rit:Value}{st':St}(hi:Ae I μ it rit)(h:Lu it st=some (v,st')) :
 st'=st/\∃rv,(Instr.entry rit).run P w=.ok rv w/\Ae I μ v rv:=by
 unfold Lu at h
 split at h
 ·rename_i i
  cases hi with
  |AO _ _ pl hμ=>
  split at h
  ·rename_i o since seen stepped hf
   obtain⟨pb,pn,pe,hw⟩:=H.bM hf hμ
   rcases hw with⟨h0,_⟩|⟨x,pm,hx,hpm,hw⟩
   ·cases h0
   cases hx
   split at h
   ·rename_i ks vs bs clock hf2
    obtain⟨pl',es,g1,_,_,_,hwm,hks,hvs,hbs,hps,hcl⟩:=H.maps hf2 hpm
    rw[hpm] at g1; cases g1
    simp only[beq_eq,cond_eq_ite,decide_eq_true_eq] at h
    split at h
    ·rename_i hst
     subst hst
     split at h
     ·rename_i b hb
      split at h
      ·rename_i j hj
       split at h
       ·rename_i k u hk hu
        cases h
        obtain⟨en,e1,e2,e3,e4⟩:=VS hbs hks hvs hj hk hu
        refine⟨rfl,.tuple #[en.key,en.val],?_,.tuple _ _ (.cons _ _ _ _ e3 (.cons _ _ _ _ e4 .nil))⟩
        have AA:=find_born (es:=es) (b:=b) (by rw[← hbs]; exact hj) e1
        rw[pb]
        have hback:seen.toArray.back? =some b:=by simp[hb]
        simp only[Instr.entry,Sem.run_bind,IG hw,Result.andThen_ok,hback,run_getObj_map w _ _ _ hwm,Nat.add_zero,bne_self_eq_false,Bool.false_eq_true,if_false,Sem.run_pure,AA]
       ·cases h
      ·cases h
     ·cases h
    ·cases h
   ·cases h
  ·cases h
 ·cases h
def FR (es:Array MapEntry)(since:Nat)(seen:Array Nat):Array (Option MapEntry):=
 let left:=es.filter fun e=>!seen.contains e.born
 let CF:=left.filter (·.born<since)
 let new:=left.filter (·.born ≥ since)
 (if CF.isEmpty then #[none] else #[])++(CF++new).map some
theorem bE (es:Array MapEntry)(since:Nat)(seen:List Nat):(FR es since seen.toArray).toList.map (Option.map (·.born))=candidates (es.toList.map (·.born)) since seen:=by
 unfold candidates FR
 have h1:∀(l:List MapEntry) (p:Nat->Bool),(l.map (·.born)).filter p=(l.filter fun (e:MapEntry)=>p e.born).map (·.born):=fun l p=>by
  rw[List.filter_map]; rfl
 simp only[h1,Array.toList_append,Array.toList_map,List.map_append,List.map_map,Array.toList_filter,List.contains_toArray]
 congr 1
 ·have:(Array.filter (fun (x:MapEntry)=>decide (x.born<since)) (Array.filter (fun (e:MapEntry)=>!seen.contains e.born) es)).isEmpty =
   (List.map (fun (x:MapEntry)=>x.born) (List.filter (fun (e:MapEntry)=>decide (e.born<since)) (List.filter (fun (e:MapEntry)=>!seen.contains e.born) es.toList))).isEmpty:=by
   rw[← Array.isEmpty_toList]
   simp
  rw[this]
  split <;> rfl
theorem Vf (es:Array MapEntry)(since:Nat)(seen:Array Nat):0<(FR es since seen).size:=by
 unfold FR
 simp only[Array.size_append]
 split
 ·simp; omega
 ·rename_i h
  rw[Array.isEmpty_iff_size_eq_zero] at h
  simp only[Array.size_map,Array.size_append]
  omega
theorem Vg {es:Array MapEntry}{since:Nat}{seen:Array Nat}{en:MapEntry}(h:some en∈FR es since seen):en∈es:=by
 unfold FR at h
 simp only[Array.mem_append,Array.mem_map] at h
 rcases h with h|⟨e,h,h2⟩
 ·split at h <;> simp at h
 ·cases h2
  rcases h with h|h <;> exact (Array.mem_filter.1 (Array.mem_filter.1 h).1).1
theorem UI (n:Nat)(h0:0<n)(w:World):∃j w',j<=n-1/\(choose (.mapNext n)).run P w=.ok j w'/\(w'=w∨w'=w.drew):=by
 rw[run_choose]
 by_cases h:n<=1
 ·exact⟨0,w,by omega,by simp[Question.forced,h],.inl rfl⟩
 ·refine⟨w.tape w.drawn (.mapNext n) % n,w.drew,?_,by simp[Question.forced,h,Question.cut],.inr rfl⟩
  have:=Nat.mod_lt (w.tape w.drawn (.mapNext n)) h0
  omega
theorem eO (H:Ay base w0 I μ st w){args:List AV}{rit:Value}{t:TypeId}(hi:Ah I μ args [rit]):pY P base w0 I μ st w none (Instr.next rit false t) (Mi args st):=by
 intro Q hQ
 unfold Mi at hQ
 split at hQ
 ·rename_i i
  cases hi with
  |cons _ _ _ _ hi ht=>
  cases ht
  cases hi with
  |AO _ _ pl hμ=>
  split at hQ
  ·rename_i since seen stepped hf
   obtain⟨pb,pn,pe,hw⟩:=H.bM hf hμ
   rcases hw with⟨_,hw⟩|⟨x,pm,hx,_⟩
   ·refine⟨_,_,hQ,Mw.stay H (rv:=.tuple #[.bool false]) ?_ (.tuple _ _ (.cons _ _ _ _ (.bool _) .nil))⟩
    rw[pb]
    simp[Instr.next,IG hw,Result.andThen]
   ·cases hx
  ·rename_i o since seen stepped hf
   obtain⟨pb,pn,pe,hw⟩:=H.bM hf hμ
   rcases hw with⟨h0,_⟩|⟨x,pm,hx,hpm,hw⟩
   ·cases h0
   cases hx
   simp only[blt_eq,cond_eq_ite,decide_eq_true_eq] at hQ
   split at hQ
   ·exact hQ.elim
   rename_i hlo
   split at hQ
   ·rename_i ks vs bs clock hf2
    obtain⟨pl',es,g1,_,_,_,hwm,hks,hvs,hbs,hps,hcl⟩:=H.maps hf2 hpm
    rw[hpm] at g1; cases g1
    split at hQ
    ·exact hQ.elim
    rename_i hgone
    have hc:=bE es since seen
    rw[← hbs] at hc
    have hlen:(candidates bs since seen).length=(FR es since seen.toArray).size:=by rw[← hc]; simp
    have hpos:=Vf es since seen.toArray
    obtain⟨j,w',hj,hrun,hww⟩:=UI (P:=P) _ hpos w
    have hQj:=hQ j (by rw[hlen]; exact hj)
    have hjlt:j<(FR es since seen.toArray).size:=by omega
    have hcj:(candidates bs since seen)[j]? =some ((FR es since seen.toArray)[j].map (·.born)):=by
     rw[← hc,List.getElem?_map,Array.getElem?_toList,Array.getElem?_eq_getElem hjlt]; rfl
    simp only[hcj] at hQj
    have H':Ay base w0 I μ st w':=by rcases hww with h|h <;> subst h; exact H; exact H.drew
    have hheap:w'.heap=w.heap:=by rcases hww with h|h <;> subst h <;> rfl
    have hgone':(!seen.toArray.isEmpty&&!es.isEmpty&&es.all (·.born ≥ stepped))=false:=by
     have e1:bs.isEmpty=es.isEmpty:=by rw[hbs,← Array.isEmpty_toList]; simp
     have e2:bs.all (Nat.ble stepped)=es.all (·.born ≥ stepped):=by
      rw[hbs,List.all_map,← Array.all_toList]
      congr 1
      funext e
      simp[ble_eq]
     rw[e1,e2] at hgone
     simpa using hgone
    have hstart:∀(K:Option MapEntry->Sem Value),(FR es since seen.toArray)[j]? =some (FR es since seen.toArray)[j]:=fun _=>Array.getElem?_eq_getElem hjlt
    cases hcv:(FR es since seen.toArray)[j] with
    |none=>
     rw[hcv] at hQj
     simp only[Option.map_none,TD] at hQj
     refine⟨_,_,hQj,.tuple #[.bool false],w',μ,?_,H',.tuple _ _ (.cons _ _ _ _ (.bool _) .nil),fun _ _ h=>h,fun _ _=>rfl,rfl,rfl⟩
     have hget:=Array.getElem?_eq_getElem hjlt
     rw[hcv] at hget
     unfold FR at hget hrun
     rw[pb]
     simp only[Instr.next,Sem.run_bind,IG hw,Result.andThen_ok,run_getObj_map w _ _ _ hwm,Nat.add_zero,Sem.run_pure,hgone',Bool.false_eq_true,if_false,hrun,hget]
    |some en=>
     rw[hcv] at hQj
     simp only[Option.map_some,TD] at hQj
     split at hQj
     ·rename_i e he
      split at hQj
      ·rename_i k u hk hu
       obtain⟨en',e1,e2,e3,e4⟩:=VS hbs hks hvs he hk hu
       have hmem:en∈es:=Vg (by rw[← hcv]; exact Array.getElem_mem hjlt)
       have hen:en'=en:=by
        obtain⟨q,q1⟩:=Array.getElem?_of_mem hmem
        have hp:(es.toList.map (·.born)).Pairwise (·<·):=by rw[← hbs]; exact hps
        rw[List.pairwise_iff_getElem] at hp
        obtain⟨l1,v1⟩:=Array.getElem?_eq_some_iff.1 e1
        obtain⟨l2,v2⟩:=Array.getElem?_eq_some_iff.1 q1
        have hqe:q=e:=by
         rcases Nat.lt_trichotomy q e with h|h|h
         ·have:=hp q e (by simpa using l2) (by simpa using l1) h
          simp[v1,v2,e2] at this
         ·exact h
         ·have:=hp e q (by simpa using l1) (by simpa using l2) h
          simp[v1,v2,e2] at this
        subst hqe
        rw[← v1,← v2]
       subst hen
       have hwp:w'.heap[pl.r]? =some (.mapIter (some pm.r) since seen.toArray stepped):=by rw[hheap]; exact hw
       have hst:=GZ (P:=P) (y:=.iter (some o) since (seen++[en'.born]) clock) (b1:=.mapIter (some pm.r) since seen.toArray stepped) (b2:=.mapIter (some pm.r) since (seen.toArray.push en'.born) clock) H' hf (by omega) hμ hwp (by intros; simp) (by intros; simp)
        (.iter o pm since _ clock pb pn pe hpm (by rw[JG hwp]; simp))
       refine⟨_,_,hQj,.tuple #[.bool true,en'.key,en'.val],_,μ,?_,hst.2,.tuple _ _ (.cons _ _ _ _ (.bool _) (.cons _ _ _ _ e3 (.cons _ _ _ _ e4 .nil))),fun _ _ h=>h,fun _ _=>rfl,rfl,rfl⟩
       have hget:=Array.getElem?_eq_getElem hjlt
       rw[hcv] at hget
       unfold FR at hget hrun
       rw[pb]
       simp only[Instr.next,Sem.run_bind,IG hw,Result.andThen_ok,run_getObj_map w _ _ _ hwm,Nat.add_zero,Sem.run_pure,hgone',Bool.false_eq_true,if_false,hrun,hget,hst.1]
      ·exact hQj.elim
     ·exact hQj.elim
   ·exact hQ.elim
  ·exact hQ.elim
 ·exact hQ.elim
end
end Go.Am
end
section
namespace Go.Am
open Go Go.RowKit
variable {P:Program}
section
variable {base:Nat}{w0:Start}{I:Cv}{μ:Mu}{st:St}{w:World}
theorem Ji (a:Addr)(n k:Nat)(h:k≠a.block):(w.freeze a n).heap[k]? =w.heap[k]?:=by
 unfold World.freeze
 split
 ·rfl
 ·simp only[Array.getElem?_modify]
  rw[if_neg (Ne.symm h)]
theorem PH (a b:Addr)(n:Nat):(w.freeze a n).cell? b=w.cell? b:=by
 unfold World.freeze
 split
 ·rfl
 ·simp only[World.cell?,Array.getElem?_modify]
  by_cases h:a.block=b.block
  ·rw[if_pos h]
   cases hb:w.heap[b.block]? with
   |none=>rfl
   |some x=>cases x <;> rfl
  ·rw[if_neg h]
theorem PG (a:Addr)(n:Nat):(w.freeze a n).heap.size=w.heap.size:=by
 unfold World.freeze
 split
 ·rfl
 ·simp
theorem Za (H:Ay base w0 I μ st w){o:Nat}{x:Al}(hf:AA st.h o=some x)(hlo:st.lo<=o){pl:Pl}(hpl:μ o=some pl)(off n:Nat) :
 Ay base w0 I μ { st with h:=GL st.h o } (w.freeze ⟨pl.r,off,none⟩ n):=by
 have hd:∀p y,AA (GL st.h o) p=some y->p≠o/\AA st.h p=some y:=fun p y h=>by
  rw[Dz] at h
  by_cases e:o=p
  ·simp[e] at h
  ·simp[e] at h; exact⟨Ne.symm e,h⟩
 refine⟨Lib.below_freeze H.below (H.lo o x pl hf hpl hlo) n,by rw[PG]; exact H.Tx,?_,?_,H.VV,?_,?_,?_,?_,?_,fun p y h=>H.Bc p y (hd p y h).2,H.OY⟩
 ·intro r i v h; rw[PH]; exact H.JZ r i v h
 ·intro r es h
  have hne:r≠pl.r:=fun e=>by subst e; rw[H.HZ o x pl hf hpl] at h; cases h
  rw[Ji _ _ _ hne]; exact H.Dj r es h
 ·intro p y q h hq
  obtain⟨h1,h2⟩:=hd p y h
  exact (H.obj p y q h2 hq).world (Ji _ _ _ (H.sep p o y x q pl h2 hf hq hpl h1))
 ·intro p y q h hq; exact H.lo p y q (hd p y h).2 hq
 ·intro p r y z q s h1 h2 h3 h4; exact H.sep p r y z q s (hd p y h1).2 (hd r z h2).2 h3 h4
 ·intro p y q i h hq; exact H.MI p y q i (hd p y h).2 hq
 ·intro p y q h hq; exact H.HZ p y q (hd p y h).2 hq
theorem Sc {v:AV}{rv:Value}{b:UInt8}(h:Ae I μ v rv)(hb:byteOf v=some b):∃n:Int,rv=.int .u8 n/\UInt8.ofNat n.toNat=b:=by
 cases h with
 |int k n=>cases k <;> simp[byteOf] at hb; exact⟨n,rfl,hb⟩
 |_=>simp[byteOf] at hb
theorem Mt:∀{cs:List AV} {rvs:List Value} {l:List UInt8},Ah I μ cs rvs->bytesOf cs=some l->∃ns:List Int,rvs=ns.map (Value.int .u8)/\ns.map (fun n=>UInt8.ofNat n.toNat)=l
 |[],_,l,h,hb=>by cases h; cases hb; exact⟨[],rfl,rfl⟩
 |c::cs,_,l,h,hb=>by
  cases h with
  |cons _ rv _ rvs h t=>
  simp only[bytesOf] at hb
  split at hb
  ·rename_i b h1
   split at hb
   ·rename_i l' h2
    cases hb
    obtain⟨n,e1,e2⟩:=Sc h h1
    obtain⟨ns,e3,e4⟩:=Mt t h2
    exact⟨n::ns,by simp[e1,e3],by simp[e2,e4]⟩
   ·cases hb
  ·cases hb
theorem foldl_push:∀(ns:List Int) (s:ByteArray),ns.foldl (fun r n=>r.push (UInt8.ofNat n.toNat)) s=⟨⟨s.data.toList++ns.map fun n=>UInt8.ofNat n.toNat⟩⟩
 |[],s=>by simp
 |n::ns,s=>by
  simp only[List.foldl_cons,foldl_push ns]
  simp[ByteArray.push]
def kJ (P:Program)(src dst:TypeId):Bool:=
 match P.underlying src,P.underlying dst with
 |some (.slice e),some .string=>(match P.underlying e with|some (.int .u8)=>true|_=>false)
 |_,_=>false
theorem Xa (H:Ay base w0 I μ st w){src dst:TypeId}(ht:kJ P src dst=true){x v:AV}{rx:Value}{st':St}(hx:Ae I μ x rx)(h:IE x st=some (v,st')):st'=st/\∃rv,(convert src dst rx).run P w=.ok rv w/\Ae I μ v rv:=by
 unfold kJ at ht
 split at ht
 ·rename_i e hs hd
  split at ht
  ·rename_i he
   have key:∀n cs,lenOf x=some n->(∀s,x≠.str s)->Au st.h 1 n x=some cs->Df st ((bytesOf cs).map AV.str)=some (v,st') ->
    st'=st/\∃rv,(convert src dst rx).run P w=.ok rv w/\Ae I μ v rv:=by
    intro n cs hn hnot hc h
    unfold Df at h
    split at h
    ·rename_i u hu
     cases h
     obtain⟨l,h1,h2⟩:=Option.map_eq_some_iff.1 hu
     subst h2
     obtain⟨rvs,g1,g2,g3,g4⟩:=Jm (P:=P) H hx hc
     obtain⟨ns,e1,e2⟩:=Mt g2 h1
     refine⟨rfl,.string ⟨⟨l⟩⟩,?_,.str l⟩
     cases hx with
     |AB=>
      rw[run_convert_bytes_string w src dst e none 0 0 hs he hd]
      simp[lenOf] at hn
      subst hn
      simp only[Nat.zero_mul] at g4
      have:=List.eq_nil_of_length_eq_zero g4
      subst this
      have:ns=[]:=by simpa using e1.symm
      subst this
      simp at e2
      subst e2
      rfl
     |list tight sz xs r off cap rvs' hI h1' hs' hv hc' ht'=>
      simp[lenOf] at hn
      subst hn
      rw[run_convert_bytes_string w src dst e _ _ _ hs he hd]
      simp only[Builtin.firstCells,Nat.mul_one] at g1
      rw[e1] at g1
      rw[run_bytesToString w _ _ _ ns g1,foldl_push]
      simp[e2]
     |AU o off len cap pl a rcap hμ hz ha hl hc'=>
      simp[lenOf] at hn
      subst hn
      rw[run_convert_bytes_string w src dst e _ _ _ hs he hd]
      simp only[Builtin.firstCells,Nat.mul_one] at g1
      rw[e1] at g1
      rw[run_bytesToString w _ _ _ ns g1,foldl_push]
      simp[e2]
     |str s=>exact absurd rfl (hnot s)
     |_=>simp[lenOf] at hn
    ·cases h
   unfold IE at h
   split at h
   ·cases h
   ·rename_i hnot
    split at h
    ·rename_i n hn
     split at h
     ·rename_i cs hc
      exact key n cs hn hnot hc h
     ·cases h
    ·cases h
  ·cases ht
 ·cases ht
theorem eQ {f:Fn}{args:List AV}{first captured:List Value}(hv:Ah I μ args (first++captured)) :
 (Instr.makeFunc f first.toArray captured.toArray).run P w=.ok (.func f first.toArray captured.toArray) w/\Ae I μ (.fn f (args.take first.length) (args.drop first.length)) (.func f first.toArray captured.toArray):=by
 refine⟨by simp[Instr.makeFunc],?_⟩
 have h1:=hv.take first.length
 have h2:=hv.drop first.length
 simp at h1 h2
 exact .fn f _ _ _ _ h1 h2
end
end Go.Am
end
section
namespace Go.Am
open Go Go.RowKit
variable {P:Program}
section
variable {base:Nat}{w0:Start}{I:Cv}{μ:Mu}{st:St}{w:World}
theorem UG (H:Ay base w0 I μ st w){t:TypeId}{len e sz:Nat}(ht:Zm P t len e sz=true){lo hi:Bool}{x v:AV}{rx:Value}{l:List AV}{rl:List Value}{st':St}(hx:Ae I μ x rx)(hl:Ah I μ l rl)(h:Hm len sz lo hi (x::l) st=some (v,st')) :
 st'=st/\∃rlo rhi:Option Value,rl=rlo.toList++rhi.toList/\(lo=true↔rlo.isSome=true)/\(hi=true↔rhi.isSome=true) /\
  ∃rv,(Instr.sliceAt t rx rlo rhi none).run P w=.ok rv w/\Ae I μ v rv:=by
 obtain⟨hd,i,hi',hsz⟩:=YN ht
 cases hx with
 |AO o off pl hμ=>
  simp only[Hm] at h
  split at h
  ·rename_i a l1 h1
   obtain⟨rlo,rl1,e1,f1,o1,hl1⟩:=Hl hl h1
   split at h
   ·rename_i b h2
    obtain⟨rhi,rl2,e2,f2,o2,hl2⟩:=Hl hl1 h2
    cases hl2
    split at h
    ·rename_i ty sz' cs hf
     simp only[beq_eq,ble_eq,blt_eq,cond_eq_ite,Bool.and_eq_true,decide_eq_true_eq] at h
     split at h
     ·rename_i hb
      obtain⟨⟨⟨⟨g1,g2⟩,g3⟩,g4⟩,g5⟩:=hb
      cases h
      subst g1
      obtain⟨pl',c,fz,rvs,q1,hplsz,hn,he,hw,hbb,hfz,hvr,hone,hcc⟩:=H.cells hf hμ
      rw[hμ] at q1; cases q1
      refine⟨rfl,rlo,rhi,?_,f1,f2,?_⟩
      ·rw[e1,e2]
       cases lo <;> cases hi <;> simp at f1 f2 ⊢ <;> simp[f1,f2]
      ·have hsb:=JK (P:=P) (w:=w) (isSlice:=false) (len:=len) (cap:=len) o1 o2 (Jy.none (I:=I) (μ:=μ)) (by simp) (by simpa using g3) (by simpa using g4) (by simp)
       refine⟨.slice (some (if len=a.getD 0 then ⟨pl.r,pl.b+off,none⟩ else (⟨pl.r,pl.b+off,none⟩:Addr).add (a.getD 0*sz'))) (b.getD len-a.getD 0) (len-a.getD 0),?_,?_⟩
       ·simp only[Instr.sliceAt,Sem.run_bind,run_underlying hd,Result.andThen_ok,Instr.sureAddr,Sem.run_pure,CG hi',hsz]
        rw[hsb]
        simp[Result.andThen]
       ·refine .AU o _ _ _ pl _ _ hμ (by rw[hplsz]; exact g2) ⟨by split <;> simp[Cc],?_⟩ (by omega) ?_
        ·intro hpos
         rw[if_neg (by omega),Cc,Nat.add_assoc]
        ·refine⟨rfl,?_⟩
         rw[hplsz,hn,Nat.add_assoc,← Nat.add_mul]
         have:a.getD 0+(len-a.getD 0)=len:=by omega
         rw[this]; exact g5
     ·cases h
    ·cases h
   ·cases h
  ·cases h
 |_=>simp[Hm] at h
theorem YZ {ts:Array TypeId}{ty:TypeId}{x v:AV}{rx:Value}{st':St}(hx:Ae I μ x rx)(h:GJ x st=some (v,st')) :
 st'=st/\∃rv,(Builtin.unsafeSliceData_ ts ty #[rx]).run P w=.ok rv w/\Ae I μ v rv:=by
 cases hx with
 |AB=>simp[GJ] at h; obtain⟨h1,h2⟩:=h; subst h1 h2; exact⟨rfl,_,Lib.run_unsafeSliceData_nil w ts ty 0 0,.Ba⟩
 |AU o off len cap pl a rcap hμ hz ha hl hc=>
  simp only[GJ,blt_eq,cond_eq_ite,decide_eq_true_eq] at h
  split at h
  ·rename_i hpos
   cases h
   refine⟨rfl,_,Lib.run_unsafeSliceData_row w ts ty a len rcap (by omega),?_⟩
   rw[ha.2 (by omega)]
   exact .AO o off pl hμ
  ·cases h
 |_=>simp[GJ] at h
theorem XD {e:TypeId}(hc:P.cellsOf e=1)(count off n:Nat)(hn:off+n<=count):liesAt P P.depth e count off e n=true:=by
 have hd:P.depth=(2*(P.types.size+Made.depth)+1)+1:=rfl
 rw[hd]
 simp only[liesAt,Bool.or_eq_true]
 left
 rw[hd]
 simp[rowAt,hc,hn,sameLayout,Nat.mod_one]
theorem Un {e:TypeId}(hc:P.cellsOf e≠0)(count:Nat)(hn:1<=count):liesAt P P.depth e count 0 e 1=true:=by
 have hd:P.depth=(2*(P.types.size+Made.depth)+1)+1:=rfl
 rw[hd]
 simp only[liesAt,Bool.or_eq_true]
 left
 rw[hd]
 simp[rowAt,hc,hn,sameLayout]
def WJ (P:Program)(pt e:TypeId):Bool:=
 (match P.underlying pt with|some (.pointer e')=>Nat.beq e' e|_=>false)&&Nat.beq (P.cellsOf e) 1
theorem LU:∀(l:List Int) (a:Addr) (acc:ByteArray),(∀j x,l[j]? =some x->w.cell? (a.add j)=some (.int .u8 x)) ->
 (loadBytes a acc l.length).run P w=.ok ⟨⟨acc.data.toList++l.map fun n=>UInt8.ofNat n.toNat⟩⟩ w
 |[],a,acc,_=>by simp[loadBytes]
 |x::l,a,acc,h=>by
  have h0:w.cell? a=some (.int .u8 x):=by
   have:=h 0 x rfl
   simpa [Addr.add] using this
  have ih:=LU l (a.add 1) (acc.push x.toNat.toUInt8) (fun j y hy=>by
   have:=h (j+1) y (by simpa using hy)
   have e:(a.add 1).add j=a.add (j+1):=by
    unfold Addr.add
    by_cases hj:j=0
    ·subst hj; simp
    ·simp[hj]; omega
   rw[e]; exact this)
  simp only[List.length_cons,loadBytes,Sem.run_bind,run_load,h0,Result.andThen]
  rw[ih]
  simp[ByteArray.push]
theorem YY {pt it ty e:TypeId}(hp:P.underlying pt=some (.pointer e))(hc:P.cellsOf e=1)(g off cells:Nat)(hsh:w.shape? g=some (e,cells))(l:List Int)(h0:l≠[])(hn:off+l.length<=cells)(h63:l.length<=9223372036854775807)(hcell:∀j x,l[j]? =some x->w.cell? ((⟨g,off,none⟩:Addr).add j)=some (.int .u8 x))(k:IntKind) :
 (Builtin.unsafeString_ #[pt,it] ty #[.pointer (some ⟨g,off,none⟩),.int k l.length]).run P w=.ok (.string ⟨⟨l.map fun n=>UInt8.ofNat n.toNat⟩⟩) (w.freeze ⟨g,off,none⟩ l.length):=by
 have hl:l.length≠0:=by simpa using h0
 have hlb:=LU (P:=P) (w:=w) l ⟨g,off,none⟩ .empty hcell
 have hlies:=XD (P:=P) hc (cells / P.cellsOf e) off l.length (by rw[hc]; simpa using hn)
 have h63':¬(9223372036854775807:Int)<(l.length:Int):=by omega
 obtain⟨m1,hdef⟩:∃m1:String,Builtin.unsafeString_ #[pt,it] ty #[.pointer (some ⟨g,off,none⟩),.int k l.length] =
  (do
   let n ← asInt (.int k l.length)
   if n<0 then runtimePanic (.error m1)
   if n>IntKind.i64.max then unsupported (.unsafePointer "String: a length above the largest int")
   if n=0 then pure (.string .empty)
   else if ← variablesAt ⟨g,off,none⟩ (← elemOf pt) n.toNat then do
    let s ← loadBytes ⟨g,off,none⟩ .empty n.toNat
    freeze ⟨g,off,none⟩ n.toNat
    pure (.string s)
   else unsupported (.unsafePointer "String: not so many bytes at ptr")):=⟨_,rfl⟩
 rw[hdef]
 have hmax:IntKind.i64.max=9223372036854775807:=rfl
 have hneg:¬(l.length:Int)<0:=by omega
 simp[asInt,asIntOf,hmax,h63',hneg,hl,variablesAt,hsh,elemOf,run_underlying hp,hlies,hlb]
theorem Pt {pt it ty:TypeId}(p:Option Addr)(k:IntKind):(Builtin.unsafeString_ #[pt,it] ty #[.pointer p,.int k 0]).run P w=.ok (.string .empty) w:=by
 have hmax:IntKind.i64.max=9223372036854775807:=rfl
 cases p with
 |none=>
  obtain⟨m1,m2,hdef⟩:∃m1 m2:String,Builtin.unsafeString_ #[pt,it] ty #[.pointer none,.int k 0] =
   (do
    let n ← asInt (.int k 0)
    if n<0 then runtimePanic (.error m1)
    if n>IntKind.i64.max then unsupported (.unsafePointer "String: a length above the largest int")
    if n=0 then pure (.string .empty)
    else runtimePanic (.error m2)):=⟨_,_,rfl⟩
  rw[hdef]
  simp[asInt,asIntOf,hmax]
 |some a=>
  obtain⟨m1,hdef⟩:∃m1:String,Builtin.unsafeString_ #[pt,it] ty #[.pointer (some a),.int k 0] =
   (do
    let n ← asInt (.int k 0)
    if n<0 then runtimePanic (.error m1)
    if n>IntKind.i64.max then unsupported (.unsafePointer "String: a length above the largest int")
    if n=0 then pure (.string .empty)
    else if ← variablesAt a (← elemOf pt) n.toNat then do
     let s ← loadBytes a .empty n.toNat
     freeze a n.toNat
     pure (.string s)
    else unsupported (.unsafePointer "String: not so many bytes at ptr")):=⟨_,rfl⟩
  rw[hdef]
  simp[asInt,asIntOf,hmax]
theorem Tz (H:Ay base w0 I μ st w){pt it ty e:TypeId}(ht:WJ P pt e=true){p n v:AV}{rp rn:Value}{st':St}(hp:Ae I μ p rp)(hn:Ae I μ n rn)(h:GR e p n st=some (v,st')):Mw P base w0 I μ st w none (Builtin.unsafeString_ #[pt,it] ty #[rp,rn]) v st':=by
 unfold WJ at ht
 rw[Bool.and_eq_true] at ht
 obtain⟨ht1,ht2⟩:=ht
 have hce:=Nat.eq_of_beq_eq_true ht2
 split at ht1
 ·rename_i e' hpt
  have:=Nat.eq_of_beq_eq_true ht1
  subst this
  unfold GR at h
  split at h
  ·rename_i m hm
   obtain⟨k,rfl⟩:=JV hn hm
   simp only[beq_eq,blt_eq,ble_eq,cond_eq_ite,decide_eq_true_eq,Bool.or_eq_true,Bool.not_eq_true',decide_eq_false_iff_not,Bool.and_eq_true] at h
   split at h
   ·rename_i h0
    subst h0
    cases hp with
    |Ba=>simp at h; obtain⟨h1,h2⟩:=h; subst h1 h2; exact Mw.stay H (Pt none k) (.str [])
    |AO o off pl hμ=>simp at h; obtain⟨h1,h2⟩:=h; subst h1 h2; exact Mw.stay H (Pt _ k) (.str [])
    |_=>simp at h
   ·rename_i h0
    cases hp with
    |AO o off pl hμ=>
     simp only at h
     split at h
     ·cases h
     rename_i hc
     split at h
     ·rename_i ty' sz cs ext hf
      split at h
      ·rename_i hb
       obtain⟨hb1,hb2⟩:=hb
       subst hb1
       split at h
       ·rename_i l hl
        cases h
        obtain⟨pl',c,fz,rvs,q1,hplsz,hn',he,hw,hbb,hfz,hvr,hone,hcc⟩:=H.cells hf hμ
        rw[hμ] at q1; cases q1
        have hlr:=hvr.length
        obtain⟨ns,e1,e2⟩:=Mt ((hvr.drop off).take m) hl
        have hlen:l.length=m:=by
         rw[← e2,List.length_map]
         have:=congrArg List.length e1
         simp at this
         omega
        have hnl:ns.length=m:=by rw[← hlen,← e2]; simp
        have hfl:=Za H hf (by omega) hμ (pl.b+off) m
        have hroom:room=2 ^ 40:=rfl
        have hmr:m<=room:=by
         rcases Nat.lt_or_ge room m with h|h
         ·exact absurd (.inr (by omega)) hc
         ·exact h
        have hrun:=YY (P:=P) (w:=w) (pt:=pt) (it:=it) (ty:=ty) hpt hce pl.r (pl.b+off) c.size (by simp[World.shape?,hw]) ns (by intro h; subst h; simp at hnl; omega)
         (by rw[hnl]; unfold Pl.fin at hbb; omega) (by rw[hnl]; omega) (fun j x hj=>by
          have hj1:((rvs.drop off).take m)[j]? =some (.int .u8 x):=by rw[e1,List.getElem?_map,hj]; rfl
          rw[List.getElem?_take] at hj1
          split at hj1
          ·rw[List.getElem?_drop] at hj1
           obtain⟨q1,q2⟩:=List.getElem?_eq_some_iff.1 hj1
           rw[Cc,Cb hw,Nat.add_assoc,hcc _ q1,q2]
          ·cases hj1) k
        rw[hnl,e2] at hrun
        exact⟨_,_,μ,hrun,hfl,.str l,fun _ _ h=>h,fun _ _=>rfl,rfl,rfl⟩
       ·cases h
      ·cases h
     ·cases h
    |_=>simp at h
  ·cases h
 ·cases ht1
end
end Go.Am
end
section
namespace Go.Am
open Go Go.RowKit
variable {P:Program}
section
variable {base:Nat}{w0:Start}{I:Cv}{μ:Mu}{st:St}{w:World}
def WK (P:Program)(src dst:TypeId)(e n:Nat):Bool:=
 (match P.info? e with|some i=>!Nat.beq i.size 0|none=>false)&&Nat.beq (P.cellsOf e) n&&Nat.blt 0 n &&
 match P.underlying src,P.underlying dst with
 |some (.pointer t),some .unsafePointer=>Nat.beq t e
 |some .unsafePointer,some (.pointer u)=>Nat.beq u e
 |_,_=>false
theorem aH (H:Ay base w0 I μ st w){src dst e:TypeId}{n:Nat}(ht:WK P src dst e n=true){x v:AV}{rx:Value}{st':St}(hx:Ae I μ x rx)(h:Jc e n x st=some (v,st')) :
 st'=st/\∃rv,(convert src dst rx).run P w=.ok rv w/\Ae I μ v rv:=by
 unfold WK at ht
 simp only[Bool.and_eq_true] at ht
 obtain⟨⟨⟨ht1,ht2⟩,ht4⟩,ht3⟩:=ht
 have ht2:=Nat.eq_of_beq_eq_true ht2
 have hn0:0<n:=by rw[blt_eq] at ht4; simpa using ht4
 have hce:P.cellsOf e≠0:=by omega
 split at ht1
 ·rename_i i hi
  have hsz:i.size≠0:=fun q=>by rw[q] at ht1; cases ht1
  unfold Jc at h
  split at h
  ·cases h
   cases hx
   refine⟨rfl,_,?_,.Ba⟩
   split at ht3
   ·rename_i t hs hd
    simp[convert,run_underlying hs,run_underlying hd,Conv.unsafePointer,Result.andThen]
   ·rename_i u hs hd
    simp[convert,run_underlying hs,run_underlying hd,Conv.unsafePointer,Result.andThen]
   ·cases ht3
  ·rename_i o
   split at h
   ·rename_i ty' sz cs hf
    simp only[beq_eq,ble_eq,cond_eq_ite,Bool.and_eq_true,decide_eq_true_eq] at h
    split at h
    ·rename_i hb
     obtain⟨hb1,hb2⟩:=hb
     subst hb1
     cases h
     cases hx with
     |AO _ _ pl hμ=>
     obtain⟨pl',c,fz,rvs,q1,hplsz,hn,he,hw,hbb,hfz,hvr,hone,hcc⟩:=H.cells hf hμ
     rw[hμ] at q1; cases q1
     obtain⟨he1,he2⟩:=he rfl
     have hsh:w.shape? pl.r=some (ty',c.size):=by simp[World.shape?,hw]
     have hpos:0<c.size:=by unfold Pl.fin at hbb; omega
     refine⟨rfl,_,?_,.AO o 0 pl hμ⟩
     split at ht3
     ·rename_i t hs hd
      have:=Nat.eq_of_beq_eq_true ht3
      subst this
      exact Lib.run_to_unsafe (w:=w) ⟨pl.r,pl.b+0,none⟩ hs hd hi hsz hsh (by simp[he2]; exact hpos)
     ·rename_i u hs hd
      have:=Nat.eq_of_beq_eq_true ht3
      subst this
      have hdiv:1<=c.size / P.cellsOf u:=by
       rw[Nat.le_div_iff_mul_le (by omega)]
       unfold Pl.fin at hbb; omega
      exact Lib.run_from_unsafe (w:=w) ⟨pl.r,pl.b+0,none⟩ hs hd hi hsh (by simp only[he2]; exact Un hce _ hdiv)
     ·cases ht3
    ·cases h
   ·cases h
  ·cases h
 ·cases ht1
def pJ (P:Program)(t:TypeId)(ts:List (Nat × CK)):Bool:=
 (match P.underlying t with|some (.interface _)=>true|_=>false)&&ts.all fun p=>dV P p.1 p.2&&(match P.info? p.1 with|some i=>i.comparable|none=>false)
theorem gG {ts:List (Nat × CK)}{t:Nat}{c:CK}(h:bu ts t=some c):(t,c)∈ts:=by
 induction ts with
 |nil=>simp[bu] at h
 |cons q ts ih=>
  obtain⟨u,d⟩:=q
  simp only[bu,beq_eq,cond_eq_ite,decide_eq_true_eq] at h
  split at h
  ·rename_i e; subst e; cases h; simp
  ·exact List.mem_cons_of_mem _ (ih h)
theorem fe (n:Nat){t:TypeId}{m:Array (String × TypeId)}(hd:P.underlying t=some (.interface m)){u v:TypeId}(hne:u≠v)(a b:Value):(Op.equalIn (n+1) t (.iface u a) (.iface v b)).run P w=.ok false w:=by
 simp[Op.equalIn,run_underlying hd,Result.andThen,hne]
theorem fZ (n:Nat){t:TypeId}{m:Array (String × TypeId)}(hd:P.underlying t=some (.interface m)){u:TypeId}{i:TypeInfo}(hi:P.info? u=some i)(hc:i.comparable=true)(a b:Value) :
 (Op.equalIn (n+1) t (.iface u a) (.iface u b)).run P w=(Op.equalIn n u a b).run P w:=by
 simp[Op.equalIn,run_underlying hd,Result.andThen,typeInfo,hi,hc]
theorem fG {t:TypeId}{X Y:Operand}{ts:List (Nat × CK)}(ht:pJ P t ts=true){neg:Bool}{x y v:AV}{rx ry:Value}{st':St}(hx:Ae I μ x rx)(hy:Ae I μ y ry)(hs:QN neg ts x y st=some (v,st')) :
 st'=st/\∃rv,(do eqGuard (if neg then .neq else .eql) t X Y rx ry; Go.binOp (if neg then .neq else .eql) t rx ry:Sem Value).run P w=.ok rv w/\Ae I μ v rv:=by
 unfold pJ at ht
 rw[Bool.and_eq_true] at ht
 obtain⟨ht1,ht2⟩:=ht
 split at ht1
 ·rename_i ms hd
  have fin:∀e,Iz rx ry=true->(Op.equal t rx ry).run P w=.ok e w->∃rv,(do eqGuard (if neg then .neq else .eql) t X Y rx ry; Go.binOp (if neg then .neq else .eql) t rx ry:Sem Value).run P w=.ok rv w/\Ae I μ (.bool (e !=neg)) rv:=by
   intro e h1 h3
   exact⟨.bool (e !=neg),by simp only[Sem.run_bind,PD h1,Result.andThen,PN h1,h3],.bool _⟩
  have hfalse:∀b:Bool,(AV.bool b)=.bool (false !=b):=fun b=>by cases b <;> rfl
  unfold QN at hs
  cases hx with
  |Cs=>
   cases hy with
   |iface u y ry hy=>
    simp at hs
    obtain⟨h1,h2⟩:=hs
    subst h1 h2
    refine⟨rfl,?_⟩
    rw[hfalse]
    exact fin false rfl (YG 9999 hd _ _)
   |_=>simp at hs
  |iface tx x rx hx=>
   cases hy with
   |Cs=>
    simp at hs
    obtain⟨h1,h2⟩:=hs
    subst h1 h2
    refine⟨rfl,?_⟩
    rw[hfalse]
    exact fin false rfl (YF 9999 hd _ _)
   |iface ty y ry hy=>
    simp only[beq_eq,cond_eq_ite,decide_eq_true_eq] at hs
    split at hs
    ·rename_i e
     subst e
     split at hs
     ·rename_i c hc
      split at hs
      ·rename_i e he
       simp at hs
       obtain⟨h1,h2⟩:=hs
       subst h1 h2
       refine⟨rfl,fin e rfl ?_⟩
       have hm:=List.all_eq_true.1 ht2 _ (gG hc)
       simp only[Bool.and_eq_true] at hm
       obtain⟨hm1,hm2⟩:=hm
       split at hm2
       ·rename_i i hi
        have h3:=Tc (w:=w) hm1 hx hy he 9998
        exact (fZ 9999 hd hi hm2 _ _).trans h3
       ·cases hm2
      ·cases hs
     ·cases hs
    ·rename_i hne
     simp at hs
     obtain⟨h1,h2⟩:=hs
     subst h1 h2
     refine⟨rfl,?_⟩
     rw[hfalse]
     exact fin false rfl (fe 9999 hd hne _ _)
   |_=>simp at hs
  |_=>simp at hs
 ·cases ht1
end
end Go.Am
end
section
namespace Go.Am
open Go Go.RowKit
variable {P:Program}
section
variable {base:Nat}{w0:Start}{I:Cv}{μ:Mu}{st:St}{w:World}
theorem XO (H:Ay base w0 I μ st w){o ty sz:Nat}{cs:List AV}{ext:Bool}(hf:AA st.h o=some (.cells ty sz cs ext)){pl:Pl}(hpl:μ o=some pl){c:Array Value}(hw:w.heap[pl.r]? =some (.cells c ty (0,0)))(hb:base<=pl.r){k:Nat}(hk:pl.fin<=k):Ay base w0 I μ st (w.freeze ⟨pl.r,k,none⟩ 1):=by
 have hnew:(w.freeze ⟨pl.r,k,none⟩ 1).heap[pl.r]? =some (.cells c ty (k,k+1)):=by
  simp[World.freeze,Array.getElem?_modify,hw]
 refine⟨Lib.below_freeze H.below hb 1,by rw[PG]; exact H.Tx,?_,?_,H.VV,?_,H.lo,H.sep,H.MI,H.HZ,H.Bc,H.OY⟩
 ·intro r i v h; rw[PH]; exact H.JZ r i v h
 ·intro r es h
  have hne:r≠pl.r:=fun e=>by subst e; rw[H.HZ o _ pl hf hpl] at h; cases h
  rw[Ji _ _ _ hne]; exact H.Dj r es h
 ·intro p y q h hq
  by_cases e:p=o
  ·subst e
   rw[hf] at h; cases h
   rw[hpl] at hq; cases hq
   have:=H.obj p _ pl hf hpl
   cases this with
   |cells _ _ _ _ c' fz rvs hsz hn he hw' hb' hfz hv h1 hc=>
    rw[hw] at hw'
    injection hw' with hw'; injection hw' with e1 e2 e3
    subst e1
    exact .cells ty sz cs ext c (k,k+1) rvs hsz hn he hnew hb' (fun i h1 h2=>by simp only; omega) hv h1 hc
  ·exact (H.obj p y q h hq).world (Ji _ _ _ (H.sep p o y _ q pl h hf hq hpl e))
def jA (P:Program)(src dst:TypeId)(e:Nat):Bool:=
 match P.underlying src,P.underlying dst with
 |some .string,some (.slice e')=>Nat.beq e' e&&(match P.underlying e with|some (.int .u8)=>true|_=>false)
 |_,_=>false
theorem ZF (l:List UInt8):One (l.map fun (b:UInt8)=>Value.int .u8 b.toNat):=fun v hv=>by
 obtain⟨b,_,h⟩:=List.mem_map.1 hv
 rw[← h]; rfl
theorem Qt (H:Ay base w0 I μ st w){src dst:TypeId}{e:Nat}(ht:jA P src dst e=true){x v:AV}{rx:Value}{o:Nat}{ob:Al}(hx:Ae I μ x rx)(h:Nu o e x=some (v,ob))(hf:AA st.h o=some ob)(hμ:μ o=none)(ho:o<st.c):Mw P base w0 I μ st w (some o) (convert src dst rx) v st:=by
 unfold jA at ht
 split at ht
 ·rename_i e' hs hd
  rw[Bool.and_eq_true] at ht
  have:=Nat.eq_of_beq_eq_true ht.1
  subst this
  have ht:=ht.2
  split at ht
  ·rename_i he
   unfold Nu at h
   cases hx with
   |str l=>
    simp only[ble_eq,cond_eq_ite,decide_eq_true_eq] at h
    split at h
    ·rename_i hle
     cases h
     have hroom:room=2 ^ 40:=rfl
     rw[hroom] at hle
     let cap:=l.length+w.tape w.drawn (.appendCap l.length 0 e') % (2 ^ 63-l.length)
     have hcap:l.length<=cap:=Nat.le_add_right _ _
     have b1:=PL (I:=I) (μ:=μ) l
     have b2:=ZF l
     have hbl:=b1.length
     obtain⟨r1,r2⟩:=QI (P:=P) H.drew (rest:=List.replicate (cap-l.length) (Value.int .u8 0)) hf b1 b2 (fun h=>by cases h) hμ ho
     have hnew:(w.drew.alloc (.cells ((l.map fun (b:UInt8)=>Value.int .u8 b.toNat)++List.replicate (cap-l.length) (Value.int .u8 0)).toArray e')).heap[w.heap.size]? =some (.cells ((l.map fun (b:UInt8)=>Value.int .u8 b.toNat)++List.replicate (cap-l.length) (Value.int .u8 0)).toArray e' (0,0)):=
      World.FH w.drew _
     have hpl:Cu μ o ⟨w.heap.size,0,(Ch l).length,(List.replicate (cap-l.length) (Value.int .u8 0)).length,1⟩ o=some ⟨w.heap.size,0,(Ch l).length,(List.replicate (cap-l.length) (Value.int .u8 0)).length,1⟩:=by simp[Cu]
     have H3:=XO r2 hf hpl hnew H.Tx (k:=cap) (by simp[Pl.fin,hbl]; omega)
     refine⟨.slice (some ⟨w.heap.size,0,none⟩) l.length cap,_,_,?_,H3,?_,Dn hμ,fun p hp=>?_,rfl,rfl⟩
     ·have hforced:(Question.appendCap l.length 0 e').forced=false:=rfl
      have e1:((⟨⟨l⟩⟩:ByteArray).data.map fun (b:UInt8)=>Value.int .u8 b.toNat)++Array.replicate (cap-l.length) (Value.int .u8 0)=((l.map fun (b:UInt8)=>Value.int .u8 b.toNat)++List.replicate (cap-l.length) (Value.int .u8 0)).toArray:=by simp
      have hsz:((l.map fun (b:UInt8)=>Value.int .u8 b.toNat)++List.replicate (cap-l.length) (Value.int .u8 0)).toArray.size=cap:=by simp; omega
      simp only[convert,Sem.run_bind,run_underlying hs,run_underlying hd,run_underlying he,Result.andThen_ok,Conv.stringToBytes,run_choose,hforced,Bool.false_eq_true,if_false,size_mk,Question.cut]
      rw[e1]
      have r1':(newRow e' ((l.map fun (b:UInt8)=>Value.int .u8 b.toNat)++List.replicate (cap-l.length) (Value.int .u8 0)).toArray).run P { w with drawn:=w.drawn+1 }=_:=r1
      rw[r1']
      simp only[Result.andThen_ok,markStringish,Sem.run_bind,run_shape]
      have hsh:(w.drew.alloc (.cells ((l.map fun (b:UInt8)=>Value.int .u8 b.toNat)++List.replicate (cap-l.length) (Value.int .u8 0)).toArray e')).shape? w.heap.size=some (e',cap):=by
       simp only[World.shape?,hnew,hsz]
      have hsize:w.drew.heap.size=w.heap.size:=rfl
      rw[hsize,hsh]
      rfl
     ·refine .AU o 0 l.length none _ _ cap hpl (by simp) ⟨rfl,by intro _; simp⟩ hcap ?_
      refine⟨by simp,?_⟩
      simp[hbl]; omega
     ·have:p≠o:=fun e=>hp (by rw[e])
      simp[Cu,this]
    ·cases h
   |_=>simp at h
  ·cases ht
 ·cases ht
theorem get_mk! (l:List UInt8)(i:Nat):(⟨⟨l⟩⟩:ByteArray)[i]! =l[i]?.getD default:=by
 rw[getElem!_def,getElem_mk]
 cases l[i]? <;> rfl
theorem find_range {l:List UInt8}(q:UInt8->Bool):(List.range l.length).find? (fun i=>q (l[i]?.getD default))=l.findIdx? q:=by
 induction l with
 |nil=>rfl
 |cons b l ih=>
  rw[List.length_cons,List.range_succ_eq_map,List.find?_cons,List.findIdx?_cons]
  simp only[List.getElem?_cons_zero,Option.getD_some]
  cases q b with
  |true=>rfl
  |false=>
   simp only[Bool.false_eq_true,if_false]
   rw[← ih,List.find?_map]
   rfl
def cmpL:List UInt8->List UInt8->Int
 |[],[]=>0
 |[],_::_=>-1
 |_::_,[]=>1
 |x::a,y::b=>if x==y then cmpL a b else if x<y then -1 else 1
theorem cmpL_eq:∀a b:List UInt8,cmpL a b=if a==b then 0 else if Op.bytesLess a b then -1 else 1
 |[],[]=>rfl
 |[],_::_=>rfl
 |_::_,[]=>rfl
 |x::a,y::b=>by
  simp only[cmpL,cmpL_eq a b,Op.bytesLess]
  by_cases h:x=y
  ·subst h; simp
  ·simp[h]
theorem bn:∀a b:List UInt8,Extern.BytealgCompare.cmp ⟨⟨a⟩⟩ ⟨⟨b⟩⟩=cmpL a b
 |[],b=>by
  unfold Extern.BytealgCompare.cmp
  simp only[size_mk,List.length_nil,Nat.zero_min,List.range_zero,List.find?_nil]
  cases b <;> simp[cmpL]
 |a::x,[]=>by
  unfold Extern.BytealgCompare.cmp
  simp[size_mk,cmpL]
 |x::a,y::b=>by
  have ih:=bn a b
  unfold Extern.BytealgCompare.cmp at ih ⊢
  simp only[size_mk,get_mk!,List.length_cons] at ih ⊢
  rw[Nat.succ_min_succ,List.range_succ_eq_map,List.find?_cons]
  simp only[List.getElem?_cons_zero,Option.getD_some,cmpL]
  by_cases h:x=y
  ·subst h
   simp only[bne_self_eq_false,beq_self_eq_true,if_true,← ih]
   rw[List.find?_map]
   simp only[Function.comp_def,List.getElem?_cons_succ]
   cases h2:(List.range (min a.length b.length)).find? fun i=>a[i]?.getD default !=b[i]?.getD default with
   |none=>simp
   |some i=>simp
  ·have hb:(x !=y)=true:=by simp[h]
   have hb2:(x==y)=false:=by simp[h]
   simp[hb,hb2]
def YB:Ext->Array Value->Sem Value
 |.same=>Extern.AbiNoEscape.same
 |.indexByte=>Extern.BytealgIndexByte.indexByte
 |.compare=>Extern.BytealgCompare.compare
theorem Az {l:List AV}{f:AV->R}{r:AV × St}(h:FJ l f=some r):∃x,l=[x]/\f x=some r:=by
 unfold FJ at h; split at h
 ·exact⟨_,rfl,h⟩
 ·cases h
theorem BM {l:List AV}{f:AV->AV->R}{r:AV × St}(h:GD l f=some r):∃x y,l=[x,y]/\f x y=some r:=by
 unfold GD at h; split at h
 ·exact⟨_,_,rfl,h⟩
 ·cases h
theorem Ff {l:List AV}{f:AV->AV->AV->R}{r:AV × St}(h:RA l f=some r):∃x y z,l=[x,y,z]/\f x y z=some r:=by
 unfold RA at h; split at h
 ·exact⟨_,_,_,rfl,h⟩
 ·cases h
theorem Ah.one {x:AV}{rl:List Value}(h:Ah I μ [x] rl):∃rx,rl=[rx]/\Ae I μ x rx:=by
 cases h with|cons _ rx _ _ hx ht=>cases ht; exact⟨rx,rfl,hx⟩
theorem Ah.two {x y:AV}{rl:List Value}(h:Ah I μ [x,y] rl):∃rx ry,rl=[rx,ry]/\Ae I μ x rx/\Ae I μ y ry:=by
 cases h with|cons _ rx _ _ hx ht=>obtain⟨ry,rfl,hy⟩:=ht.one; exact⟨rx,ry,rfl,hx,hy⟩
theorem Ah.three {x y z:AV}{rl:List Value}(h:Ah I μ [x,y,z] rl):∃rx ry rz,rl=[rx,ry,rz]/\Ae I μ x rx/\Ae I μ y ry/\Ae I μ z rz:=by
 cases h with|cons _ rx _ _ hx ht=>obtain⟨ry,rz,rfl,hy,hz⟩:=ht.two; exact⟨rx,ry,rz,rfl,hx,hy,hz⟩
theorem kD {e:Ext}{args:List AV}{rargs:List Value}{v:AV}{st':St}(ha:Ah I μ args rargs)(h:UY e args st=some (v,st')) :
 st'=st/\∃rv,(YB e rargs.toArray).run P w=.ok rv w/\Ae I μ v rv:=by
 cases e with
 |same=>
  obtain⟨x,rfl,h⟩:=Az (show FJ args (fun x=>some (x,st))=_ from h)
  obtain⟨rx,rfl,hx⟩:=ha.one
  cases h
  exact⟨rfl,rx,rfl,hx⟩
 |indexByte=>
  obtain⟨x,y,e0,g⟩:=BM h; subst e0; clear h; have h:=g
  obtain⟨rx,ry,rfl,hx,hy⟩:=ha.two
  unfold Dc at h
  cases hx with
  |str l=>
   simp only at h
   split at h
   ·rename_i c hc
    cases h
    obtain⟨n,e1,e2⟩:=Sc hy hc
    subst e1
    refine⟨rfl,_,?_,.int _ _⟩
    have hfr:=find_range (l:=l) (fun b=>b==c)
    have hn:n.toNat.toUInt8=c:=e2
    have hdef:YB .indexByte [Value.string ⟨⟨l⟩⟩,.int .u8 n].toArray=(do
     let b ← pure (⟨⟨l⟩⟩:ByteArray)
     let c ← pure n.toNat.toUInt8
     match (List.range b.size).find? fun i=>b[i]! ==c with
     |some i=>pure (goInt i)
     |none=>pure (goInt (-1))):=rfl
    rw[hdef]
    simp only[Sem.run_bind,Sem.run_pure,Result.andThen_ok,size_mk,get_mk!,hn]
    rw[hfr]
    cases l.findIdx? fun b=>b==c <;> rfl
   ·cases h
  |_=>simp at h
 |compare=>
  obtain⟨x,y,e0,g⟩:=BM h; subst e0; clear h; have h:=g
  obtain⟨rx,ry,rfl,hx,hy⟩:=ha.two
  unfold JA at h
  cases hx with
  |str a=>
   cases hy with
   |str b=>
    simp only at h
    cases h
    refine⟨rfl,_,?_,.int _ _⟩
    have:=bn a b
    rw[cmpL_eq] at this
    have hdef:YB .compare [Value.string ⟨⟨a⟩⟩,.string ⟨⟨b⟩⟩].toArray=(do
     let a ← pure (⟨⟨a⟩⟩:ByteArray)
     let b ← pure (⟨⟨b⟩⟩:ByteArray)
     pure (goInt (Extern.BytealgCompare.cmp a b))):=rfl
    rw[hdef]
    simp only[Sem.run_bind,Sem.run_pure,Result.andThen_ok,this]
    rfl
   |_=>simp at h
  |_=>simp at h
end
end Go.Am
end
