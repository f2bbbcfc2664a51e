/- A part of the proof of beginningsTold (merged by a program). -/
import Derived.Test.YtehhlchbbdaipaaGreatDoorB1
namespace Go.Am
open Go
def Fg (g:AX)(F:List Nat)(N:List Bool)(M:List Nat)(r:Ba)(i:Nat):Nat:=
 if (fo F N ((r.right.drop (i+1)).map g.ix)).2=true then (fo F N ((r.right.drop (i+1)).map g.ix)).1 ||| M.getD (g.ix r.left) 0 else (fo F N ((r.right.drop (i+1)).map g.ix)).1
def Ho (g:AX)(F:List Nat)(N:List Bool)(B:List Bool)(r:Ba)(i:Nat):Bool:=(fo F N ((r.right.drop (i+1)).map g.ix)).2&&B.getD (g.ix r.left) false
def Tc (g:AX)(F:List Nat)(N:List Bool)(M:List Nat)(B:List Bool)(r:Ba)(i:Nat):Prop:=VA M B (g.ix (r.right.getD i [])) (Fg g F N M r i) (Ho g F N B r i)
structure NM (g:AX)(M:List Nat)(B:List Bool):Prop where
 m:∀s∈g.names,∀j,(M.getD (g.ix s) 0).testBit j=true->∃hj:j<g.kinds.length,Mc g g.kinds[j] s
 b:∀s∈g.names,B.getD (g.ix s) false=true->Pp g s
def wQ (n:Nat):List (Nat × Nat):=(List.range n).flatMap fun x=>(List.range 65).map fun j=>(x,j)
def Vw (n:Nat)(M:List Nat)(B:List Bool):Nat:=(wQ n).countP fun p=>if p.2=64 then !B.getD p.1 false else !(M.getD p.1 0).testBit p.2
theorem nA (n:Nat)(M:List Nat)(B:List Bool):Vw n M B<=n*65:=by
 have:∀R:List Nat,(R.flatMap fun x=>(List.range 65).map fun j=>(x,j)).length=R.length*65:=by
  intro R
  induction R with
  |nil=>rfl
  |cons r R ih=>rw[List.flatMap_cons,List.length_append,ih,List.length_cons,Nat.succ_mul]; simp; omega
 have h:=this (List.range n)
 rw[List.length_range] at h
 exact Nat.le_trans List.countP_le_length (Nat.le_of_eq h)
theorem mE {n:Nat}{M M':List Nat}{B B':List Bool}(hM:RJ M M')(hB:∀x,B.getD x false=true->B'.getD x false=true){s:Nat}(hs:s<n)(h:(∃j,j<64/\(M.getD s 0).testBit j=false/\(M'.getD s 0).testBit j=true)∨(B.getD s false=false/\B'.getD s false=true)):Vw n M' B'<Vw n M B:=by
 have sub:∀p∈wQ n,(if p.2=64 then !B'.getD p.1 false else !(M'.getD p.1 0).testBit p.2)=true->(if p.2=64 then !B.getD p.1 false else !(M.getD p.1 0).testBit p.2)=true:=fun p _ hp=>by
  split at hp
  ·rename_i e
   rw[if_pos e]
   cases hb:B.getD p.1 false with
   |true=>rw[hB _ hb] at hp; cases hp
   |false=>rfl
  ·rename_i e
   rw[if_neg e]
   cases hb:(M.getD p.1 0).testBit p.2 with
   |true=>rw[hM _ _ hb] at hp; cases hp
   |false=>rfl
 have mem:∀j,j<65->(s,j)∈wQ n:=fun j hj=>List.mem_flatMap.2 ⟨s,List.mem_range.2 hs,List.mem_map.2 ⟨j,List.mem_range.2 hj,rfl⟩⟩
 rcases h with⟨j,hj,h1,h2⟩|⟨h1,h2⟩
 ·refine Jk sub (mem j (by omega)) ?_ ?_
  ·show (if j=64 then _ else _)=false
   rw[if_neg (by omega),h2]; rfl
  ·show (if j=64 then _ else _)=true
   rw[if_neg (by omega),h1]; rfl
 ·refine Jk sub (mem 64 (by omega)) ?_ ?_
  ·show (if 64=64 then _ else _)=false
   rw[if_pos rfl,h2]; rfl
  ·show (if 64=64 then _ else _)=true
   rw[if_pos rfl,h1]; rfl
structure PW (g:AX)(F:List Nat)(N:List Bool)(M0:List Nat)(B0:List Bool)(D:Ba->Nat->Prop)(M:List Nat)(B:List Bool)(more:Bool):Prop where
 sound:NM g M B
 gm:RJ M0 M
 gb:∀x,B0.getD x false=true->B.getD x false=true
 vQ:(more=true/\Vw g.names.length M B<Vw g.names.length M0 B0)∨(more=false/\M=M0/\B=B0/\∀r i,D r i->Tc g F N M0 B0 r i)
section
variable {g:AX}{F:List Nat}{N:List Bool}{M0:List Nat}{B0:List Bool}{D D':Ba->Nat->Prop}{M:List Nat}{B:List Bool}{more:Bool}
theorem PW.same (H:PW g F N M0 B0 D M B more){r:Ba}{i:Nat}(h:Tc g F N M B r i)(hD:∀r' i',D' r' i'->D r' i'∨(r'=r/\i'=i)):PW g F N M0 B0 D' M B more:=by
 refine⟨H.sound,H.gm,H.gb,?_⟩
 rcases H.vQ with h1|⟨h1,h2,h3,h4⟩
 ·exact .inl h1
 ·refine .inr ⟨h1,h2,h3,fun r' i' hd=>?_⟩
  rcases hD r' i' hd with h5|⟨rfl,rfl⟩
  ·exact h4 r' i' h5
  ·subst h2 h3; exact h
theorem PW.sub (H:PW g F N M0 B0 D M B more)(hD:∀r' i',D' r' i'->D r' i'):PW g F N M0 B0 D' M B more:=
 ⟨H.sound,H.gm,H.gb,H.vQ.imp id fun⟨h1,h2,h3,h4⟩=>⟨h1,h2,h3,fun r i h=>h4 r i (hD r i h)⟩⟩
theorem Rl {l:List Aj}{i:Nat}(h:i<l.length):l.getD i []=l[i]:=by simp[List.getD,h]
theorem iK {l:List Aj}{i:Nat}(h:i<l.length):l=l.take i++l[i]::l.drop (i+1):=by
 rw[← List.drop_eq_getElem_cons h,List.take_append_drop]
theorem PW.add (H:PW g F N M0 B0 D M B more)(hok:g.Ok)(hN:Ke g N)(hE:KN g F)(hn:Io F)(hnM:Io M)(hlM:M.length=g.names.length)(hlB:B.length=g.names.length){r:Ba}{i:Nat}(hr:r∈g.rules)(hR:Reach g r.left)(hi:i<r.right.length)(h:¬Tc g F N M B r i) :
 PW g F N M0 B0 D' (M.set (g.ix (r.right.getD i [])) (M.getD (g.ix (r.right.getD i [])) 0 ||| Fg g F N M r i)) (B.set (g.ix (r.right.getD i [])) (B.getD (g.ix (r.right.getD i [])) false||Ho g F N B r i)) true:=by
 obtain⟨x,hx⟩:∃x,x=r.right.getD i []:=⟨_,rfl⟩
 unfold Tc at h
 rw[← hx] at h ⊢
 have hxr:x∈r.right:=by rw[hx,Rl hi]; exact List.getElem_mem hi
 have hxn:=AX.FK hok hr hxr
 have hsx:=Rj hxn
 have hsplit:r.right=r.right.take i++x::r.right.drop (i+1):=by rw[hx,Rl hi]; exact iK hi
 have hdn:∀s∈r.right.drop (i+1),s∈g.names:=fun s hs=>AX.FK hok hr (List.mem_of_mem_drop hs)
 have hfo:=TG hN hE hdn
 have hnu:=Rm (F:=F) hN hdn
 have hln:=AX.Ch hr
 have hpm:∀j,(Fg g F N M r i).testBit j=true->∃hj:j<g.kinds.length,Mc g g.kinds[j] x:=fun j hj=>by
  unfold Fg at hj
  split at hj
  ·rename_i he
   rw[Nat.testBit_or,Bool.or_eq_true] at hj
   rcases hj with hj|hj
   ·obtain⟨q,hb⟩:=(hfo j).1 hj
    exact⟨q,.here hr hR hsplit hb⟩
   ·obtain⟨q,hb⟩:=H.sound.m _ hln j hj
    exact⟨q,.up hr hR hsplit (hnu.1 he) hb⟩
  ·obtain⟨q,hb⟩:=(hfo j).1 hj
   exact⟨q,.here hr hR hsplit hb⟩
 have hpe:Ho g F N B r i=true->Pp g x:=fun he=>by
  unfold Ho at he
  rw[Bool.and_eq_true] at he
  exact .up hr hR hsplit (hnu.1 he.1) (H.sound.b _ hln he.2)
 have hpl:Fg g F N M r i<2 ^ 64:=by
  unfold Fg; split
  ·exact Nat.or_lt_two_pow (Uh hn _) (hnM _)
  ·exact Uh hn _
 have gM:RJ M (M.set (g.ix x) (M.getD (g.ix x) 0 ||| Fg g F N M r i)):=fun y j hy=>by
  rw[KC (by omega)]; split
  ·rename_i e; subst e; rw[Nat.testBit_or,hy]; rfl
  ·exact hy
 have gB:∀y,B.getD y false=true->(B.set (g.ix x) (B.getD (g.ix x) false||Ho g F N B r i)).getD y false=true:=fun y hy=>by
  rw[DT (by omega)]; split
  ·rename_i e; subst e; rw[hy]; rfl
  ·exact hy
 have same:∀s∈g.names,g.ix s=g.ix x->s=x:=fun s hs e=>by
  obtain⟨q1,q2⟩:=DF hs
  obtain⟨q3,q4⟩:=DF hxn
  have e':GY s g.names=GY x g.names:=e
  rw[← q2,← q4]; simp only[e']
 refine⟨⟨fun s hs j hj=>?_,fun s hs hb=>?_⟩,fun y j hy=>gM y j (H.gm y j hy),fun y hy=>gB y (H.gb y hy),.inl ⟨rfl,?_⟩⟩
 ·rw[KC (by omega)] at hj
  split at hj
  ·rename_i e
   have:=same s hs e; subst this
   rw[Nat.testBit_or,Bool.or_eq_true] at hj
   rcases hj with hj|hj
   ·exact H.sound.m _ hs j hj
   ·exact hpm j hj
  ·exact H.sound.m _ hs j hj
 ·rw[DT (by omega)] at hb
  split at hb
  ·rename_i e
   have:=same s hs e; subst this
   rw[Bool.or_eq_true] at hb
   rcases hb with hb|hb
   ·exact H.sound.b _ hs hb
   ·exact hpe hb
  ·exact H.sound.b _ hs hb
 ·have lt:Vw g.names.length (M.set (g.ix x) (M.getD (g.ix x) 0 ||| Fg g F N M r i)) (B.set (g.ix x) (B.getD (g.ix x) false||Ho g F N B r i))<Vw g.names.length M B:=by
   refine mE gM gB hsx ?_
   by_cases h1:∀j,(Fg g F N M r i).testBit j=true->(M.getD (g.ix x) 0).testBit j=true
   ·right
    rw[DT (by omega),if_pos rfl]
    have h2:¬(Ho g F N B r i=true->B.getD (g.ix x) false=true):=fun h3=>h ⟨h1,h3⟩
    cases hb:B.getD (g.ix x) false with
    |true=>exact absurd (fun _=>hb) h2
    |false=>
     cases he:Ho g F N B r i with
     |true=>exact⟨rfl,rfl⟩
     |false=>rw[he] at h2; exact absurd (fun h=>by cases h) h2
   ·left
    have:∃j,(Fg g F N M r i).testBit j=true/\(M.getD (g.ix x) 0).testBit j=false:=by
     refine Classical.byContradiction fun hcon=>h1 fun j hj=>?_
     cases hb:(M.getD (g.ix x) 0).testBit j with
     |true=>rfl
     |false=>exact absurd ⟨j,hj,hb⟩ hcon
    obtain⟨j,hj1,hj2⟩:=this
    exact⟨j,Uv hpl hj1,hj2,by rw[KC (by omega),if_pos rfl,Nat.testBit_or,hj1,Bool.or_true]⟩
  rcases H.vQ with⟨_,h2⟩|⟨_,h2,h3,_⟩
  ·omega
  ·rw[← h2,← h3]; exact lt
set_option maxHeartbeats 4000000 in
theorem Tw {k:Nat}{fw nw w a0 a6 a46 a47 a48:AV}{rb:Nat}{lvl:AV}(hs:g.Small)(hok:g.Ok)(hfw:BI fw 1 (Ci F))(hFl:F.length=g.names.length)(hn:Io F)(hE:KN g F)(hnw:BI nw 1 (BJ N))(hNl:N.length=g.names.length)(hN:Ke g N){r:Ba}(hr:r∈g.rules)(hR:Reach g r.left)(e2:BI w 1 (ints (r.right.map g.ix)))(hrb:1<rb)(D:Ba->Nat->Prop)(st:St)(hrc:rb<st.c)(hf:AA st.h rb=some (.cells 160 3 [.int .i64 (g.ix r.left:Nat),w,lvl] false))(H:FW g.names.length M B st)(HP:PW g F N M0 B0 D M B more)(ts0:TS)(z0:ts0.get 0=a0)(z4:ts0.get 4=nw)(z5:ts0.get 5=fw)(z6:ts0.get 6=a6)(z7:ts0.get 7=.AQ 0 0 g.names.length (some g.names.length))(z8:ts0.get 8=.AQ 1 0 g.names.length (some g.names.length))(z9:ts0.get 9=.bool more)(z11:ts0.get 11=.AO rb 0)(z46:ts0.get 46=a46)(z47:ts0.get 47=a47)(z48:ts0.get 48=a48)(z59:ts0.get 59=w)(z60:ts0.get 60=.int .i64 (r.right.length:Int))(z61:ts0.get 61=.int .i64 ((0:Nat):Int)) :
 (CJ (Ar E (AU E (k+1)) C.f89L2) E.k ts0 st).to fun x=>x.1=.exit 4/\x.2.1.get 0=a0/\x.2.1.get 4=nw/\x.2.1.get 5=fw/\x.2.1.get 6=a6/\x.2.1.get 7=.AQ 0 0 g.names.length (some g.names.length)/\x.2.1.get 8=.AQ 1 0 g.names.length (some g.names.length)/\x.2.1.get 46=a46/\x.2.1.get 47=a47/\x.2.1.get 48=a48 /\
  ∃M' B' more',x.2.1.get 9=.bool more'/\FW g.names.length M' B' x.2.2/\PW g F N M0 B0 (fun r' i'=>D r' i'∨(r'=r/\i'<r.right.length)) M' B' more':=by
 have hsr:=(hs.rules _ hr).right
 rw[Zy]
 refine DU (fun (i:Nat) ts st=>i<=r.right.length/\ts.get 0=a0/\ts.get 4=nw/\ts.get 5=fw/\ts.get 6=a6/\ts.get 7=.AQ 0 0 g.names.length (some g.names.length)/\ts.get 8=.AQ 1 0 g.names.length (some g.names.length)/\ts.get 11=.AO rb 0/\ts.get 46=a46/\ts.get 47=a47/\ts.get 48=a48/\ts.get 59=w/\ts.get 60=.int .i64 (r.right.length:Int)/\ts.get 61=.int .i64 (i:Int) /\
  rb<st.c/\AA st.h rb=some (.cells 160 3 [.int .i64 (g.ix r.left:Nat),w,lvl] false)/\∃M' B' more',ts.get 9=.bool more'/\FW g.names.length M' B' st/\PW g F N M0 B0 (fun r' i'=>D r' i'∨(r'=r/\i'<i)) M' B' more')
  (fun i=>r.right.length-i) (fun e ts st=>e=.exit 4/\ts.get 0=a0/\ts.get 4=nw/\ts.get 5=fw/\ts.get 6=a6/\ts.get 7=.AQ 0 0 g.names.length (some g.names.length)/\ts.get 8=.AQ 1 0 g.names.length (some g.names.length)/\ts.get 46=a46/\ts.get 47=a47/\ts.get 48=a48 /\
   ∃M' B' more',ts.get 9=.bool more'/\FW g.names.length M' B' st/\PW g F N M0 B0 (fun r' i'=>D r' i'∨(r'=r/\i'<r.right.length)) M' B' more') ?_ _ 0 _ _ ?_ ?_
 ·clear z0 z4 z5 z6 z7 z8 z9 z11 z46 z47 z48 z59 z60 z61 H HP hf hrc st
  rintro i ts st ⟨hi,z0,z4,z5,z6,z7,z8,z11,z46,z47,z48,z59,z60,z61,hrc,hf,M,B,more,z9,H,HP⟩
  by_cases Au:i<r.right.length
  ·obtain⟨x,hx⟩:∃x,x=r.right.getD i []:=⟨_,rfl⟩
   have hxr:x∈r.right:=by rw[hx,Rl Au]; exact List.getElem_mem Au
   have hxn:=AX.FK hok hr hxr
   have hsx:=Rj hxn
   have hlx:=Rj (AX.Ch hr)
   have ixw:Aa 1 w (.int .i64 (i:Int)) st=some (.BC [.int .i64 (g.ix x:Nat)],st):=by
    rw[e2.jX (by simpa using Au)]
    simp only[List.getElem_map,hx,Rl Au]
   have r1:AP st.h (.AO rb 1)=some w:=by rw[AB hf]; rfl
   have r0:AP st.h (.AO rb 0)=some (.int .i64 (g.ix r.left:Nat)):=by rw[AB hf]; rfl
   obtain⟨w',s1,s2⟩:=e2.from_ (st:=st) (i:=i+1) (by simp; omega)
   have hsl:CF 1 true false false [w,.int .i64 ((i:Int)+1)] st=some (w',st):=by rw[show ((i:Int)+1)=((i+1:Nat):Int) by omega]; exact s1
   have hdr:(ints (r.right.map g.ix)).drop (i+1)=ints ((r.right.drop (i+1)).map g.ix):=by simp[ints,List.map_drop]
   rw[hdr] at s2
   have hfo:=NC (k:=k) (n:=g.names.length) (fv:=fw) (nv:=nw) (lv:=w') (F:=F) (N:=N) (l:=(r.right.drop (i+1)).map g.ix) (st:=st) (hFl ▸ Rd.Ci hfw) (hNl ▸ Rd.BJ hnw) (Rd.ints s2) (fun y hy=>by
    obtain⟨q,hq,rfl⟩:=List.mem_map.1 hy
    exact Rj (AX.FK hok hr (List.mem_of_mem_drop hq))) hn (by simp; omega)
   obtain⟨m,hm⟩:∃m,m=(fo F N ((r.right.drop (i+1)).map g.ix)).1:=⟨_,rfl⟩
   obtain⟨b,hbb⟩:∃b,b=(fo F N ((r.right.drop (i+1)).map g.ix)).2:=⟨_,rfl⟩
   have hm64:m<2 ^ 64:=by rw[hm]; exact Uh hn _
   have hpm:Fg g F N M r i=if b=true then m ||| M.getD (g.ix r.left) 0 else m:=by unfold Fg; rw[← hm,← hbb]
   have hpe:Ho g F N B r i=(b&&B.getD (g.ix r.left) false):=by unfold Ho; rw[← hbb]
   rw[← hm,← hbb] at hfo
   have hlm:=H.lm
   have hlb:=H.lb
   obtain⟨h,c,lo⟩:=st
   have ixM:=Gc (st:=⟨h,c,lo⟩) (n:=g.names.length) (cap:=some g.names.length) H.o0 hlx
   have ixB:=Gc (st:=⟨h,c,lo⟩) (n:=g.names.length) (cap:=some g.names.length) H.o1 hlx
   have rM:AP h (.AO 0 (g.ix r.left))=some (.int .u64 ((M.getD (g.ix r.left) 0:Nat):Int)):=by rw[AB H.o0,masks_get? _ _ (by omega)]
   have rB:AP h (.AO 1 (g.ix r.left))=some (.bool (B.getD (g.ix r.left) false)):=by rw[AB H.o1,bools_get? _ _ (by omega)]
   have hor:=Re hm64 (H.nw (g.ix r.left))
   have after:∀(y:Hd × TS × St),(y.1=.normal/\y.2.1.get 0=a0/\y.2.1.get 4=nw/\y.2.1.get 5=fw/\y.2.1.get 6=a6/\y.2.1.get 11=.AO rb 0/\y.2.1.get 46=a46/\y.2.1.get 47=a47/\y.2.1.get 48=a48/\y.2.1.get 59=w/\y.2.1.get 60=.int .i64 (r.right.length:Int)/\y.2.1.get 61=.int .i64 (i:Int) /\
    y.2.1.get 7=.AQ 0 0 g.names.length (some g.names.length)/\y.2.1.get 8=.AQ 1 0 g.names.length (some g.names.length)/\((VA M B (g.ix x) (Fg g F N M r i) (Ho g F N B r i)/\y.2.1.get 9=.bool more/\y.2.2=⟨h,c,lo⟩)∨(¬VA M B (g.ix x) (Fg g F N M r i) (Ho g F N B r i)/\y.2.1.get 9=.bool true/\FW g.names.length (M.set (g.ix x) (M.getD (g.ix x) 0 ||| Fg g F N M r i)) (B.set (g.ix x) (B.getD (g.ix x) false||Ho g F N B r i)) y.2.2/\y.2.2.c=c/\∀p,1<p->AA y.2.2.h p=AA h p))) ->
    y.1=.normal/\y.2.1.get 0=a0/\y.2.1.get 4=nw/\y.2.1.get 5=fw/\y.2.1.get 6=a6/\y.2.1.get 7=.AQ 0 0 g.names.length (some g.names.length)/\y.2.1.get 8=.AQ 1 0 g.names.length (some g.names.length)/\y.2.1.get 11=.AO rb 0/\y.2.1.get 46=a46/\y.2.1.get 47=a47/\y.2.1.get 48=a48/\y.2.1.get 59=w/\y.2.1.get 60=.int .i64 (r.right.length:Int)/\y.2.1.get 61=.int .i64 (i:Int) /\
    rb<y.2.2.c/\AA y.2.2.h rb=some (.cells 160 3 [.int .i64 (g.ix r.left:Nat),w,lvl] false)/\∃M' B' more',y.2.1.get 9=.bool more'/\FW g.names.length M' B' y.2.2/\PW g F N M0 B0 (fun r' i'=>D r' i'∨(r'=r/\i'<i+1)) M' B' more':=by
    rintro y ⟨y1,y0,y4,y5,y6,y11,y46,y47,y48,y59,y60,y61,y7,y8,hy⟩
    refine⟨y1,y0,y4,y5,y6,y7,y8,y11,y46,y47,y48,y59,y60,y61,?_⟩
    rcases hy with⟨h1,h2,h3⟩|⟨h1,h2,h3,h4,h5⟩
    ·refine⟨by rw[h3]; exact hrc,by rw[h3]; exact hf,M,B,more,h2,by rw[h3]; exact H,HP.same (r:=r) (i:=i) (by unfold Tc; rw[← hx]; exact h1) fun r' i' hd=>?_⟩
     rcases hd with hd|⟨rfl,hd⟩
     ·exact .inl (.inl hd)
     ·rcases Nat.lt_or_ge i' i with q|q
      ·exact .inl (.inr ⟨rfl,q⟩)
      ·exact .inr ⟨rfl,by omega⟩
    ·have A:=HP.add (D':=fun r' i'=>D r' i'∨(r'=r/\i'<i+1)) hok hN hE hn H.nw hlm hlb hr hR Au (by unfold Tc; rw[← hx]; exact h1)
     rw[← hx] at A
     exact⟨by rw[h4]; exact hrc,(h5 rb hrb).trans hf,_,_,true,h2,h3,A⟩
   have hm2:Fg g F N M r i<2 ^ 64:=by
    rw[hpm]; split
    ·exact Nat.or_lt_two_pow hm64 (H.nw _)
    ·exact hm64
   obtain⟨pm,hpm'⟩:∃pm,pm=Fg g F N M r i:=⟨_,rfl⟩
   obtain⟨pe,hpe'⟩:∃pe,pe=Ho g F N B r i:=⟨_,rfl⟩
   rw[← hpm'] at hpm hm2 after
   rw[← hpe'] at hpe after
   have Pv:=jk (k:=k+1) (e:=pe) (more:=more) H hsx hm2 a0 nw fw a6 (.AO rb 0) a46 a47 a48 w (.int .i64 (r.right.length:Int)) (.int .i64 (i:Int))
   obtain⟨P,hP⟩:∃P:Hd × TS × St->Prop,P=fun y=>match y.1 with
    |.normal=>∃b,r.right.length-b<r.right.length-i/\(b<=r.right.length/\y.2.1.get 0=a0/\y.2.1.get 4=nw/\y.2.1.get 5=fw/\y.2.1.get 6=a6/\y.2.1.get 7=.AQ 0 0 g.names.length (some g.names.length)/\y.2.1.get 8=.AQ 1 0 g.names.length (some g.names.length)/\y.2.1.get 11=.AO rb 0/\y.2.1.get 46=a46/\y.2.1.get 47=a47/\y.2.1.get 48=a48/\y.2.1.get 59=w/\y.2.1.get 60=.int .i64 (r.right.length:Int)/\y.2.1.get 61=.int .i64 (b:Int) /\
     rb<y.2.2.c/\AA y.2.2.h rb=some (.cells 160 3 [.int .i64 (g.ix r.left:Nat),w,lvl] false)/\∃M' B' more',y.2.1.get 9=.bool more'/\FW g.names.length M' B' y.2.2/\PW g F N M0 B0 (fun r' i'=>D r' i'∨(r'=r/\i'<b)) M' B' more')
    |e=>e=.exit 4/\y.2.1.get 0=a0/\y.2.1.get 4=nw/\y.2.1.get 5=fw/\y.2.1.get 6=a6/\y.2.1.get 7=.AQ 0 0 g.names.length (some g.names.length)/\y.2.1.get 8=.AQ 1 0 g.names.length (some g.names.length)/\y.2.1.get 46=a46/\y.2.1.get 47=a47/\y.2.1.get 48=a48 /\
     ∃M' B' more',y.2.1.get 9=.bool more'/\FW g.names.length M' B' y.2.2/\PW g F N M0 B0 (fun r' i'=>D r' i'∨(r'=r/\i'<r.right.length)) M' B' more':=⟨_,rfl⟩
   refine Go.Am.M.VG (R:=P) ?_ (fun y hy=>by rw[hP] at hy; exact hy)
   cases hb2:b with
   |true=>
    rw[hb2] at hfo hpm hpe
    rw[if_pos rfl] at hpm
    rw[Bool.true_and] at hpe
    rw[← hpm] at hor
    rw[← hpe] at rB
    simp[-Bool.exists_bool,-List.getD_eq_getElem?_getD,z0,z4,z5,z6,z7,z8,z9,z11,z46,z47,z48,z59,z60,z61,Au,ixw,r1,r0,hsl,hfo,ixM,ixB,rM,rB,hor,wi i]
    refine Go.Am.M.Al (Pv _ (by simp[z0]) (by simp[z4]) (by simp[z5]) (by simp[z6]) (by simp[z11]) (by simp[z46]) (by simp[z47]) (by simp[z48]) (by simp[z59]) (by simp[z60]) (by simp[z61]) (by simp[z7]) (by simp[z8]) (by simp[z9]) (by simp) (by simp) (by simp)) fun y hy=>?_
    obtain⟨ee,ts1,st1⟩:=y
    obtain⟨y1,y0,y4,y5,y6,y7,y8,y11,y46,y47,y48,y59,y60,y61,hc1,hf1,M',B',more',y9,H',HP'⟩:=after _ hy
    simp only at y1 y0 y4 y5 y6 y7 y8 y11 y46 y47 y48 y59 y60 y61 hc1 hf1 y9 H'
    subst y1
    simp[-Bool.exists_bool,y61,wi i]
    rw[hP]
    exact⟨i+1,by omega,by omega,by simp[y0],by simp[y4],by simp[y5],by simp[y6],by simp[y7],by simp[y8],by simp[y11],by simp[y46],by simp[y47],by simp[y48],by simp[y59],by simp[y60],by simp,hc1,hf1,M',B',more',by simp[y9],H',HP'⟩
   |false=>
    rw[hb2] at hfo hpm hpe
    rw[if_neg (by simp)] at hpm
    rw[Bool.false_and] at hpe
    subst hpe
    simp[-Bool.exists_bool,-List.getD_eq_getElem?_getD,z0,z4,z5,z6,z7,z8,z9,z11,z46,z47,z48,z59,z60,z61,Au,ixw,r1,r0,hsl,hfo,wi i]
    refine Go.Am.M.Al (Pv _ (by simp[z0]) (by simp[z4]) (by simp[z5]) (by simp[z6]) (by simp[z11]) (by simp[z46]) (by simp[z47]) (by simp[z48]) (by simp[z59]) (by simp[z60]) (by simp[z61]) (by simp[z7]) (by simp[z8]) (by simp[z9]) (by simp) (by simp[hpm]) (by simp)) fun y hy=>?_
    obtain⟨ee,ts1,st1⟩:=y
    obtain⟨y1,y0,y4,y5,y6,y7,y8,y11,y46,y47,y48,y59,y60,y61,hc1,hf1,M',B',more',y9,H',HP'⟩:=after _ hy
    simp only at y1 y0 y4 y5 y6 y7 y8 y11 y46 y47 y48 y59 y60 y61 hc1 hf1 y9 H'
    subst y1
    simp[-Bool.exists_bool,y61,wi i]
    rw[hP]
    exact⟨i+1,by omega,by omega,by simp[y0],by simp[y4],by simp[y5],by simp[y6],by simp[y7],by simp[y8],by simp[y11],by simp[y46],by simp[y47],by simp[y48],by simp[y59],by simp[y60],by simp,hc1,hf1,M',B',more',by simp[y9],H',HP'⟩
  ·have:i=r.right.length:=by omega
   subst this
   simp[-Bool.exists_bool,z0,z4,z5,z6,z7,z8,z11,z46,z47,z48,z59,z60,z61]
   exact⟨M,B,more,z9,H,HP⟩
 ·show r.right.length-0<1000000; omega
 ·exact⟨by omega,z0,z4,z5,z6,z7,z8,z11,z46,z47,z48,z59,z60,z61,hrc,hf,M,B,more,z9,H,HP.sub fun r' i' h=>by
   rcases h with h|⟨_,h⟩
   ·exact h
   ·omega⟩
end
section
variable {cv fw nw rw':AV}{g:AX}{F:List Nat}{N RB:List Bool}
def wm (g:AX)(j:Nat)(r:Ba)(i:Nat):Prop:=∃q,∃h:q<g.rules.length,q<j/\g.rules[q]=r/\Reach g r.left/\i<r.right.length
def Whole (g:AX)(r:Ba)(i:Nat):Prop:=r∈g.rules/\Reach g r.left/\i<r.right.length
set_option maxHeartbeats 4000000 in
theorem Tu {k:Nat}(hs:g.Small)(hok:g.Ok)(hfw:BI fw 1 (Ci F))(hFl:F.length=g.names.length)(hn:Io F)(hE:KN g F)(hnw:BI nw 1 (BJ N))(hNl:N.length=g.names.length)(hN:Ke g N)(hrw:BI rw' 1 (BJ RB))(hRl:RB.length=g.names.length)(hRB:∀s,s∈g.names->(RB.getD (g.ix s) false=true↔Reach g s))(rv:AV)(lr:List AV)(h2:BI rv 3 lr)(h3:lr.length=g.rules.length)(h4:∀j (hj:j<g.rules.length),∃w,lr[j]?=some (.agg [.int .i64 (g.ix g.rules[j].left:Nat),w,.int .i64 g.rules[j].level])/\BI w 1 (ints (g.rules[j].right.map g.ix))){M0:List Nat}{B0:List Bool}(st:St)(H:FW g.names.length M0 B0 st)(HS:NM g M0 B0)(ts0:TS)(z0:ts0.get 0=cv)(z4:ts0.get 4=nw)(z5:ts0.get 5=fw)(z6:ts0.get 6=rw')(z7:ts0.get 7=.AQ 0 0 g.names.length (some g.names.length))(z8:ts0.get 8=.AQ 1 0 g.names.length (some g.names.length))(z9:ts0.get 9=.bool false)(z46:ts0.get 46=rv)(z47:ts0.get 47=.int .i64 (g.rules.length:Int))(z48:ts0.get 48=.int .i64 ((0:Nat):Int)) :
 (CJ (Ar E (AU E (k+1)) C.f89L1) E.k ts0 st).to fun x=>x.1=.exit 2/\x.2.1.get 0=cv/\x.2.1.get 4=nw/\x.2.1.get 5=fw/\x.2.1.get 6=rw'/\x.2.1.get 7=.AQ 0 0 g.names.length (some g.names.length)/\x.2.1.get 8=.AQ 1 0 g.names.length (some g.names.length) /\
  ∃M B more,x.2.1.get 9=.bool more/\FW g.names.length M B x.2.2/\PW g F N M0 B0 (Whole g) M B more:=by
 have hmany:=hs.many
 refine Be (fun (j:Nat) ts st=>j<=g.rules.length/\ts.get 0=cv/\ts.get 4=nw/\ts.get 5=fw/\ts.get 6=rw'/\ts.get 7=.AQ 0 0 g.names.length (some g.names.length)/\ts.get 8=.AQ 1 0 g.names.length (some g.names.length)/\ts.get 46=rv/\ts.get 47=.int .i64 (g.rules.length:Int)/\ts.get 48=.int .i64 (j:Int) /\
  ∃M B more,ts.get 9=.bool more/\FW g.names.length M B st/\PW g F N M0 B0 (wm g j) M B more)
  (fun j=>g.rules.length-j) ?_ _ 0 _ _ ?_ ?_
 ·clear z0 z4 z5 z6 z7 z8 z9 z46 z47 z48 H st
  rintro j ts st ⟨hj,z0,z4,z5,z6,z7,z8,z46,z47,z48,M,B,more,z9,H,HP⟩
  by_cases Au:j<g.rules.length
  ·have hil:j<lr.length:=by omega
   obtain⟨w,e1,e2⟩:=h4 j Au
   rw[List.getElem?_eq_getElem hil,Option.some.injEq] at e1
   have hmem:=List.getElem_mem Au
   have hsr:=(hs.rules _ hmem).right
   obtain⟨h,c,lo⟩:=st
   have hlo:lo=0:=H.lo
   subst hlo
   have hc1:1<c:=H.c
   have hb':∀p x,(p,x)∈h->p<c:=H.hb
   obtain⟨sI,hsI⟩:∃s,s=g.ix g.rules[j].left:=⟨_,rfl⟩
   have hsn:sI<g.names.length:=hsI ▸ Rj (AX.Ch hmem)
   obtain⟨rc,hrc⟩:∃rc:List AV,rc=[.int .i64 (g.ix g.rules[j].left:Nat),w,.int .i64 g.rules[j].level]:=⟨_,rfl⟩
   have H1:=H.new (.cells 160 3 rc false)
   obtain⟨h',hh'⟩:∃h':Af,h'=(c,Ai.cells 160 3 rc false)::h:=⟨_,rfl⟩
   rw[← hh'] at H1
   have hix:Aa 3 rv (.int .i64 (j:Int)) ⟨h,c+1,0⟩=some (.BC lr[j].cells,⟨h,c+1,0⟩):=h2.idx hil
   have hcells:lr[j].cells=rc:=by rw[e1,hrc]; rfl
   rw[hcells] at hix
   have hn':newObj c (.cells 160 3 [.int .i64 0,.AJ,.int .i64 0] false) ⟨h,c+1,0⟩=some ⟨(c,.cells 160 3 [.int .i64 0,.AJ,.int .i64 0] false)::h,c+1,0⟩:=Ac hb'
   have hst:=CO (h:=h) (c:=c) (c':=c+1) (lo:=0) (ty:=160) (n:=3) (zs:=[.int .i64 0,.AJ,.int .i64 0]) (vs:=rc) (by omega) (by rw[hrc]; rfl) rfl
   rw[← hh'] at hst
   have hrd3:AZ h (.BC rc) 3=some rc:=by rw[hrc]; rfl
   have fc:AA h' c=some (.cells 160 3 rc false):=by rw[hh',AL,if_pos rfl]
   have fc':AA h' c=some (.cells 160 3 [.int .i64 (g.ix g.rules[j].left:Nat),w,.int .i64 g.rules[j].level] false):=by rw[fc,hrc]
   have rc0:AP h' (.AO c 0)=some (.int .i64 (sI:Int)):=by rw[AB fc,hrc,hsI]; rfl
   have rc1:AP h' (.AO c 1)=some w:=by rw[AB fc,hrc]; rfl
   have ixR:Aa 1 rw' (.int .i64 (sI:Int)) ⟨h',c+1,0⟩=some (.BC [.bool (RB.getD sI false)],⟨h',c+1,0⟩):=by
    rw[hrw.idx (by simp; omega)]; simp[BJ,AV.cells,List.getD,show sI<RB.length by omega]
   have hRs:=hRB _ (AX.Ch hmem)
   rw[← hsI] at hRs
   have hlr:BO .slice w ⟨h',c+1,0⟩=some (.int .i64 (g.rules[j].right.length:Int),⟨h',c+1,0⟩):=by have:=e2.len (st:=⟨h',c+1,0⟩); simpa using this
   cases hb:RB.getD sI false with
   |false=>
    rw[hb] at ixR hRs
    have hnR:¬Reach g g.rules[j].left:=fun h=>by have:=hRs.2 h; cases this
    simp[-Bool.exists_bool,C.f89L1,z0,z4,z5,z6,z7,z8,z9,z46,z47,z48,Au,hix,-Aw,hrd3,hn',hst,rc0,rc1,ixR,wi j]
    refine⟨j+1,by omega,by omega,by simp,M,B,H1,HP.sub fun r i h=>?_⟩
    obtain⟨q,hq,hqj,e,h5,h6⟩:=h
    refine⟨q,hq,?_,e,h5,h6⟩
    rcases Nat.lt_or_ge q j with h7|h7
    ·exact h7
    ·have:q=j:=by omega
     subst this; subst e; exact absurd h5 hnR
   |true=>
    rw[hb] at ixR hRs
    have hR:Reach g g.rules[j].left:=hRs.1 rfl
    have inner:=Tw (k:=k) (a0:=cv) (a6:=rw') (a46:=rv) (a47:=.int .i64 (g.rules.length:Int)) (a48:=.int .i64 (j:Int)) hs hok hfw hFl hn hE hnw hNl hN hmem hR e2 (rb:=c) hc1 _ ⟨h',c+1,0⟩ (by show c<c+1; omega) fc' H1 HP
    simp[-Bool.exists_bool,C.f89L1,z0,z4,z5,z6,z7,z8,z9,z46,z47,z48,Au,hix,-Aw,hrd3,hn',hst,rc0,rc1,ixR,hlr]
    refine Go.Am.M.Al (inner _ (by simp[z0]) (by simp[z4]) (by simp[z5]) (by simp[z6]) (by simp[z7]) (by simp[z8]) (by simp[z9]) (by simp) (by simp[z46]) (by simp[z47]) (by simp[z48]) (by simp) (by simp) (by simp)) fun x hx=>?_
    obtain⟨e,ts1,st1⟩:=x
    obtain⟨ee,g0,g4,g5,g6,g7,g8,g46,g47,g48,M',B',more',g9,H',HP'⟩:=hx
    simp only at ee g0 g4 g5 g6 g7 g8 g46 g47 g48 g9 H'
    subst ee
    simp[-Bool.exists_bool,g0,g4,g5,g6,g7,g8,g46,g47,g48,g9,wi j]
    refine⟨j+1,by omega,by omega,by simp,M',B',H',HP'.sub fun r i h=>?_⟩
    obtain⟨q,hq,hqj,e,h5,h6⟩:=h
    rcases Nat.lt_or_ge q j with h7|h7
    ·exact .inl ⟨q,hq,h7,e,h5,h6⟩
    ·have:q=j:=by omega
     subst this; exact .inr ⟨e.symm,by rw[e]; exact h6⟩
  ·have:j=g.rules.length:=by omega
   subst this
   simp[-Bool.exists_bool,C.f89L1,z0,z4,z5,z6,z7,z8,z9,z46,z47,z48]
   refine⟨M,B,H,HP.sub fun r i h=>?_⟩
   obtain⟨h1,h5,h6⟩:=h
   obtain⟨q,hq,e⟩:=List.getElem_of_mem h1
   exact⟨q,hq,hq,e,h5,h6⟩
 ·show g.rules.length-0<1000000; omega
 ·exact⟨by omega,z0,z4,z5,z6,z7,z8,z46,z47,z48,M0,B0,false,z9,H,HS,fun _ _ h=>h,fun _ h=>h,.inr ⟨rfl,rfl,rfl,fun r i ⟨q,_,h,_⟩=>by omega⟩⟩
def Rt (g:AX)(F:List Nat)(N:List Bool)(M:List Nat)(B:List Bool):Prop:=∀r∈g.rules,Reach g r.left->∀i,i<r.right.length->Tc g F N M B r i
theorem aX {a b l:List Aj}{s:Aj}(e:l=a++s::b):a.length<l.length/\l.getD a.length []=s/\l.drop (a.length+1)=b:=by
 subst e
 refine⟨by simp,by simp[List.getD],?_⟩
 rw[List.drop_append]; simp
theorem qE (hok:g.Ok)(hN:Ke g N)(hE:KN g F){M:List Nat}{B:List Bool}(hS:NM g M B)(h0:B.getD (g.ix g.start) false=true)(hc:Rt g F N M B) :
 (∀s∈g.names,∀j,(M.getD (g.ix s) 0).testBit j=true↔∃hj:j<g.kinds.length,Mc g g.kinds[j] s)/\∀s∈g.names,(B.getD (g.ix s) false=true↔Pp g s):=by
 have hdn:∀{r:Ba} {a b:List Aj} {s:Aj},r∈g.rules->r.right=a++s::b->∀y∈b,y∈g.names:=fun hr e y hy=>AX.FK hok hr (by rw[e]; exact List.mem_append.2 (.inr (List.mem_cons_of_mem _ hy)))
 constructor
 ·intro s hs j
  refine⟨hS.m s hs j,?_⟩
  rintro⟨hj,hf⟩
  obtain⟨kd,hkd⟩:∃kd,kd=g.kinds[j]:=⟨_,rfl⟩
  rw[← hkd] at hf
  induction hf with
  |@here r a b s hr hR e h=>
   obtain⟨q1,q2,q3⟩:=aX e
   have:=(hc r hr hR a.length q1).1 j
   rw[q2] at this
   refine this ?_
   unfold Fg
   rw[q3]
   have hb:=(TG hN hE (hdn hr e) j).2 ⟨hj,hkd ▸ h⟩
   split
   ·rw[Nat.testBit_or,hb]; rfl
   ·exact hb
  |@up r a b s hr hR e hb h ih=>
   obtain⟨q1,q2,q3⟩:=aX e
   have:=(hc r hr hR a.length q1).1 j
   rw[q2] at this
   refine this ?_
   unfold Fg
   rw[q3,if_pos ((Rm (F:=F) hN (hdn hr e)).2 hb),Nat.testBit_or,ih (AX.Ch hr),Bool.or_true]
 ·intro s hs
  refine⟨hS.b s hs,fun h=>?_⟩
  induction h with
  |start=>exact h0
  |@up r a b s hr hR e hb h ih=>
   obtain⟨q1,q2,q3⟩:=aX e
   have:=(hc r hr hR a.length q1).2
   rw[q2] at this
   refine this ?_
   unfold Ho
   rw[q3,(Rm (F:=F) hN (hdn hr e)).2 hb,ih (AX.Ch hr)]; rfl
set_option maxHeartbeats 2000000 in
theorem Tv {k:Nat}(hC:FC cv g)(hs:g.Small)(hok:g.Ok)(hfw:BI fw 1 (Ci F))(hFl:F.length=g.names.length)(hn:Io F)(hE:KN g F)(hnw:BI nw 1 (BJ N))(hNl:N.length=g.names.length)(hN:Ke g N)(hrw:BI rw' 1 (BJ RB))(hRl:RB.length=g.names.length)(hRB:∀s,s∈g.names->(RB.getD (g.ix s) false=true↔Reach g s)){M0:List Nat}{B0:List Bool}(st:St)(H:FW g.names.length M0 B0 st)(HS:NM g M0 B0)(h0:B0.getD (g.ix g.start) false=true)(ts0:TS)(z0:ts0.get 0=cv)(z4:ts0.get 4=nw)(z5:ts0.get 5=fw)(z6:ts0.get 6=rw')(z7:ts0.get 7=.AQ 0 0 g.names.length (some g.names.length))(z8:ts0.get 8=.AQ 1 0 g.names.length (some g.names.length))(z9:ts0.get 9=.bool true) :
 (CJ (Ar E (AU E (k+1)) C.f89L0) E.k ts0 st).to fun x=>x.1=.exit 0/\x.2.1.get 7=.AQ 0 0 g.names.length (some g.names.length)/\x.2.1.get 8=.AQ 1 0 g.names.length (some g.names.length) /\
  ∃M B,FW g.names.length M B x.2.2/\NM g M B/\B.getD (g.ix g.start) false=true/\Rt g F N M B:=by
 have hnl:=AX.DD hs
 have hcl:=nA g.names.length M0 B0
 obtain⟨nn,rv,ov,lr,lo,e0,h1,h2,h3,h4,h5,h6,h7⟩:=hC.out
 have hlr:∀S':St,BO .slice rv S'=some (.int .i64 (g.rules.length:Int),S'):=fun S'=>by have:=h2.len (st:=S'); rw[this,h3]
 refine Be (fun (a:Nat) ts st=>ts.get 0=cv/\ts.get 4=nw/\ts.get 5=fw/\ts.get 6=rw'/\ts.get 7=.AQ 0 0 g.names.length (some g.names.length)/\ts.get 8=.AQ 1 0 g.names.length (some g.names.length) /\
  ∃M B more,ts.get 9=.bool more/\FW g.names.length M B st/\NM g M B/\B.getD (g.ix g.start) false=true/\((more=true/\Vw g.names.length M B<a)∨(more=false/\Rt g F N M B)))
  (fun a=>a) ?_ _ (g.names.length*65+1) _ _ ?_ ?_
 ·clear z0 z4 z5 z6 z7 z8 z9 H HS h0 st hcl
  rintro a ts st ⟨z0,z4,z5,z6,z7,z8,M,B,more,z9,H,HS,h0,hw⟩
  rcases hw with⟨rfl,Au⟩|⟨rfl,hcl⟩
  ·have rules:=Tu (k:=k) (cv:=cv) hs hok hfw hFl hn hE hnw hNl hN hrw hRl hRB rv lr h2 h3 h4 st H HS
   have z0':=z0
   rw[e0] at z0'
   simp[-Bool.exists_bool,-List.getD_eq_getElem?_getD,C.f89L0,z0',z4,z5,z6,z7,z8,z9,hlr]
   refine Go.Am.M.Al (rules _ (by simp[z0]) (by simp[z4]) (by simp[z5]) (by simp[z6]) (by simp[z7]) (by simp[z8]) (by simp) (by simp) (by simp) (by simp)) fun x hx=>?_
   obtain⟨e,ts1,st1⟩:=x
   obtain⟨ee,g0,g4,g5,g6,g7,g8,M',B',more',g9,H',HP'⟩:=hx
   simp only at ee g0 g4 g5 g6 g7 g8 g9 H'
   subst ee
   simp[-Bool.exists_bool,-List.getD_eq_getElem?_getD,g0,g4,g5,g6,g7,g8,g9]
   refine⟨Vw g.names.length M B,Au,M',B',H',HP'.sound,HP'.gb _ h0,?_⟩
   rcases HP'.vQ with⟨q1,q2⟩|⟨q1,q2,q3,q4⟩
   ·exact .inl ⟨q1,q2⟩
   ·subst q2 q3
    exact .inr ⟨q1,fun r hr hR i hi=>q4 r i ⟨hr,hR,hi⟩⟩
  ·simp[-Bool.exists_bool,-List.getD_eq_getElem?_getD,C.f89L0,z0,z4,z5,z6,z7,z8,z9]
   exact⟨M,B,H,HS,h0,hcl⟩
 ·show g.names.length*65+1<1000000; omega
 ·exact⟨z0,z4,z5,z6,z7,z8,M0,B0,true,z9,H,HS,h0,.inl ⟨rfl,by omega⟩⟩
end
theorem WU {h:Af}{A n:Nat}{B:List Bool}{ty:Nat}(m:Nat)(hf:AA h A=some (.cells ty 1 (BJ B) false))(hl:B.length=n):Bp 0 h (m+2) (.AQ A 0 n (some n))=some (.list true 1 (BJ B)):=by
 have ht:CP (Bp 0 h (m+1)) (((BJ B).drop 0).take (n*1))=some (BJ B):=by
  rw[List.drop_zero,Nat.mul_one,List.take_of_length_le (by simp; omega)]; exact DY (OH 0 _)
 rw[FN (Nat.zero_le _) hf (by omega) (by simp; omega) ht]
 have:rows 1 n (BJ B)=BJ B:=by
  have:=IZ (BJ B); rwa [PY,hl] at this
 simp[this,beq_eq]
section
variable {cv:AV}{g:AX}
set_option maxHeartbeats 2000000 in
theorem Xm {k:Nat}{st:St}(hC:FC cv g)(hs:g.Small)(hok:g.Ok) :
 ∃w1 w2 M B,AU E (k+8) 89 [cv] st=.ret (.tuple [w1,w2],st)/\BI w1 1 (Ci M)/\BI w2 1 (BJ B)/\M.length=g.names.length/\B.length=g.names.length/\Io M /\
  (∀s∈g.names,∀j,(M.getD (g.ix s) 0).testBit j=true↔∃hj:j<g.kinds.length,Mc g g.kinds[j] s)/\∀s∈g.names,(B.getD (g.ix s) false=true↔Pp g s):=by
 have hold:=hC.Gi 0
 have hnl:=AX.DD hs
 obtain⟨nn,rv,ov,lr,lo',e0,h1,_⟩:=hC.out
 rw[BZ (fn:=C.f89) rfl rfl rfl (by simp[AV.CL,hold]),Ad (by simp)]
 have hln:∀S':St,BO .slice nn S'=some (.int .i64 (g.names.length:Int),S'):=fun S'=>by have:=h1.len (st:=S'); simpa using this
 obtain⟨nw,N,m1,m2,m3,m4⟩:=LJ (k:=k) (st:=⟨[],0,0⟩) hC hs hok
 obtain⟨fw,F,f1,f2,f3,f4,f5⟩:=Nz (k:=k+3) (st:=⟨[],0,0⟩) (nv:=nw) hC hs hok m2 m3 m4
 obtain⟨rw',RB,r1,r2,r3,r4⟩:=MQ (k:=k) (st:=⟨[],0,0⟩) hC hs hok
 obtain⟨Mz,hMz⟩:∃F:List Nat,F=List.replicate g.names.length 0:=⟨_,rfl⟩
 obtain⟨Bz,hBz⟩:∃F:List Bool,F=List.replicate g.names.length false:=⟨_,rfl⟩
 have hmk:=XG (o:=0) (n:=g.names.length) (by omega)
 have hmb:=Ox (o:=1) (n:=g.names.length) (by omega)
 rw[← hMz] at hmk
 rw[← hBz] at hmb
 have hMl:Mz.length=g.names.length:=by rw[hMz]; simp
 have hBl:Bz.length=g.names.length:=by rw[hBz]; simp
 have n1:newObj 0 (.cells 102 1 (Ci Mz) false) ⟨[],2,0⟩=some ⟨[(0,.cells 102 1 (Ci Mz) false)],2,0⟩:=rfl
 obtain⟨h2',hh2⟩:∃h:Af,h=[(1,Ai.cells 4 1 (BJ Bz) false),(0,.cells 102 1 (Ci Mz) false)]:=⟨_,rfl⟩
 have n2:newObj 1 (.cells 4 1 (BJ Bz) false) ⟨[(0,.cells 102 1 (Ci Mz) false)],2,0⟩=some ⟨h2',2,0⟩:=by rw[hh2]; rfl
 have hb2:HB ⟨h2',2,0⟩:=fun p x hp=>by
  rw[hh2] at hp; show p<2
  simp only[List.mem_cons,List.not_mem_nil,or_false] at hp
  rcases hp with e|e <;> cases e <;> omega
 have q0:AA h2' 0=some (.cells 102 1 (Ci Mz) false):=by rw[hh2]; rfl
 have q1:AA h2' 1=some (.cells 4 1 (BJ Bz) false):=by rw[hh2]; rfl
 have hsn:=Rj (show g.start∈g.names from List.mem_append.2 (.inr hok.start))
 have ix:=Gc (st:=⟨h2',2,0⟩) (n:=g.names.length) (cap:=some g.names.length) q1 hsn
 have s1:=BX (st:=⟨h2',2,0⟩) (off:=g.ix g.start) (v:=.bool true) q1 (Nat.zero_le _) (by simp; omega) rfl rfl
 rw[Jl] at s1
 obtain⟨h3',hh3⟩:∃h:Af,h=Ab h2' 1 (.cells 4 1 (BJ (Bz.set (g.ix g.start) true)) false):=⟨_,rfl⟩
 have s1':Bc 1 (.AO 1 (g.ix g.start)) (.bool true) ⟨h2',2,0⟩=some (.undef,⟨h3',2,0⟩):=by rw[s1,hh3]
 have hz:∀x,Mz.getD x 0=0:=fun x=>by rw[hMz]; simp only[List.getD,List.getElem?_replicate]; split <;> rfl
 have hzb:∀x,Bz.getD x false=false:=fun x=>by rw[hBz]; simp only[List.getD,List.getElem?_replicate]; split <;> rfl
 have H0:FW g.names.length Mz (Bz.set (g.ix g.start) true) ⟨h3',2,0⟩:=by
  refine⟨hh3 ▸ HB.Ab (st:=⟨h2',2,0⟩) hb2,rfl,by show 1<2; omega,?_,?_,hMl,by simpa using hBl,fun x=>by rw[hz]; omega⟩
  ·show AA h3' 0=_; rw[hh3,AR q1,if_neg (by omega)]; exact q0
  ·show AA h3' 1=_; rw[hh3,AR q1,if_pos rfl]
 have HS:NM g Mz (Bz.set (g.ix g.start) true):=⟨fun s hs j hj=>by rw[hz] at hj; simp at hj,fun s hs hb=>by
  rw[DT (by omega)] at hb
  split at hb
  ·rename_i e
   have:s=g.start:=by
    obtain⟨p1,p2⟩:=DF hs
    obtain⟨p3,p4⟩:=DF (show g.start∈g.names from List.mem_append.2 (.inr hok.start))
    have e':GY s g.names=GY g.start g.names:=e
    rw[← p2,← p4]; simp only[e']
   rw[this]; exact .start
  ·rw[hzb] at hb; cases hb⟩
 have hst0:(Bz.set (g.ix g.start) true).getD (g.ix g.start) false=true:=by rw[DT (by omega),if_pos rfl]
 obtain⟨P,hP⟩:∃P:AV × St->Prop,P=fun x=>x.1=.tuple [.AQ 0 0 g.names.length (some g.names.length),.AQ 1 0 g.names.length (some g.names.length)]/\∃M B,FW g.names.length M B x.2/\NM g M B/\B.getD (g.ix g.start) false=true/\Rt g F N M B:=⟨_,rfl⟩
 have goal:((Ar E (AU E (k+7)) C.f89.body (TS.CY [cv] 0 .nil) ⟨[],0,0⟩).bind (leave C.f89.results)).to P:=by
  have outer:=Tv (k:=k+6) hC hs hok f2 f3 f4 f5 m2 m3 m4 r2 r3 r4 ⟨h3',2,0⟩ H0 HS hst0
  have e0':=e0
  simp[-List.getD_eq_getElem?_getD,C.f89,m1,f1,r1]
  simp[-List.getD_eq_getElem?_getD,e0',hln,hmk,hmb,n1,n2,ix,s1']
  rw[← e0']
  refine M.Al (outer _ (by simp[e0']) (by simp) (by simp) (by simp) (by simp) (by simp) (by simp)) fun x hx=>?_
  obtain⟨e,ts1,st1⟩:=x
  obtain⟨ee,g7,g8,M,B,H,HS,hs0,hcl⟩:=hx
  simp only at ee g7 g8 H
  subst ee
  simp[-List.getD_eq_getElem?_getD,g7,g8,leave,results,AY]
  rw[hP]
  exact⟨rfl,M,B,H,HS,hs0,hcl⟩
 obtain⟨⟨v,st1⟩,p1,p2⟩:=goal
 rw[hP] at p2
 obtain⟨p2,M,B,H,HS,hs0,hcl⟩:=p2
 simp only at p2 H
 subst p2
 have ex:=qE hok m4 f5 HS hs0 hcl
 refine⟨.list true 1 (Ci M),.list true 1 (BJ B),M,B,?_,⟨.inr ⟨_,rfl⟩⟩,⟨.inr ⟨_,rfl⟩⟩,H.lm,H.lb,H.nw,ex.1,ex.2⟩
 rw[p1]
 have ht:Bp 0 st1.h 64 (.tuple [.AQ 0 0 g.names.length (some g.names.length),.AQ 1 0 g.names.length (some g.names.length)])=some (.tuple [.list true 1 (Ci M),.list true 1 (BJ B)]):=by
  have ho:AV.Bw 0 (.tuple [.AQ 0 0 g.names.length (some g.names.length),.AQ 1 0 g.names.length (some g.names.length)])=false:=by simp[AV.Bw,AV.CL,blt_eq]
  have t1:=Rz 61 H.o0 H.lm
  have t2:=WU 61 H.o1 H.lb
  unfold Bp
  rw[ho]
  simp only[cond_false,CP,t1,t2]
 simp[BA,Bu,ht]
structure VC (g:AX)(s:Aj)(w:AV)(b:Bool)(e:Int):Prop where
 bad:g.fault≠0->w=.AJ/\b=false/\e=g.fault
 none_:g.fault=0->s∉g.CB->w=.AJ/\b=false/\e=8
 Mw:g.fault=0->s∈g.CB->e=0/\(∃p:Aj->Bool,(∀x∈g.kinds,(p x=true↔Mc g x s))/\BI w 1 (strs (g.kinds.filter p)))/\(b=true↔Pp g s)
set_option maxHeartbeats 2000000 in
theorem Xj {k:Nat}{v:AV}{s:Aj}{st:St}(hg:BP v g)(hs:g.Small) :
 ∃w b e,AU E (k+9) 24 [v,.str s] st=.ret (.tuple [w,.bool b,.int .i64 e],st)/\VC g s w b e:=by
 have hold:=hg.Gi 0
 have hg':=hg
 obtain⟨kv,rv0,l,rfl,hk,hr',hrs⟩:=hg'
 rw[BZ (fn:=C.f24) rfl rfl rfl (by rw[AV.CL,hold]; rfl),Ad (by simp)]
 have hbx:Dr 0 29 3 (.agg [kv,.str g.start,rv0])=some (.AO 0 0,.cells 29 3 [kv,.str g.start,rv0] false):=rfl
 have n1:=MG (c':=1) (lo:=0) (ty:=29) (n:=3) (cs:=[kv,.str g.start,rv0]) HB.nil
 obtain⟨h1,hh1⟩:∃h1:Af,h1=[(0,Ai.cells 29 3 [kv,.str g.start,rv0] false)]:=⟨_,rfl⟩
 rw[← hh1] at n1
 have X1:Df ⟨[],0,0⟩ ⟨h1,1,0⟩:=by rw[hh1]; exact (Df.refl HB.nil).cons (lo:=0) (by omega)
 have fg:AA h1 0=some (.cells 29 3 [kv,.str g.start,rv0] false):=by rw[hh1,AL,if_pos rfl]
 have rg:AZ h1 (.AO 0 0) 3=some [kv,.str g.start,rv0]:=Ae fg rfl
 have hck:=QW (k:=k+2) (st:=⟨h1,1,0⟩) hg hs
 have fin:∀(w:AV) (b:Bool) (e:Int),w.Bw 0=true->BA 0 st (.tuple [w,.bool b,.int .i64 e],⟨h1,1,0⟩)=.ret (.tuple [w,.bool b,.int .i64 e],st):=fun w b e hw=>Ca (by simp[AV.Bw,AV.CL,hw])
 by_cases hz:g.fault=0
 ·have hok:=AX.ok hz
  rw[hz] at hck
  obtain⟨cv,e1,hC⟩:=Ov (k:=k+1) (st:=⟨h1,1,0⟩) hg hs hok
  by_cases hn:s∈g.names
  ·have hsy:=SA (k:=k+7) (st:=⟨h1,1,0⟩) hC hn
   have hik:=Zq (k:=k+7) (st:=⟨h1,1,0⟩) hC (g.ix s)
   have hiff:=VX hok hn
   by_cases hkd:s∈g.kinds
   ·have hnl:s∉g.CB:=hok.apart s hkd
    rw[decide_eq_true (hiff.2 hkd)] at hik
    refine⟨.AJ,false,8,?_,fun h=>absurd hz h,fun _ _=>⟨rfl,rfl,rfl⟩,fun _ h=>absurd h hnl⟩
    simp[C.f24,Az,Av,hbx,n1,rg,hck,e1,hsy,hik,leave,results,AY,fin .AJ false 8 rfl]
   ·have hl:s∈g.CB:=(List.mem_append.1 hn).resolve_left hkd
    rw[decide_eq_false (fun h=>hkd (hiff.1 h))] at hik
    obtain⟨w1,w2,M,B,p1,p2,p3,p4,p5,p6,p7,p8⟩:=Xm (k:=k) (st:=⟨h1,1,0⟩) hC hs hok
    have hsn:=Rj hn
    have ixM:∀S:St,Aa 1 w1 (.int .i64 (g.ix s:Nat)) S=some (.BC [.int .u64 ((M.getD (g.ix s) 0:Nat):Int)],S):=fun S=>by
     rw[p2.idx (by simp; omega)]; simp[Ci,AV.cells,List.getD,show g.ix s<M.length by omega]
    have ixB:∀S:St,Aa 1 w2 (.int .i64 (g.ix s:Nat)) S=some (.BC [.bool (B.getD (g.ix s) false)],S):=fun S=>by
     rw[p3.idx (by simp; omega)]; simp[BJ,AV.cells,List.getD,show g.ix s<B.length by omega]
    obtain⟨w,q1,q2⟩:=YT (k:=k+7) (m:=M.getD (g.ix s) 0) (st:=⟨h1,1,0⟩) hC hs hok X1.hb (p6 _)
    refine⟨w,B.getD (g.ix s) false,0,?_,fun h=>absurd hz h,fun _ h=>absurd hl h,fun _ _=>⟨rfl,⟨fun x=>(M.getD (g.ix s) 0).testBit (g.ix x),fun x hx=>Si hok (P:=fun x=>Mc g x s) (p7 s hn) hx,q2⟩,p8 s hn⟩⟩
    have hf:=fin w (B.getD (g.ix s) false) 0 (q2.Gi 0)
    generalize B.getD (g.ix s) false=bb at ixB hf
    simp[-List.getD_eq_getElem?_getD,C.f24,Az,Av,hbx,n1,rg,hck,e1,hsy,hik,p1,ixM,ixB,q1,De,Cf,CV,Cv,Jr,beq_eq,AV.Cx,leave,results,AY,hf]
  ·have hsy:=UI (k:=k+7) (st:=⟨h1,1,0⟩) hC hn
   refine⟨.AJ,false,8,?_,fun h=>absurd hz h,fun _ _=>⟨rfl,rfl,rfl⟩,fun _ h=>absurd (List.mem_append.2 (.inr h)) hn⟩
   simp[C.f24,Az,Av,hbx,n1,rg,hck,e1,hsy,leave,results,AY,fin .AJ false 8 rfl]
 ·have hzb:(g.fault != 0)=true:=by simpa using hz
  refine⟨.AJ,false,g.fault,?_,fun _=>⟨rfl,rfl,rfl⟩,fun h=>absurd h hz,fun h=>absurd h hz⟩
  simp[C.f24,hbx,n1,rg,hck,hzb,hz,leave,results,AY,fin .AJ false g.fault rfl]
end
theorem uF {h:Af}{c lo ty sz bytes e id:Nat}{w x:AV}{xs:List AV}(hb:HB ⟨h,c,lo⟩)(hne:∀p y,(p,y)∈h->p≠e/\p≠id)(hei:e≠id)(hec:e<c)(hic:id<c)(H:Fa h ty sz w xs)(hw:∀p,Ah w=some p->lo<=p/\p≠e/\p≠id)(hsz:0<sz)(hbt:bytes<=1000)(hl:xs.length<=1000)(hx:x.cells.length=sz) :
 ∃h1 h2,newObj e (.cells ty sz x.cells false) ⟨h,c,lo⟩=some ⟨h1,c,lo⟩/\BU id ty sz bytes w (.AQ e 0 1 (some 1)) ⟨h1,c,lo⟩=some (.AQ id 0 (xs.length+1) none,⟨h2,c,lo⟩)/\HB ⟨h2,c,lo⟩ /\
  AA h2 id=some (.cells ty sz ((xs++[x]).flatMap AV.cells) true)/\(∀p,p≠e->p≠id->Ah w≠some p->AA h2 p=AA h p)/\∀p y,(p,y)∈h2->p=e∨p=id∨(p,y)∈h:=by
 have hz:Nat.beq sz 0=false:=by rw[beq_eq]; simp; omega
 have hss:Nat.beq sz sz=true:=Nat.beq_refl sz
 have htt:Nat.beq ty ty=true:=Nat.beq_refl ty
 have hsz0:sz≠0:=by omega
 obtain⟨h1,a1,a2,a3,a4⟩:=Fh (y:=.cells ty sz x.cells false) (fun p y hm=>(hne p y hm).1) hb hec
 have he:AA h1 e=some (.cells ty sz x.cells false):=by rw[a2,if_pos rfl]
 have hcs:BH h1 sz 1 (.AQ e 0 1 (some 1))=some x.cells:=by
  simp[BH,he,hss,ble_eq,hx]
  rw[← hx,List.take_length]
 have hroom:(xs.length+1)*bytes<=room/\xs.length+1<=room:=by
  have:=Nat.mul_le_mul (show xs.length+1<=1001 by omega) hbt
  unfold room
  constructor <;> omega
 have hn1:∀p y,(p,y)∈h1->p≠id:=fun p y hm=>by
  rcases a4 p y hm with rfl|hm
  ·exact hei
  ·exact (hne p y hm).2
 have grow1:∀(h':Af),(∀p y,(p,y)∈h'->(p,y)∈h1)->∀cs,∃h2,grow id ty sz bytes xs.length 1 cs ⟨h',c,lo⟩=some (.AQ id 0 (xs.length+1) none,⟨h2,c,lo⟩)/\(∀p,AA h2 p=if id=p then some (.cells ty sz cs true) else AA h' p)/\HB ⟨h2,c,lo⟩/\∀p y,(p,y)∈h2->p=id∨(p,y)∈h':=fun h' hh cs=>by
  obtain⟨h2,b1,b2,b3,b4⟩:=Fh (h:=h') (c:=c) (lo:=lo) (y:=.cells ty sz cs true) (fun p y hm=>hn1 p y (hh p y hm)) (fun p y hm=>a3 p y (hh p y hm)) hic
  exact⟨h2,by simp[grow,ble_eq,hroom.1,hroom.2,b1],b2,b3,b4⟩
 have memf:∀(h2 h':Af),(∀p y,(p,y)∈h'->(p,y)∈h1)->(∀p y,(p,y)∈h2->p=id∨(p,y)∈h')->∀p y,(p,y)∈h2->p=e∨p=id∨(p,y)∈h:=fun h2 h' q1 q2 p y hm=>by
  rcases q2 p y hm with h|h
  ·exact .inr (.inl h)
  ·rcases a4 p y (q1 p y h) with h|h
   ·exact .inl h
   ·exact .inr (.inr h)
 cases H with
 |nl=>
  obtain⟨h2,b1,b2,b3,b4⟩:=grow1 h1 (fun _ _ h=>h) x.cells
  refine⟨h1,h2,a1,?_,b3,by rw[b2,if_pos rfl]; simp,fun p hp hq _=>by rw[b2,if_neg (Ne.symm hq),a2,if_neg (Ne.symm hp)],memf h2 h1 (fun _ _ h=>h) b4⟩
  simp only[List.length_nil] at b1
  simp only[BU,lenOf,hcs,BK,hz,cond_false]
  simp only[show Nat.beq 1 0=false from rfl,cond_false]
  exact b1
 |mt i2 ext hf=>
  obtain⟨h2,b1,b2,b3,b4⟩:=grow1 h1 (fun _ _ h=>h) x.cells
  refine⟨h1,h2,a1,?_,b3,by rw[b2,if_pos rfl]; simp,fun p hp hq _=>by rw[b2,if_neg (Ne.symm hq),a2,if_neg (Ne.symm hp)],memf h2 h1 (fun _ _ h=>h) b4⟩
  have hf':AA h1 i2=some (.cells ty sz [] ext):=by rw[a2,if_neg (Ne.symm (hw i2 rfl).2.1)]; exact hf
  simp only[List.length_nil] at b1
  simp only[BU,lenOf,hcs,BK,hz,cond_false]
  simp only[show Nat.beq 1 0=false from rfl,cond_false,Cn,hf',htt,hss,List.length_nil,Nat.zero_mul,Nat.add_zero,Nat.zero_add,Bool.and_self,Bool.true_and,cond_true,List.drop_nil,List.take_nil,List.nil_append]
  exact b1
 |ob i2 xs h0 hc3 hf=>
  have hi2:=hw i2 rfl
  have hlen3:=BD hc3
  have hf':AA h1 i2=some (.cells ty sz (xs.flatMap AV.cells) true):=by rw[a2,if_neg (Ne.symm hi2.2.1)]; exact hf
  obtain⟨h2,b1,b2,b3,b4⟩:=grow1 (HY h1 i2) (fun p y hm=>Gy hm) (xs.flatMap AV.cells++x.cells)
  refine⟨h1,h2,a1,?_,b3,by rw[b2,if_pos rfl]; simp,fun p hp hq hne'=>?_,memf h2 (HY h1 i2) (fun p y hm=>Gy hm) b4⟩
  ·have hb1:Nat.ble (xs.length*sz) (xs.flatMap AV.cells).length=true:=Nat.ble_eq_true_of_le (by omega)
   have hb2:Nat.ble ((xs.length+1)*sz) (xs.flatMap AV.cells).length=false:=by rw[ble_eq,hlen3]; simp[Nat.succ_mul]; omega
   have hlo:Nat.ble lo i2=true:=Nat.ble_eq_true_of_le hi2.1
   have htk:(xs.flatMap AV.cells).take (xs.length*sz)=xs.flatMap AV.cells:=List.take_of_length_le (by omega)
   simp only[BU,lenOf,hcs,BK,hz,cond_false]
   simp only[show Nat.beq 1 0=false from rfl,cond_false,Cn,hf',htt,hss,Nat.zero_add,hb1,hb2,hlo,Bool.and_self,Bool.true_and,cond_true,List.drop_zero,htk]
   exact b1
  ·have:i2≠p:=fun e=>hne' (by rw[e]; rfl)
   rw[b2,if_neg (Ne.symm hq),Dw,if_neg this,a2,if_neg (Ne.symm hp)]
def nU (b:Bool)(h:Af)(w:AV)(l:List Aj):Prop:=(b=true/\Fa h 9 1 w (strs l))∨(b=false/\BI w 1 (strs l))
theorem nU.heap {b:Bool}{h h':Af}{w:AV}{l:List Aj}(H:nU b h w l)(e:∀o,Ah w=some o->AA h' o=AA h o):nU b h' w l:=H.imp (fun H=>⟨H.1,H.2.heap e⟩) id
theorem nU.one {b:Bool}{h:Af}{w:AV}{l:List Aj}(H:nU b h w l):w.isTuple=false/\w.cells=[w]:=by
 rcases H with H|H
 ·exact H.2.one
 ·rcases H.2.out with⟨rfl,_⟩|⟨t,rfl⟩ <;> exact⟨rfl,rfl⟩
structure Nk (b:Bool)(st0:St)(oo:Nat)(kv:AV)(start:Aj)(st:St)(rv:AV)(ls:List AV)(rs:List Ba):Prop where
 c:st0.c<=st.c
 lo:st.lo=st0.lo
 hb:HB st
 fr:∀p,p<st0.c->p≠oo->AA st.h p=AA st0.h p
 vT:oo<st0.c
 vS:st0.lo<=oo
 o:AA st.h oo=some (.cells 29 3 [kv,.str start,rv] false)
 sl:Fa st.h 68 3 rv ls
 own:∀p,Ah rv=some p->st0.c<=p/\p<st.c
 len:ls.length=rs.length
 each:∀j (hj:j<ls.length) (hr:j<rs.length),∃w,ls[j]=.agg [.str rs[j].left,w,.int .i64 rs[j].level]/\nU b st.h w rs[j].right/\∀p,Ah w=some p->st0.c<=p/\p<st.c/\Ah rv≠some p
theorem oM (c:Nat){a b d:AV}(h:b.isTuple=false/\b.cells=[b]):Ay c 68 3 1 [.str [],.AJ,.int .i64 0] [0] [.agg [a,b,d]]=some (.AQ c 0 1 (some 1),.cells 68 3 [a,b,d] false):=by
 simp[Ay,blt_eq,beq_eq,ble_eq,BB,BM,AV.isTuple,AV.cells]
theorem qy {s:Aj}{w:AV}{n:Int}(h:w.isTuple=false/\w.cells=[w]):BB [.str [],.AJ,.int .i64 0] [(0,1),(1,1),(2,1)] [.str s,w,.int .i64 n]=some [.str s,w,.int .i64 n]:=by
 simp[BB,h.1,h.2,beq_eq,ble_eq,BM,show (AV.str s).isTuple=false from rfl,show (AV.str s).cells=[.str s] from rfl,show (AV.int .i64 n).isTuple=false from rfl,show (AV.int .i64 n).cells=[.int .i64 n] from rfl]
theorem jh {s:Aj}{w:AV}(h:w.isTuple=false/\w.cells=[w]):BB [.AJ,.str [],.AJ] [(0,1),(1,1)] [w,.str s]=some [w,.str s,.AJ]:=by
 simp[BB,h.1,h.2,beq_eq,ble_eq,BM,show (AV.str s).isTuple=false from rfl,show (AV.str s).cells=[.str s] from rfl]
theorem Nk.iW {b:Bool}{st0:St}{oo:Nat}{kv:AV}{start:Aj}{h:Af}{c c3 lo:Nat}{rv w:AV}{ls:List AV}{rs:List Ba}{r:Ba}(G:Nk b st0 oo kv start ⟨h,c,lo⟩ rv ls rs)(hlo:st0.lo<=st0.c)(hn:ls.length<=1000){h3:Af}(hb3:HB ⟨h3,c3,lo⟩)(hc3:c+2<=c3)(hold:∀p,p<c->AA h3 p=AA h p)(hmem:∀p x,(p,x)∈h3->p≠c/\p≠c+1)(hw:nU b h3 w r.right)(hwo:∀p,Ah w=some p->st0.c<=p/\p<c3/\p≠c/\p≠c+1/\Ah rv≠some p) :
 ∃h4 h5,newObj c (.cells 68 3 [.str r.left,w,.int .i64 r.level] false) ⟨h3,c3,lo⟩=some ⟨h4,c3,lo⟩/\BU (c+1) 68 3 48 rv (.AQ c 0 1 (some 1)) ⟨h4,c3,lo⟩=some (.AQ (c+1) 0 (ls.length+1) none,⟨h5,c3,lo⟩) /\
  Bc 1 (.AO oo 2) (.AQ (c+1) 0 (ls.length+1) none) ⟨h5,c3,lo⟩=some (.undef,⟨Ab h5 oo (.cells 29 3 [kv,.str start,.AQ (c+1) 0 (ls.length+1) none] false),c3,lo⟩) /\
  Nk b st0 oo kv start ⟨Ab h5 oo (.cells 29 3 [kv,.str start,.AQ (c+1) 0 (ls.length+1) none] false),c3,lo⟩ (.AQ (c+1) 0 (ls.length+1) none) (ls++[.agg [.str r.left,w,.int .i64 r.level]]) (rs++[r]):=by
 have hcc:st0.c<=c:=G.c
 have hll:lo=st0.lo:=G.lo
 have hooc:=G.vT
 have hool:=G.vS
 have hown:∀p,Ah rv=some p->st0.c<=p/\p<c:=G.own
 have hsl3:Fa h3 68 3 rv ls:=Fa.heap G.sl fun o ho=>hold o (hown o ho).2
 obtain⟨h4,h5,p1,p2,p3,p4,p5,p6⟩:=uF (e:=c) (id:=c+1) (bytes:=48) (x:=.agg [.str r.left,w,.int .i64 r.level]) hb3 hmem (by omega) (by omega) (by omega) hsl3 (fun p hp=>by have:=hown p hp; omega) (by omega) (by omega) hn rfl
 have f5:AA h5 oo=some (.cells 29 3 [kv,.str start,rv] false):=by
  rw[p5 oo (by omega) (by omega) (fun e=>by have:=hown oo e; omega),hold oo (by omega)]; exact G.o
 have s5:=BX (st:=⟨h5,c3,lo⟩) (off:=2) (v:=.AQ (c+1) 0 (ls.length+1) none) f5 (by show lo<=oo; omega) (by simp) rfl rfl
 simp only[List.set_cons_succ,List.set_cons_zero] at s5
 have fin:∀p,p≠oo->p≠c->p≠c+1->Ah rv≠some p->AA (Ab h5 oo (.cells 29 3 [kv,.str start,.AQ (c+1) 0 (ls.length+1) none] false)) p=AA h3 p:=fun p q1 q2 q3 q4=>by
  rw[AR f5,if_neg (Ne.symm q1)]; exact p5 p q2 q3 q4
 have hcell:∀x∈ls++[.agg [.str r.left,w,.int .i64 r.level]],x.cells.length=3:=by
  intro x hx
  rcases List.mem_append.1 hx with hx|hx
  ·obtain⟨j,hj,rfl⟩:=List.getElem_of_mem hx
   obtain⟨w',e,_⟩:=G.each j hj (by have:=G.len; omega)
   rw[e]; rfl
  ·simp only[List.mem_singleton] at hx; subst hx; rfl
 refine⟨h4,h5,p1,p2,s5,by show st0.c<=c3; omega,hll,HB.Ab (st:=⟨h5,c3,lo⟩) p3,fun p hp hpo=>?_,hooc,hool,?_,?_,fun p hp=>?_,by rw[List.length_append,List.length_append,G.len]; rfl,fun j hj hr=>?_⟩
 ·show AA (Ab h5 oo _) p=_
  rw[fin p hpo (by omega) (by omega) (fun e=>by have:=hown p e; omega),hold p (by omega)]; exact G.fr p hp hpo
 ·show AA (Ab h5 oo _) oo=_
  rw[AR f5,if_pos rfl]
 ·have M:Fa (Ab h5 oo (.cells 29 3 [kv,.str start,.AQ (c+1) 0 (ls.length+1) none] false)) 68 3 (.AQ (c+1) 0 (ls++[AV.agg [.str r.left,w,.int .i64 r.level]]).length none) (ls++[.agg [.str r.left,w,.int .i64 r.level]]):=.ob _ _ (by simp) hcell (by rw[AR f5,if_neg (by omega)]; exact p4)
  rwa [List.length_append] at M
 ·simp only[Ah,Option.some.injEq] at hp
  subst hp
  exact⟨by omega,by show c+1<c3; omega⟩
 ·by_cases hjl:j<ls.length
  ·obtain⟨w',e1,e2,e3⟩:=G.each j hjl (by have:=G.len; omega)
   have e3':∀p,Ah w'=some p->st0.c<=p/\p<c/\Ah rv≠some p:=e3
   have er:(rs++[r])[j]=rs[j]'(by have:=G.len; omega):=List.getElem_append_left (by have:=G.len; omega)
   have el:(ls++[AV.agg [.str r.left,w,.int .i64 r.level]])[j]=ls[j]:=List.getElem_append_left hjl
   rw[er,el]
   refine⟨w',e1,nU.heap e2 fun p hp=>?_,fun p hp=>?_⟩
   ·have:=e3' p hp
    show AA (Ab h5 oo _) p=_
    rw[fin p (by omega) (by omega) (by omega) this.2.2]; exact hold p (by omega)
   ·have:=e3' p hp
    refine⟨this.1,by show p<c3; omega,fun e=>?_⟩
    simp only[Ah,Option.some.injEq] at e; omega
  ·have hj':j=ls.length:=by simp at hj; omega
   have hlen:=G.len
   subst hj'
   have er:(rs++[r])[ls.length]=r:=by simp[hlen]
   have el:(ls++[AV.agg [.str r.left,w,.int .i64 r.level]])[ls.length]=.agg [.str r.left,w,.int .i64 r.level]:=by simp
   rw[er,el]
   refine⟨w,rfl,hw.heap fun p hp=>?_,fun p hp=>?_⟩
   ·have:=hwo p hp
    show AA (Ab h5 oo _) p=_
    exact fin p (by omega) this.2.2.1 this.2.2.2.1 this.2.2.2.2
   ·have:=hwo p hp
    refine⟨this.1,this.2.1,fun e=>?_⟩
    simp only[Ah,Option.some.injEq] at e; omega
theorem Nk.more {b:Bool}{st0:St}{oo:Nat}{kv:AV}{start:Aj}{h:Af}{c lo:Nat}{rv:AV}{ls:List AV}{rs:List Ba}(G:Nk b st0 oo kv start ⟨h,c,lo⟩ rv ls rs)(x:Ai):Nk b st0 oo kv start ⟨(c,x)::h,c+1,lo⟩ rv ls rs:=by
 have hcc:st0.c<=c:=G.c
 have hooc:=G.vT
 have hown:∀p,Ah rv=some p->st0.c<=p/\p<c:=G.own
 refine⟨by show st0.c<=c+1; omega,G.lo,HB.cons (h:=h) (c:=c) (lo:=lo) G.hb (by omega) (by omega),fun p hp hpo=>(Ao (by omega)).trans (G.fr p hp hpo),hooc,G.vS,(Ao (by omega)).trans G.o,Fa.heap G.sl fun o ho=>Ao (hown o ho).2,fun p hp=>⟨(hown p hp).1,by have:=(hown p hp).2; show p<c+1; omega⟩,G.len,fun j hj hr=>?_⟩
 obtain⟨w,e1,e2,e3⟩:=G.each j hj hr
 have e3':∀p,Ah w=some p->st0.c<=p/\p<c/\Ah rv≠some p:=e3
 exact⟨w,e1,nU.heap e2 fun p hp=>Ao (e3' p hp).2.1,fun p hp=>⟨(e3' p hp).1,by have:=(e3' p hp).2.1; show p<c+1; omega,(e3' p hp).2.2⟩⟩
def cO (k f:Nat)(a b:List AV)(st0:St)(g:AX)(p:Ba->Bool):Prop:=∀st w (r:Ba),r∈g.rules->Df st0 st->BI w 1 (ints (r.right.map g.ix))->AU E k f (a++([.agg [.int .i64 (g.ix r.left:Nat),w,.int .i64 r.level]]++b)) st=.ret (.bool (p r),st)
def AX.BG (g:AX)(p:Ba->Bool):AX:=⟨g.kinds,g.start,g.rules.filter p⟩
set_option maxHeartbeats 4000000 in
theorem eY {k f oo:Nat}{a b:List AV}{g:AX}{cv rv0 kw a4:AV}{l:List AV}{p:Ba->Bool}(hC:FC cv g)(hs:g.Small)(hr:BI rv0 3 l)(hrs:Bt l g.rules)(ste S0:St)(HP:cO (k+1) f a b ste g p)(hce:ste.c<=S0.c)(hoe:ste.c<=oo)(hfe:∀q,q<ste.c->AA S0.h q=AA ste.h q)(hlo:S0.lo<=S0.c)(H:Nk true S0 oo kw g.start S0 .AJ [] [])(ts0:TS)(z1:ts0.get 1=.fn (.func f) a b)(z4:ts0.get 4=a4)(z5:ts0.get 5=cv)(z6:ts0.get 6=.AO oo 0)(z18:ts0.get 18=rv0)(z19:ts0.get 19=.int .i64 (g.rules.length:Int))(z20:ts0.get 20=.int .i64 ((0:Nat):Int)) :
 (CJ (Ar E (AU E (k+1)) C.f158L0) E.k ts0 S0).to fun x=>x.1=.exit 0/\x.2.1.get 4=a4/\x.2.1.get 6=.AO oo 0/\∃rv ls,Nk true S0 oo kw g.start x.2.2 rv ls (g.rules.filter p):=by
 have hln:=hrs.length
 have hmany:=hs.many
 obtain⟨nn,rvc,ov,lr,lo',e0,h1,h2,h3,h4,_⟩:=hC.out
 rw[e0] at z5
 refine Be (fun (i:Nat) ts st=>i<=g.rules.length/\ts.get 1=.fn (.func f) a b/\ts.get 4=a4/\ts.get 5=.BC [nn,.int .i64 (g.kinds.length:Nat),.int .i64 (g.ix g.start:Nat),rvc,ov,.GM (strs g.names) (ints (List.range g.names.length))]/\ts.get 6=.AO oo 0/\ts.get 18=rv0/\ts.get 19=.int .i64 (g.rules.length:Int)/\ts.get 20=.int .i64 (i:Int)/\∃rv ls,Nk true S0 oo kw g.start st rv ls ((g.rules.take i).filter p))
  (fun i=>g.rules.length-i) ?_ _ 0 _ _ ?_ ?_
 ·clear z1 z4 z5 z6 z18 z19 z20 H
  rintro i ts st ⟨hi,z1,z4,z5,z6,z18,z19,z20,rv,ls,G⟩
  by_cases Au:i<g.rules.length
  ·have hil:i<l.length:=by omega
   have hilr:i<lr.length:=by omega
   obtain⟨w1,e1,e2⟩:=(hrs.get i Au).2
   obtain⟨wn,e3,e4⟩:=h4 i Au
   rw[List.getElem?_eq_getElem hilr,Option.some.injEq] at e3
   have hmem:=List.getElem_mem Au
   have hsr:=(hs.rules _ hmem).right
   obtain⟨h,c,lo⟩:=st
   have hlo1:lo=S0.lo:=G.lo
   have hcc:S0.c<=c:=G.c
   have hooc:=G.vT
   have hool:=G.vS
   have hb':∀p x,(p,x)∈h->p<c:=G.hb
   have hown:∀p,Ah rv=some p->S0.c<=p/\p<c:=G.own
   obtain⟨rc,hrc⟩:∃rc:List AV,rc=[.str g.rules[i].left,w1,.int .i64 g.rules[i].level]:=⟨_,rfl⟩
   have G1:=G.more (.cells 68 3 rc false)
   obtain⟨h',hh'⟩:∃h':Af,h'=(c,Ai.cells 68 3 rc false)::h:=⟨_,rfl⟩
   rw[← hh'] at G1
   have hix:Aa 3 rv0 (.int .i64 (i:Int)) ⟨h,c+1,lo⟩=some (.BC l[i].cells,⟨h,c+1,lo⟩):=hr.idx hil
   have hcells:l[i].cells=rc:=by rw[e1,hrc]; rfl
   rw[hcells] at hix
   have hn:newObj c (.cells 68 3 [.str [],.AJ,.int .i64 0] false) ⟨h,c+1,lo⟩=some ⟨(c,.cells 68 3 [.str [],.AJ,.int .i64 0] false)::h,c+1,lo⟩:=Ac hb'
   have hst:=CO (h:=h) (c:=c) (c':=c+1) (lo:=lo) (ty:=68) (n:=3) (zs:=[.str [],.AJ,.int .i64 0]) (vs:=rc) (by omega) (by rw[hrc]; rfl) rfl
   rw[← hh'] at hst
   have hrd3:AZ h (.BC rc) 3=some rc:=by rw[hrc]; rfl
   have fc:AA h' c=some (.cells 68 3 rc false):=by rw[hh',AL,if_pos rfl]
   have fo:AA h' oo=some (.cells 29 3 [kw,.str g.start,rv] false):=G1.o
   obtain⟨rn,hrn⟩:∃rn:List AV,rn=[.int .i64 (g.ix g.rules[i].left:Nat),wn,.int .i64 g.rules[i].level]:=⟨_,rfl⟩
   have hixn:Aa 3 rvc (.int .i64 (i:Int)) ⟨h',c+1,lo⟩=some (.BC lr[i].cells,⟨h',c+1,lo⟩):=h2.idx hilr
   have hcn:lr[i].cells=rn:=by rw[e3,hrn]; rfl
   rw[hcn] at hixn
   have hrdn:AZ h' (.BC rn) 3=some rn:=by rw[hrn]; rfl
   have hX:Df ste ⟨h',c+1,lo⟩:=⟨by show ste.c<=c+1; omega,G1.hb,fun q hq=>(G1.fr q (by omega) (by omega)).trans (hfe q hq)⟩
   have hcall:=HP ⟨h',c+1,lo⟩ wn g.rules[i] hmem hX e4
   rw[← hrn] at hcall
   simp only[List.singleton_append] at hcall
   have htk:(g.rules.take (i+1)).filter p=(g.rules.take i).filter p++(if p g.rules[i]=true then [g.rules[i]] else []):=by
    rw[List.take_succ_eq_append_getElem Au,List.filter_append]
    congr 1
    cases hp:p g.rules[i] <;> simp[hp]
   cases hp:p g.rules[i] with
   |false=>
    rw[hp] at hcall htk
    simp[C.f158L0,z1,z4,z5,z6,z18,z19,z20,Au,hix,-Aw,hrd3,hn,hst,hixn,hrdn,hcall,wi i]
    exact⟨i+1,by omega,by omega,by simp,rv,ls,by rw[htk]; simpa using G1⟩
   |true=>
    rw[hp] at hcall htk
    have rc0:AP h' (.AO c 0)=some (.str g.rules[i].left):=by rw[AB fc,hrc]; rfl
    have rc1:AP h' (.AO c 1)=some w1:=by rw[AB fc,hrc]; rfl
    have rc2:AP h' (.AO c 2)=some (.int .i64 g.rules[i].level):=by rw[AB fc,hrc]; rfl
    have ro2:AP h' (.AO oo 2)=some rv:=by rw[AB fo]; rfl
    have hb1:HB ⟨h',c+1+2,lo⟩:=fun q x hq=>by have:=G1.hb q x hq; have:q<c+1:=this; show q<c+1+2; omega
    obtain⟨w,⟨h3',c3,lo3⟩,k1,k2,k3,Gw⟩:=IB (k:=k) (st:=⟨h',c+1+2,lo⟩) (by omega) e2 hb1
    have hc3:c+1+2<=c3:=Gw.c
    have hl3:lo3=lo:=Gw.lo
    subst hl3
    have Bw:∀q,q<c+1+2->AA h3' q=AA h' q:=Gw.Bw
    have k3':∀q,Ah w=some q->c+1+2<=q/\q<c3:=k3
    have fc3:=(Bw c (by omega)).trans fc
    have fo3:=(Bw oo (by omega)).trans fo
    have rc03:AP h3' (.AO c 0)=some (.str g.rules[i].left):=by rw[AB fc3,hrc]; rfl
    have rc23:AP h3' (.AO c 2)=some (.int .i64 g.rules[i].level):=by rw[AB fc3,hrc]; rfl
    have ro23:AP h3' (.AO oo 2)=some rv:=by rw[AB fo3]; rfl
    have hone:=k2.one
    have hll:ls.length<=1000:=by
     have:=G.len
     have:=List.length_filter_le p (g.rules.take i)
     rw[List.length_take] at this; omega
    obtain⟨h4',h5',p1,p2,p3,G2⟩:=G1.iW (r:=g.rules[i]) (w:=w) hlo hll (h3:=h3') (c3:=c3) Gw.hb (by omega) (fun q hq=>Bw q (by omega)) (fun q x hq=>by
     by_cases hlt3:q<c+1+2
     ·have:=G1.hb q x (Gw.mem q x hq hlt3)
      have:q<c+1:=this
      omega
     ·omega) (.inl ⟨rfl,k2⟩) (fun q hq=>by
     have:=k3' q hq
     exact⟨by omega,by omega,by omega,by omega,fun e=>by have:=hown q e; omega⟩)
    have hbs:=oM (c+1) (a:=.str g.rules[i].left) (b:=w) (d:=.int .i64 g.rules[i].level) hone
    simp[C.f158L0,z1,z4,z5,z6,z18,z19,z20,Au,hix,-Aw,hrd3,hn,hst,hixn,hrdn,hcall,De,Dx,Cf,CV,Cv,beq_eq,AV.Cx,rc0,rc1,rc2,ro2,k1,rc03,rc23,ro23,qy hone,hbs,p1,p2,p3,wi i]
    exact⟨i+1,by omega,by omega,by simp,_,_,by rw[htk]; simpa using G2⟩
  ·have:i=g.rules.length:=by omega
   subst this
   rw[List.take_length] at G
   simp[C.f158L0,z1,z4,z5,z6,z18,z19,z20]
   exact⟨rv,ls,G⟩
 ·show g.rules.length-0<1000000; omega
 ·exact⟨by omega,z1,z4,z5,z6,z18,z19,z20,.AJ,[],by simpa using H⟩
theorem Nk.th {S0 st:St}{oo:Nat}{kw rv:AV}{start:Aj}{ls:List AV}{rs:List Ba}{kinds:List Aj}(G:Nk true S0 oo kw start st rv ls rs){c:Nat}(hc:c<S0.c){h':Af}(hh:∀p,S0.c<=p->AA h' p=AA st.h p)(hk:OZ c h' kw kinds)(n:Nat)(hn:6<=n) :
 ∃v,Bp c h' n (.agg [kw,.str start,rv])=some v/\BP v ⟨kinds,start,rs⟩:=by
 have own:=G.own
 have hr:CU c h' ls rs:=CU.Lr G.len fun j hl hr=>by
  obtain⟨w,e1,e2,e3⟩:=G.each j hl hr
  rcases e2 with⟨_,e2⟩|⟨e,_⟩
  ·exact⟨w,e1,OZ.of (e2.heap fun o ho=>hh o (e3 o ho).1) fun o ho=>by have:=(e3 o ho).1; omega⟩
  ·cases e
 refine QO (g:=⟨kinds,start,rs⟩) hk hr ?_ n hn
 have hlen:=G.len
 have M:=G.sl.heap (h':=h') fun o ho=>hh o (own o ho).1
 generalize ls=xs at M hlen
 cases M with
 |nl=>exact .inl ⟨rfl,by cases rs with|nil=>rfl|cons a l=>simp at hlen⟩
 |mt id ext hf=>exact .inr ⟨id,_,68,ext,[],rfl,by have:=own id rfl; omega,by simpa using hf⟩
 |ob id _ h0 h1 hf=>exact .inr ⟨id,none,68,true,[],rfl,by have:=own id rfl; omega,by rw[List.append_nil]; exact hf⟩
set_option maxHeartbeats 2000000 in
theorem XT {k f:Nat}{a b:List AV}{v:AV}{g:AX}{st:St}{p:Ba->Bool}(hg:BP v g)(hs:g.Small)(hok:g.Ok)(hb:HB st)(HP:cO (k+7) f a b st g p) :
 ∃w,AU E (k+8) 158 [v,.fn (.func f) a b] st=.ret (w,st)/\BP w (g.BG p):=by
 have hg':=hg
 obtain⟨kv,rv0,l,rfl,hk,hr,hrs⟩:=hg'
 have hln:=hrs.length
 have hkn:=hs.kinds
 rw[BS (fn:=C.f158) rfl rfl rfl,Ad (by simp)]
 obtain⟨h,c,lo⟩:=st
 have hb':∀q x,(q,x)∈h->q<c:=hb
 have hbx:Dr c 29 3 (.agg [kv,.str g.start,rv0])=some (.AO c 0,.cells 29 3 [kv,.str g.start,rv0] false):=rfl
 obtain⟨h1,hh1⟩:∃h1:Af,h1=(c,Ai.cells 29 3 [kv,.str g.start,rv0] false)::h:=⟨_,rfl⟩
 have n1:newObj c (.cells 29 3 [kv,.str g.start,rv0] false) ⟨h,c+2,c⟩=some ⟨h1,c+2,c⟩:=by rw[hh1]; exact Ac hb'
 have hb1:HB ⟨h1,c+1,c⟩:=hh1 ▸ HB.cons (h:=h) (c:=c) (lo:=lo) hb (by omega) (by omega)
 obtain⟨h2,hh2⟩:∃h2:Af,h2=(c+1,Ai.cells 29 3 [.AJ,.str [],.AJ] false)::h1:=⟨_,rfl⟩
 have n2:newObj (c+1) (.cells 29 3 [.AJ,.str [],.AJ] false) ⟨h1,c+2,c⟩=some ⟨h2,c+2,c⟩:=by rw[hh2]; exact Ac hb1
 have hb2:HB ⟨h2,c+2,c⟩:=hh2 ▸ HB.cons (h:=h1) (c:=c+1) (lo:=c) hb1 (by omega) (by omega)
 have fg:AA h2 c=some (.cells 29 3 [kv,.str g.start,rv0] false):=by rw[hh2,Ao (by omega),hh1,AL,if_pos rfl]
 have f1:AA h2 (c+1)=some (.cells 29 3 [.AJ,.str [],.AJ] false):=by rw[hh2,AL,if_pos rfl]
 have rg:AZ h2 (.AO c 0) 3=some [kv,.str g.start,rv0]:=Ae fg rfl
 have rk:AP h2 (.AO c 0)=some kv:=by rw[AB fg]; rfl
 have rs:AP h2 (.AO c 1)=some (.str g.start):=by rw[AB fg]; rfl
 have old2:∀q,q<c->AA h2 q=AA h q:=fun q hq=>by rw[hh2,Ao (by omega),hh1,Ao hq]
 obtain⟨cv,e1,hC⟩:=Ov (k:=k) (st:=⟨h2,c+2,c⟩) hg hs hok
 obtain⟨h3,hh3⟩:∃h3:Af,h3=(c+2,Ai.cells 29 3 [.AJ,.str [],.AJ] false)::h2:=⟨_,rfl⟩
 have n3:newObj (c+2) (.cells 29 3 [.AJ,.str [],.AJ] false) ⟨h2,c+2+1,c⟩=some ⟨h3,c+2+1,c⟩:=by rw[hh3]; exact Ac hb2
 have hb3:HB ⟨h3,c+2+1,c⟩:=hh3 ▸ HB.cons (h:=h2) (c:=c+2) (lo:=c) hb2 (by omega) (by omega)
 obtain⟨kw,⟨h4,c4,lo4⟩,k1,k2,k3,Gw⟩:=IB (k:=k+6) (st:=⟨h3,c+2+1,c⟩) (by omega) hk hb3
 have hc4:c+2+1<=c4:=Gw.c
 have hl4:lo4=c:=Gw.lo
 subst hl4
 have old4:∀q,q<lo4+2+1->AA h4 q=AA h3 q:=Gw.Bw
 have k3':∀q,Ah kw=some q->lo4+2+1<=q/\q<c4:=k3
 have f42:AA h4 (lo4+2)=some (.cells 29 3 [.AJ,.str [],.AJ] false):=by rw[old4 _ (by omega),hh3,AL,if_pos rfl]
 have f41:AA h4 (lo4+1)=some (.cells 29 3 [.AJ,.str [],.AJ] false):=by rw[old4 _ (by omega),hh3,Ao (by omega)]; exact f1
 have f40:AA h4 lo4=some (.cells 29 3 [kv,.str g.start,rv0] false):=by rw[old4 _ (by omega),hh3,Ao (by omega)]; exact fg
 have r3s:AP h3 (.AO lo4 1)=some (.str g.start):=by
  have:AA h3 lo4=some (.cells 29 3 [kv,.str g.start,rv0] false):=by rw[hh3,Ao (by omega)]; exact fg
  rw[AB this]; rfl
 have r4s:AP h4 (.AO lo4 1)=some (.str g.start):=by rw[AB f40]; rfl
 have s4:=Cq (st:=⟨h4,c4,lo4⟩) (n:=3) (vs:=[kw,.str g.start,.AJ]) f42 (by show lo4<=lo4+2; omega) rfl rfl
 obtain⟨h5,hh5⟩:∃h5:Af,h5=Ab h4 (lo4+2) (.cells 29 3 [kw,.str g.start,.AJ] false):=⟨_,rfl⟩
 have s4':Bc 3 (.AO (lo4+2) 0) (.agg [kw,.str g.start,.AJ]) ⟨h4,c4,lo4⟩=some (.undef,⟨h5,c4,lo4⟩):=by rw[s4,hh5]
 have f5:∀q,AA h5 q=if lo4+2=q then some (.cells 29 3 [kw,.str g.start,.AJ] false) else AA h4 q:=fun q=>by rw[hh5,AR f42]
 have hone:=k2.one
 have hS0:Nk true ⟨h5,c4,lo4⟩ (lo4+2) kw g.start ⟨h5,c4,lo4⟩ .AJ [] []:=
  ⟨Nat.le_refl _,rfl,hh5 ▸ HB.Ab (st:=⟨h4,c4,lo4⟩) Gw.hb,fun _ _ _=>rfl,by show lo4+2<c4; omega,by show lo4<=lo4+2; omega,by show AA h5 _=_; rw[f5,if_pos rfl],.nl,(fun q hq=>by cases hq),rfl,fun j hj=>by simp at hj⟩
 have loop:=eY (k:=k+6) (oo:=lo4+2) (a4:=.AO (lo4+1) 0) (p:=p) hC hs hr hrs ⟨h,lo4,lo⟩ ⟨h5,c4,lo4⟩ HP (by show lo4<=c4; omega) (by show lo4<=lo4+2; omega) (fun q hq=>by
  have hq':q<lo4:=hq
  show AA h5 q=AA h q
  rw[f5,if_neg (by omega),old4 q (by omega),hh3,Ao (by omega)]; exact old2 q hq') (by show lo4<=c4; omega) hS0
 have r52:AP h5 (.AO lo4 2)=some rv0:=by
  have:AA h5 lo4=some (.cells 29 3 [kv,.str g.start,rv0] false):=by rw[f5,if_neg (by omega)]; exact f40
  rw[AB this]; rfl
 have hlr:∀S':St,BO .slice rv0 S'=some (.int .i64 (g.rules.length:Int),S'):=fun S'=>by have:=hr.len (st:=S'); rw[this,hln]
 obtain⟨P,hP⟩:∃P:AV × St->Prop,P=fun x=>∃w,Bp lo4 x.2.h 64 x.1=some w/\BP w (g.BG p):=⟨_,rfl⟩
 have goal:((Ar E (AU E (k+7)) C.f158.body (TS.CY [.agg [kv,.str g.start,rv0],.fn (.func f) a b] 0 .nil) ⟨h,lo4,lo4⟩).bind (leave C.f158.results)).to P:=by
  simp[C.f158,hbx,n1,n2,rg,e1,De,Dx,Cf,CV,Cv,beq_eq,AV.Cx,rk,rs,n3,k1,r3s,r4s,jh hone,s4',r52,hlr]
  refine M.Al (loop _ (by simp) (by simp) (by simp) (by simp) (by simp) (by simp) (by simp)) fun x hx=>?_
  obtain⟨e,ts1,st1⟩:=x
  obtain⟨ee,g4,g6,rv,ls,G⟩:=hx
  simp only at ee g4 g6 G
  subst ee
  obtain⟨h6,c6,lo6⟩:=st1
  have hl6:lo6=lo4:=G.lo
  subst hl6
  have f6:AA h6 (lo6+2)=some (.cells 29 3 [kw,.str g.start,rv] false):=G.o
  have rd6:AZ h6 (.AO (lo6+2) 0) 3=some [kw,.str g.start,rv]:=Ae f6 rfl
  have f61:AA h6 (lo6+1)=some (.cells 29 3 [.AJ,.str [],.AJ] false):=by
   have:AA h6 (lo6+1)=AA h5 (lo6+1):=G.fr (lo6+1) (by show lo6+1<c4; omega) (by omega)
   rw[this,f5,if_neg (by omega)]; exact f41
  have s6:=Cq (st:=⟨h6,c6,lo6⟩) (n:=3) (vs:=[kw,.str g.start,rv]) f61 (by show lo6<=lo6+1; omega) rfl rfl
  have f7:∀q,AA (Ab h6 (lo6+1) (.cells 29 3 [kw,.str g.start,rv] false)) q=if lo6+1=q then some (.cells 29 3 [kw,.str g.start,rv] false) else AA h6 q:=fun q=>by rw[AR f61]
  have rd7:AZ (Ab h6 (lo6+1) (.cells 29 3 [kw,.str g.start,rv] false)) (.AO (lo6+1) 0) 3=some [kw,.str g.start,rv]:=Ae (by rw[f7,if_pos rfl]) rfl
  simp[g4,g6,rd6,s6,leave,results,AY,ML,rd7]
  rw[hP]
  have hk7:OZ lo6 (Ab h6 (lo6+1) (.cells 29 3 [kw,.str g.start,rv] false)) kw g.kinds:=OZ.of (k2.heap fun o ho=>by
   have:=k3' o ho
   rw[f7,if_neg (by omega)]
   have e:AA h6 o=AA h5 o:=G.fr o (by show o<c4; omega) (by omega)
   rw[e,f5,if_neg (by omega)]) fun o ho=>by have:=k3' o ho; omega
  exact G.th (c:=lo6) (by show lo6<c4; omega) (fun q hq=>by
   have hq':c4<=q:=hq
   rw[f7,if_neg (by omega)]) hk7 64 (by omega)
 obtain⟨⟨w,st'⟩,r1,r2⟩:=goal
 rw[hP] at r2
 obtain⟨w',q1,q2⟩:=r2
 exact⟨w',by rw[r1]; simp only[M.CE,BA,Bu,q1],q2⟩
theorem uW {k n q:Nat}{w:AV}{B:List Bool}{x:Nat}{st:St}(hw:BI w 1 (BJ B))(hl:B.length=n)(hf:AA st.h q=some (.cells 79 1 [w] false))(hx:x<n) :
 AU E (k+1) 160 [.int .i64 (x:Int),.AO q 0] st=.ret (.bool (!B.getD x false),st):=by
 rw[BS (fn:=C.f160) rfl rfl rfl,Ad (by simp)]
 have r:AP st.h (.AO q 0)=some w:=by rw[AB hf]; rfl
 have ix:Aa 1 w (.int .i64 (x:Int)) ⟨st.h,st.c,st.c⟩=some (.BC [.bool (B.getD x false)],⟨st.h,st.c,st.c⟩):=by
  rw[hw.idx (by simp; omega)]; simp[BJ,AV.cells,List.getD,show x<B.length by omega]
 generalize B.getD x false=b at ix
 simp[C.f160,r,ix,leave,results,AY]
theorem rQ {k q n:Nat}{B:List Bool}{v w:AV}{l:List Nat}{st:St}(hw:BI w 1 (ints l))(hl:l.length<=1000)(hln:∀x∈l,x<n)(hv:BI v 1 (BJ B))(hn:B.length=n)(hf:AA st.h q=some (.cells 79 1 [v] false)) :
 AU E (k+3) 135 [w,.fn (.func 160) [] [.AO q 0]] st=.ret (.bool (!l.all fun x=>B.getD x false),st):=by
 have hc:=MR (k:=k+1) (n:=l.length) (fc:=160) (w:=w) (a:=[]) (b:=[.AO q 0]) (el:=fun j=>(l.getD j 0:Nat)) (p:=fun j=>!B.getD (l.getD j 0) false) (st:=st)
  (by rw[hw.QL]; simp) (by omega) (fun i hi=>⟨_,hw.jX hi,by simp[List.getD,hi]⟩) (fun i hi=>uW hv hn hf (by
   have:l.getD i 0=l[i]:=by simp[List.getD,hi]
   rw[this]; exact hln _ (List.getElem_mem hi)))
 have e:decide (∃i,i<l.length/\(!B.getD (l.getD i 0) false)=true)=!l.all fun x=>B.getD x false:=by
  rw[Bool.eq_iff_iff]
  simp only[decide_eq_true_eq,Bool.not_eq_true',List.all_eq_false]
  constructor
  ·rintro⟨i,hi,h⟩
   have e:l.getD i 0=l[i]:=by simp[List.getD,hi]
   rw[e] at h
   exact⟨l[i],List.getElem_mem hi,by rw[h]; simp⟩
  ·rintro⟨s,hs,h⟩
   obtain⟨i,hi,rfl⟩:=List.getElem_of_mem hs
   have e:l.getD i 0=l[i]:=by simp[List.getD,hi]
   exact⟨i,hi,by rw[e]; simpa using h⟩
 rw[e] at hc
 exact hc
theorem lU {k q:Nat}{w:AV}{B:List Bool}{g:AX}{st0:St}(hs:g.Small)(hok:g.Ok)(hw:BI w 1 (BJ B))(hl:B.length=g.names.length)(hq:q<st0.c)(hf:AA st0.h q=some (.cells 79 1 [w] false)) :
 cO (k+4) 159 [] [.AO q 0] st0 g fun r=>B.getD (g.ix r.left) false&&(r.right.map g.ix).all fun x=>B.getD x false:=by
 intro st wn r hr hX e2
 rw[BS (fn:=C.f159) rfl rfl rfl,Ad (by simp)]
 obtain⟨h,c,lo⟩:=st
 have hb':∀p x,(p,x)∈h->p<c:=hX.hb
 have hqc:q<c:=Nat.lt_of_lt_of_le hq hX.c
 have hsr:=(hs.rules _ hr).right
 obtain⟨sI,hsI⟩:∃s,s=g.ix r.left:=⟨_,rfl⟩
 have hsn:sI<g.names.length:=hsI ▸ Rj (AX.Ch hr)
 show _=M.ret (AV.bool (B.getD (g.ix r.left) false&&(r.right.map g.ix).all fun x=>B.getD x false),(⟨h,c,lo⟩:St))
 rw[← hsI]
 have hbx:Dr c 160 3 (.agg [.int .i64 (sI:Int),wn,.int .i64 r.level])=some (.AO c 0,.cells 160 3 [.int .i64 (sI:Int),wn,.int .i64 r.level] false):=rfl
 obtain⟨h1,hh1⟩:∃h1:Af,h1=(c,Ai.cells 160 3 [.int .i64 (sI:Int),wn,.int .i64 r.level] false)::h:=⟨_,rfl⟩
 have n1:newObj c (.cells 160 3 [.int .i64 (sI:Int),wn,.int .i64 r.level] false) ⟨h,c+1,c⟩=some ⟨h1,c+1,c⟩:=by rw[hh1]; exact Ac hb'
 have fc:AA h1 c=some (.cells 160 3 [.int .i64 (sI:Int),wn,.int .i64 r.level] false):=by rw[hh1,AL,if_pos rfl]
 have fq:AA h1 q=some (.cells 79 1 [w] false):=by rw[hh1,Ao hqc]; exact (hX.fr q hq).trans hf
 have r0:AP h1 (.AO c 0)=some (.int .i64 (sI:Int)):=by rw[AB fc]; rfl
 have r1:AP h1 (.AO c 1)=some wn:=by rw[AB fc]; rfl
 have rq:AP h1 (.AO q 0)=some w:=by rw[AB fq]; rfl
 have ix:Aa 1 w (.int .i64 (sI:Int)) ⟨h1,c+1,c⟩=some (.BC [.bool (B.getD sI false)],⟨h1,c+1,c⟩):=by
  rw[hw.idx (by simp; omega)]; simp[BJ,AV.cells,List.getD,show sI<B.length by omega]
 have hbad:=rQ (k:=k) (l:=r.right.map g.ix) (st:=⟨h1,c+1,c⟩) e2 (by simp; omega) (fun x hx=>by
  obtain⟨y,hy,rfl⟩:=List.mem_map.1 hx
  exact Rj (AX.FK hok hr hy)) hw hl fq
 generalize ((r.right.map g.ix).all fun x=>B.getD x false)=al at hbad
 generalize B.getD sI false=b at ix
 cases b with
 |true=>simp[C.f159,Az,Av,hbx,n1,r0,r1,rq,ix,hbad,leave,results,AY]
 |false=>simp[C.f159,Az,Av,hbx,n1,r0,r1,rq,ix,leave,results,AY]
theorem lT {k q:Nat}{w:AV}{B:List Bool}{g:AX}{st0:St}(hw:BI w 1 (BJ B))(hl:B.length=g.names.length)(hq:q<st0.c)(hf:AA st0.h q=some (.cells 79 1 [w] false)) :
 cO (k+1) 161 [] [.AO q 0] st0 g fun r=>B.getD (g.ix r.left) false:=by
 intro st wn r hr hX e2
 rw[BS (fn:=C.f161) rfl rfl rfl,Ad (by simp)]
 obtain⟨h,c,lo⟩:=st
 have hb':∀p x,(p,x)∈h->p<c:=hX.hb
 have hqc:q<c:=Nat.lt_of_lt_of_le hq hX.c
 obtain⟨sI,hsI⟩:∃s,s=g.ix r.left:=⟨_,rfl⟩
 have hsn:sI<g.names.length:=hsI ▸ Rj (AX.Ch hr)
 show _=M.ret (AV.bool (B.getD (g.ix r.left) false),(⟨h,c,lo⟩:St))
 rw[← hsI]
 have hbx:Dr c 160 3 (.agg [.int .i64 (sI:Int),wn,.int .i64 r.level])=some (.AO c 0,.cells 160 3 [.int .i64 (sI:Int),wn,.int .i64 r.level] false):=rfl
 obtain⟨h1,hh1⟩:∃h1:Af,h1=(c,Ai.cells 160 3 [.int .i64 (sI:Int),wn,.int .i64 r.level] false)::h:=⟨_,rfl⟩
 have n1:newObj c (.cells 160 3 [.int .i64 (sI:Int),wn,.int .i64 r.level] false) ⟨h,c+1,c⟩=some ⟨h1,c+1,c⟩:=by rw[hh1]; exact Ac hb'
 have fc:AA h1 c=some (.cells 160 3 [.int .i64 (sI:Int),wn,.int .i64 r.level] false):=by rw[hh1,AL,if_pos rfl]
 have fq:AA h1 q=some (.cells 79 1 [w] false):=by rw[hh1,Ao hqc]; exact (hX.fr q hq).trans hf
 have r0:AP h1 (.AO c 0)=some (.int .i64 (sI:Int)):=by rw[AB fc]; rfl
 have rq:AP h1 (.AO q 0)=some w:=by rw[AB fq]; rfl
 have ix:Aa 1 w (.int .i64 (sI:Int)) ⟨h1,c+1,c⟩=some (.BC [.bool (B.getD sI false)],⟨h1,c+1,c⟩):=by
  rw[hw.idx (by simp; omega)]; simp[BJ,AV.cells,List.getD,show sI<B.length by omega]
 generalize B.getD sI false=b at ix
 simp[C.f161,hbx,n1,r0,rq,ix,leave,results,AY]
theorem AX.Lu {g:AX}(hs:g.Small)(p:Ba->Bool):(g.BG p).Small:=
 ⟨hs.kinds,hs.names,hs.start,Nat.le_trans (List.length_filter_le _ _) hs.many,fun r hr=>hs.rules r (List.mem_filter.1 hr).1⟩
theorem AX.Sr {g:AX}{p:Ba->Bool}{s:Aj}:s∈(g.BG p).CB↔∃r∈g.rules,p r=true/\r.left=s:=by
 rw[AX.IM]
 unfold AX.isLeft
 rw[List.any_eq_true]
 constructor
 ·rintro⟨r,hr,h⟩
  obtain⟨h1,h2⟩:=List.mem_filter.1 hr
  exact⟨r,h1,h2,by simpa using h⟩
 ·rintro⟨r,h1,h2,h3⟩
  exact⟨r,List.mem_filter.2 ⟨h1,h2⟩,by simpa using h3⟩
theorem AX.jR {g:AX}{p:Ba->Bool}{s:Aj}(h:s∈(g.BG p).CB):s∈g.CB:=by
 obtain⟨r,h1,_,rfl⟩:=AX.Sr.1 h
 exact AX.Mq h1
 noncomputable def qx (g:AX)(r:Ba):Bool:=@decide (∀s∈r.right,Md g s) (Classical.propDecidable _)
theorem PO {g:AX}{r:Ba}:qx g r=true↔∀s∈r.right,Md g s:=by unfold qx; simp
 noncomputable def AX.fit (g:AX):AX:=g.BG (qx g)
 noncomputable def VK (g:AX)(r:Ba):Bool:=@decide (Reach g r.left) (Classical.propDecidable _)
theorem SQ {g:AX}{r:Ba}:VK g r=true↔Reach g r.left:=by unfold VK; simp
 noncomputable def AX.trim (g:AX):AX:=g.fit.BG (VK g.fit)
theorem Uj {g:AX}(hok:g.Ok){s:Aj}(h:Md g s)(hl:s∈g.CB):s∈g.fit.CB:=by
 cases h with
 |base h=>exact absurd hl (hok.apart s h)
 |@KP r hr h=>exact AX.Sr.2 ⟨r,hr,PO.2 h,rfl⟩
theorem AX.jg {g:AX}(hok:g.Ok)(hf:Md g g.start):g.fit.Ok where
 up:=hok.up
 apart:=fun s hs hl=>hok.apart s hs (AX.jR hl)
 syms:=fun r hr s hs=>by
  obtain⟨h1,h2⟩:=List.mem_filter.1 hr
  rcases hok.syms r h1 s hs with h|h
  ·exact .inl h
  ·exact .inr (Uj hok (PO.1 h2 s hs) h)
 start:=Uj hok hf hok.start
theorem AX.Su {g:AX}{p q:Ba->Bool}(h:∀r∈g.rules,p r=q r):g.BG p=g.BG q:=by
 unfold AX.BG
 rw[List.filter_congr h]
def Rv:AV:=.agg [.AJ,.str [],.AJ]
set_option maxHeartbeats 4000000 in
theorem Qd {k:Nat}{v:AV}{g:AX}{st:St}(hg:BP v g)(hs:g.Small)(hok:g.Ok) :
 (Md g g.start->∃w,AU E (k+9) 90 [v] st=.ret (.tuple [w,.bool true],st)/\BP w g.trim)/\(¬Md g g.start->AU E (k+9) 90 [v] st=.ret (.tuple [v,.bool false],st)):=by
 have hold:=hg.Gi 0
 have hg':=hg
 obtain⟨kv,rv0,l,rfl,hk,hr,hrs⟩:=hg'
 rw[BZ (fn:=C.f90) rfl rfl rfl (by rw[AV.CL,hold]; rfl),Ad (by simp)]
 have hbx:Dr 0 29 3 (.agg [kv,.str g.start,rv0])=some (.AO 0 0,.cells 29 3 [kv,.str g.start,rv0] false):=rfl
 have n1:newObj 0 (.cells 29 3 [kv,.str g.start,rv0] false) ⟨[],2,0⟩=some ⟨[(0,.cells 29 3 [kv,.str g.start,rv0] false)],2,0⟩:=rfl
 obtain⟨h1,hh1⟩:∃h1:Af,h1=[(1,Ai.cells 29 3 [.AJ,.str [],.AJ] false),(0,.cells 29 3 [kv,.str g.start,rv0] false)]:=⟨_,rfl⟩
 have n2:newObj 1 (.cells 29 3 [.AJ,.str [],.AJ] false) ⟨[(0,.cells 29 3 [kv,.str g.start,rv0] false)],2,0⟩=some ⟨h1,2,0⟩:=by rw[hh1]; rfl
 have hb1:HB ⟨h1,2,0⟩:=fun p x hp=>by
  rw[hh1] at hp; show p<2
  simp only[List.mem_cons,List.not_mem_nil,or_false] at hp
  rcases hp with e|e <;> cases e <;> omega
 have f0:AA h1 0=some (.cells 29 3 [kv,.str g.start,rv0] false):=by rw[hh1]; rfl
 have f1:AA h1 1=some (.cells 29 3 [.AJ,.str [],.AJ] false):=by rw[hh1]; rfl
 have rg:AZ h1 (.AO 0 0) 3=some [kv,.str g.start,rv0]:=Ae f0 rfl
 obtain⟨cv,e1,hC⟩:=Ov (k:=k+1) (st:=⟨h1,2,0⟩) hg hs hok
 obtain⟨fw,B,e2,e3,e4,e5⟩:=RX (k:=k+1) (st:=⟨h1,3,0⟩) hC hs hok
 have n3:newObj 2 (.cells 79 1 [.AJ] false) ⟨h1,3,0⟩=some ⟨(2,.cells 79 1 [.AJ] false)::h1,3,0⟩:=Ac hb1
 obtain⟨h2,hh2⟩:∃h2:Af,h2=(2,Ai.cells 79 1 [fw] false)::h1:=⟨_,rfl⟩
 have hone:fw.isTuple=false/\fw.cells=[fw]:=by rcases e3.out with⟨rfl,_⟩|⟨t,rfl⟩ <;> exact⟨rfl,rfl⟩
 have s3:Bc 1 (.AO 2 0) fw ⟨(2,.cells 79 1 [.AJ] false)::h1,3,0⟩=some (.undef,⟨h2,3,0⟩):=by
  rw[BX (cs:=[.AJ]) (ty:=79) (sz:=1) (ext:=false) (by rw[AL,if_pos rfl]) (by show 0<=2; omega) (by simp) hone.1 hone.2,hh2]
  simp[Ab]
 have hb2:HB ⟨h2,3,0⟩:=by rw[hh2]; exact HB.cons (h:=h1) (c:=2) (lo:=0) hb1 (by omega) (by omega)
 have f20:AA h2 0=some (.cells 29 3 [kv,.str g.start,rv0] false):=by rw[hh2,Ao (by omega)]; exact f0
 have f21:AA h2 1=some (.cells 29 3 [.AJ,.str [],.AJ] false):=by rw[hh2,Ao (by omega)]; exact f1
 have f22:AA h2 2=some (.cells 79 1 [fw] false):=by rw[hh2,AL,if_pos rfl]
 have rg2:AZ h2 (.AO 0 0) 3=some [kv,.str g.start,rv0]:=Ae f20 rfl
 have r22:AP h2 (.AO 2 0)=some fw:=by rw[AB f22]; rfl
 have hstn:g.start∈g.names:=List.mem_append.2 (.inr hok.start)
 have hsn:=Rj hstn
 have ixF:Aa 1 fw (.int .i64 (g.ix g.start:Nat)) ⟨h2,3,0⟩=some (.BC [.bool (B.getD (g.ix g.start) false)],⟨h2,3,0⟩):=by
  rw[e3.idx (by simp; omega)]; simp[BJ,AV.cells,List.getD,show g.ix g.start<B.length by omega]
 obtain⟨nn,rvc,ov,lr,lo',e0,_⟩:=hC.out
 constructor
 ·intro hF
  have hb:B.getD (g.ix g.start) false=true:=(e5 g.start hstn).2 hF
  rw[hb] at ixF
  have HP1:=lU (k:=k+3) (q:=2) (st0:=⟨h2,3,0⟩) hs hok e3 e4 (by show 2<3; omega) f22
  obtain⟨w1,k1,k2⟩:=XT (k:=k) (st:=⟨h2,3,0⟩) hg hs hok hb2 HP1
  have hfit:g.BG (fun r=>B.getD (g.ix r.left) false&&(r.right.map g.ix).all fun x=>B.getD x false)=g.fit:=by
   refine AX.Su fun r hr=>?_
   rw[Bool.eq_iff_iff,Bool.and_eq_true,List.all_eq_true,PO,e5 _ (AX.Ch hr)]
   constructor
   ·rintro⟨_,h⟩ s hs'
    exact (e5 s (AX.FK hok hr hs')).1 (h _ (List.mem_map_of_mem hs'))
   ·intro h
    refine⟨.KP hr h,fun x hx=>?_⟩
    obtain⟨y,hy,rfl⟩:=List.mem_map.1 hx
    exact (e5 y (AX.FK hok hr hy)).2 (h y hy)
  rw[hfit] at k2
  have hok1:=AX.jg hok hF
  have hs1:g.fit.Small:=AX.Lu hs _
  have hst1:g.fit.start=g.start:=rfl
  have hk2:=k2
  obtain⟨kv1,rv1,l1,rfl,hk1,hr1,hrs1⟩:=hk2
  rw[hst1] at k1 k2
  have s4:=Cq (st:=⟨h2,3,0⟩) (n:=3) (vs:=[kv1,.str g.start,rv1]) f20 (Nat.le_refl _) rfl rfl
  obtain⟨h3,hh3⟩:∃h3:Af,h3=Ab h2 0 (.cells 29 3 [kv1,.str g.start,rv1] false):=⟨_,rfl⟩
  have s4':Bc 3 (.AO 0 0) (.agg [kv1,.str g.start,rv1]) ⟨h2,3,0⟩=some (.undef,⟨h3,3,0⟩):=by rw[s4,hh3]
  have f3:∀q,AA h3 q=if 0=q then some (.cells 29 3 [kv1,.str g.start,rv1] false) else AA h2 q:=fun q=>by rw[hh3,AR f20]
  have hb3:HB ⟨h3,3,0⟩:=hh3 ▸ HB.Ab (st:=⟨h2,3,0⟩) hb2
  have rg3:AZ h3 (.AO 0 0) 3=some [kv1,.str g.start,rv1]:=Ae (by rw[f3,if_pos rfl]) rfl
  obtain⟨cv1,e11,hC1⟩:=Ov (k:=k+1) (st:=⟨h3,4,0⟩) k2 hs1 hok1
  obtain⟨rw1,RB,e12,e13,e14,e15⟩:=MQ (k:=k+1) (st:=⟨h3,4,0⟩) hC1 hs1 hok1
  have n5:newObj 3 (.cells 79 1 [.AJ] false) ⟨h3,4,0⟩=some ⟨(3,.cells 79 1 [.AJ] false)::h3,4,0⟩:=Ac hb3
  obtain⟨h4,hh4⟩:∃h4:Af,h4=(3,Ai.cells 79 1 [rw1] false)::h3:=⟨_,rfl⟩
  have hone1:rw1.isTuple=false/\rw1.cells=[rw1]:=by rcases e13.out with⟨rfl,_⟩|⟨t,rfl⟩ <;> exact⟨rfl,rfl⟩
  have s5:Bc 1 (.AO 3 0) rw1 ⟨(3,.cells 79 1 [.AJ] false)::h3,4,0⟩=some (.undef,⟨h4,4,0⟩):=by
   rw[BX (cs:=[.AJ]) (ty:=79) (sz:=1) (ext:=false) (by rw[AL,if_pos rfl]) (by show 0<=3; omega) (by simp) hone1.1 hone1.2,hh4]
   simp[Ab]
  have hb4:HB ⟨h4,4,0⟩:=by rw[hh4]; exact HB.cons (h:=h3) (c:=3) (lo:=0) hb3 (by omega) (by omega)
  have f40:AA h4 0=some (.cells 29 3 [kv1,.str g.start,rv1] false):=by rw[hh4,Ao (by omega),f3,if_pos rfl]
  have f41:AA h4 1=some (.cells 29 3 [.AJ,.str [],.AJ] false):=by rw[hh4,Ao (by omega),f3,if_neg (by omega)]; exact f21
  have f43:AA h4 3=some (.cells 79 1 [rw1] false):=by rw[hh4,AL,if_pos rfl]
  have rg4:AZ h4 (.AO 0 0) 3=some [kv1,.str g.start,rv1]:=Ae f40 rfl
  have HP2:=lT (k:=k+6) (q:=3) (g:=g.fit) (st0:=⟨h4,4,0⟩) e13 e14 (by show 3<4; omega) f43
  obtain⟨w2,k3,k4⟩:=XT (k:=k) (st:=⟨h4,4,0⟩) k2 hs1 hok1 hb4 HP2
  have htrim:g.fit.BG (fun r=>RB.getD (g.fit.ix r.left) false)=g.trim:=by
   refine AX.Su fun r hr=>?_
   rw[Bool.eq_iff_iff,SQ,e15 _ (AX.Ch hr)]
  rw[htrim] at k4
  have hk4:=k4
  obtain⟨kv2,rv2,l2,rfl,_⟩:=hk4
  have hst2:g.trim.start=g.start:=rfl
  rw[hst2] at k3 k4
  have s6:=Cq (st:=⟨h4,4,0⟩) (n:=3) (vs:=[kv2,.str g.start,rv2]) f41 (Nat.zero_le _) rfl rfl
  have rd6:AZ (Ab h4 1 (.cells 29 3 [kv2,.str g.start,rv2] false)) (.AO 1 0) 3=some [kv2,.str g.start,rv2]:=Ae (by rw[AR f41,if_pos rfl]) rfl
  refine⟨.agg [kv2,.str g.start,rv2],?_,k4⟩
  have ho:=k4.Gi 0
  have fin:∀S,BA 0 st (.tuple [.agg [kv2,.str g.start,rv2],.bool true],S)=.ret (.tuple [.agg [kv2,.str g.start,rv2],.bool true],st):=fun S=>Ca (by show AV.CL 0 [_,_]=true; rw[AV.CL,ho]; rfl)
  have main:(Ar E (AU E (k+8)) C.f90.body (TS.CY [.agg [kv,.str g.start,rv0]] 0 .nil) ⟨[],0,0⟩).to fun x=>x.1=.ret/\x.2.1.get 2=.AO 1 0/\x.2.1.get 3=.bool true/\x.2.2=⟨Ab h4 1 (.cells 29 3 [kv2,.str g.start,rv2] false),4,0⟩:=by
   refine FP (Q:=fun x=>x.1=.normal/\x.2.1.get 1=.AO 0 0/\x.2.1.get 2=.AO 1 0/\x.2.2=⟨h1,2,0⟩) (by simp[hbx,n1,n2]) fun x hx=>?_
   obtain⟨e,ts1,st1⟩:=x
   obtain⟨ee,z1,z2,es⟩:=hx
   simp only at ee z1 z2 es
   refine⟨ee,?_⟩
   subst es
   refine FP (Q:=fun x=>x.1=.normal/\x.2.1.get 1=.AO 0 0/\x.2.1.get 2=.AO 1 0/\x.2.1.get 4=cv/\x.2.2=⟨h1,2,0⟩) (by simp[z1,z2,rg,e1]) fun x hx=>?_
   obtain⟨e,ts2,st1⟩:=x
   obtain⟨ee,z1,z2,z4,es⟩:=hx
   simp only at ee z1 z2 z4 es
   refine⟨ee,?_⟩
   subst es
   refine FP (Q:=fun x=>x.1=.normal/\x.2.1.get 1=.AO 0 0/\x.2.1.get 2=.AO 1 0/\x.2.1.get 4=cv/\x.2.1.get 5=.AO 2 0/\x.2.2=⟨h2,3,0⟩) (by simp[z1,z2,z4,e2,n3,s3]) fun x hx=>?_
   obtain⟨e,ts3,st1⟩:=x
   obtain⟨ee,z1,z2,z4,z5,es⟩:=hx
   simp only at ee z1 z2 z4 z5 es
   refine⟨ee,?_⟩
   subst es
   have e0':=e0
   rw[e0'] at z4
   refine FP (Q:=fun x=>x.1=.normal/\x.2.1.get 1=.AO 0 0/\x.2.1.get 2=.AO 1 0/\x.2.1.get 5=.AO 2 0/\x.2.2=⟨h2,3,0⟩) (by simp[z1,z2,z4,z5,r22,ixF]) fun x hx=>?_
   obtain⟨e,ts4,st1⟩:=x
   obtain⟨ee,z1,z2,z5,es⟩:=hx
   simp only at ee z1 z2 z5 es
   refine⟨ee,?_⟩
   subst es
   refine FP (Q:=fun x=>x.1=.normal/\x.2.1.get 1=.AO 0 0/\x.2.1.get 2=.AO 1 0/\x.2.2=⟨h3,3,0⟩) (by simp[z1,z2,z5,rg2,k1,s4']) fun x hx=>?_
   obtain⟨e,ts5,st1⟩:=x
   obtain⟨ee,z1,z2,es⟩:=hx
   simp only at ee z1 z2 es
   refine⟨ee,?_⟩
   subst es
   refine FP (Q:=fun x=>x.1=.normal/\x.2.1.get 1=.AO 0 0/\x.2.1.get 2=.AO 1 0/\x.2.1.get 6=.AO 3 0/\x.2.2=⟨h4,4,0⟩) (by simp[z1,z2,rg3,e11,e12,n5,s5]) fun x hx=>?_
   obtain⟨e,ts6,st1⟩:=x
   obtain⟨ee,z1,z2,z6,es⟩:=hx
   simp only at ee z1 z2 z6 es
   refine⟨ee,?_⟩
   subst es
   simp[z1,z2,z6,rg4,k3,s6]
  obtain⟨⟨e,ts7,st7⟩,m1,m2,m3,m4,m5⟩:=main
  simp only at m2 m3 m4 m5
  subst m2 m5
  rw[m1]
  have hres:C.f90.results=[.cell 2 (some 3),.tmp 3]:=rfl
  simp[hres,m3,m4,leave,results,AY,ML,rd6,fin]
 ·intro hF
  have hb:B.getD (g.ix g.start) false=false:=by
   cases h:B.getD (g.ix g.start) false with
   |false=>rfl
   |true=>exact absurd ((e5 g.start hstn).1 h) hF
  rw[hb] at ixF
  have s6:=Cq (st:=⟨h2,3,0⟩) (n:=3) (vs:=[kv,.str g.start,rv0]) f21 (Nat.zero_le _) rfl rfl
  have rd6:AZ (Ab h2 1 (.cells 29 3 [kv,.str g.start,rv0] false)) (.AO 1 0) 3=some [kv,.str g.start,rv0]:=Ae (by rw[AR f21,if_pos rfl]) rfl
  have fin:∀S,BA 0 st (.tuple [.agg [kv,.str g.start,rv0],.bool false],S)=.ret (.tuple [.agg [kv,.str g.start,rv0],.bool false],st):=fun S=>Ca (by show AV.CL 0 [_,_]=true; rw[AV.CL,hold]; rfl)
  have main:(Ar E (AU E (k+8)) C.f90.body (TS.CY [.agg [kv,.str g.start,rv0]] 0 .nil) ⟨[],0,0⟩).to fun x=>x.1=.ret/\x.2.1.get 2=.AO 1 0/\x.2.1.get 3=.bool false/\x.2.2=⟨Ab h2 1 (.cells 29 3 [kv,.str g.start,rv0] false),3,0⟩:=by
   refine FP (Q:=fun x=>x.1=.normal/\x.2.1.get 1=.AO 0 0/\x.2.1.get 2=.AO 1 0/\x.2.2=⟨h1,2,0⟩) (by simp[hbx,n1,n2]) fun x hx=>?_
   obtain⟨e,ts1,st1⟩:=x
   obtain⟨ee,z1,z2,es⟩:=hx
   simp only at ee z1 z2 es
   refine⟨ee,?_⟩
   subst es
   refine FP (Q:=fun x=>x.1=.normal/\x.2.1.get 1=.AO 0 0/\x.2.1.get 2=.AO 1 0/\x.2.1.get 4=cv/\x.2.2=⟨h1,2,0⟩) (by simp[z1,z2,rg,e1]) fun x hx=>?_
   obtain⟨e,ts2,st1⟩:=x
   obtain⟨ee,z1,z2,z4,es⟩:=hx
   simp only at ee z1 z2 z4 es
   refine⟨ee,?_⟩
   subst es
   refine FP (Q:=fun x=>x.1=.normal/\x.2.1.get 1=.AO 0 0/\x.2.1.get 2=.AO 1 0/\x.2.1.get 4=cv/\x.2.1.get 5=.AO 2 0/\x.2.2=⟨h2,3,0⟩) (by simp[z1,z2,z4,e2,n3,s3]) fun x hx=>?_
   obtain⟨e,ts3,st1⟩:=x
   obtain⟨ee,z1,z2,z4,z5,es⟩:=hx
   simp only at ee z1 z2 z4 z5 es
   refine⟨ee,?_⟩
   subst es
   have e0':=e0
   rw[e0'] at z4
   simp[z1,z2,z4,z5,r22,ixF,rg2,s6]
  obtain⟨⟨e,ts7,st7⟩,m1,m2,m3,m4,m5⟩:=main
  simp only at m2 m3 m4 m5
  subst m2 m5
  rw[m1]
  have hres:C.f90.results=[.cell 2 (some 3),.tmp 3]:=rfl
  simp[hres,m3,m4,leave,results,AY,ML,rd6,fin]
structure cB (g:AX)(w:AV)(e:Int):Prop where
 bad:g.fault≠0->w=Rv/\e=g.fault
 none_:g.fault=0->¬Md g g.start->w=Rv/\e=8
 Mw:g.fault=0->Md g g.start->e=0/\BP w g.trim
set_option maxHeartbeats 2000000 in
theorem Vg {k:Nat}{v:AV}{g:AX}{st:St}(hg:BP v g)(hs:g.Small) :
 ∃w e,AU E (k+10) 25 [v] st=.ret (.tuple [w,.int .i64 e],st)/\cB g w e:=by
 have hold:=hg.Gi 0
 have hg':=hg
 obtain⟨kv,rv0,l,rfl,hk,hr,hrs⟩:=hg'
 rw[BZ (fn:=C.f25) rfl rfl rfl (by rw[AV.CL,hold]; rfl),Ad (by simp)]
 have hbx:Dr 0 29 3 (.agg [kv,.str g.start,rv0])=some (.AO 0 0,.cells 29 3 [kv,.str g.start,rv0] false):=rfl
 have n1:newObj 0 (.cells 29 3 [kv,.str g.start,rv0] false) ⟨[],2,0⟩=some ⟨[(0,.cells 29 3 [kv,.str g.start,rv0] false)],2,0⟩:=rfl
 obtain⟨h1,hh1⟩:∃h1:Af,h1=[(1,Ai.cells 29 3 [.AJ,.str [],.AJ] false),(0,.cells 29 3 [kv,.str g.start,rv0] false)]:=⟨_,rfl⟩
 have n2:newObj 1 (.cells 29 3 [.AJ,.str [],.AJ] false) ⟨[(0,.cells 29 3 [kv,.str g.start,rv0] false)],2,0⟩=some ⟨h1,2,0⟩:=by rw[hh1]; rfl
 have hb1:HB ⟨h1,2,0⟩:=fun p x hp=>by
  rw[hh1] at hp; show p<2
  simp only[List.mem_cons,List.not_mem_nil,or_false] at hp
  rcases hp with e|e <;> cases e <;> omega
 have f0:AA h1 0=some (.cells 29 3 [kv,.str g.start,rv0] false):=by rw[hh1]; rfl
 have f1:AA h1 1=some (.cells 29 3 [.AJ,.str [],.AJ] false):=by rw[hh1]; rfl
 have rg:AZ h1 (.AO 0 0) 3=some [kv,.str g.start,rv0]:=Ae f0 rfl
 have hck:=QW (k:=k+3) (st:=⟨h1,2,0⟩) hg hs
 have hfz:BB [.AJ,.str [],.AJ] [] []=some [.AJ,.str [],.AJ]:=rfl
 have sz:∀(h:Af) (c:Nat),AA h 1=some (.cells 29 3 [.AJ,.str [],.AJ] false)->Bc 3 (.AO 1 0) (.agg [.AJ,.str [],.AJ]) ⟨h,c,0⟩=some (.undef,⟨Ab h 1 (.cells 29 3 [.AJ,.str [],.AJ] false),c,0⟩)/\AZ (Ab h 1 (.cells 29 3 [.AJ,.str [],.AJ] false)) (.AO 1 0) 3=some [.AJ,.str [],.AJ]:=fun h c hf=>
  ⟨Cq (st:=⟨h,c,0⟩) (n:=3) (vs:=[.AJ,.str [],.AJ]) hf (Nat.zero_le _) rfl rfl,Ae (by rw[AR hf,if_pos rfl]) rfl⟩
 have fin:∀(w:AV) (e:Int) S,w.Bw 0=true->BA 0 st (.tuple [w,.int .i64 e],S)=.ret (.tuple [w,.int .i64 e],st):=fun w e S hw=>Ca (by show AV.CL 0 [_,_]=true; rw[AV.CL,hw]; rfl)
 by_cases hz:g.fault=0
 ·have hok:=AX.ok hz
  rw[hz] at hck
  by_cases hF:Md g g.start
  ·obtain⟨w,t1,t2⟩:=(Qd (k:=k) (st:=⟨h1,3,0⟩) hg hs hok).1 hF
   have ht2:=t2
   obtain⟨kv2,rv2,l2,rfl,_⟩:=ht2
   have hst2:g.trim.start=g.start:=rfl
   rw[hst2] at t1 t2
   have n3:newObj 2 (.cells 29 3 [.AJ,.str [],.AJ] false) ⟨h1,3,0⟩=some ⟨(2,.cells 29 3 [.AJ,.str [],.AJ] false)::h1,3,0⟩:=Ac hb1
   have s3:=CO (h:=h1) (c:=2) (c':=3) (lo:=0) (ty:=29) (n:=3) (zs:=[.AJ,.str [],.AJ]) (vs:=[kv2,.str g.start,rv2]) (by omega) rfl rfl
   obtain⟨h2,hh2⟩:∃h2:Af,h2=(2,Ai.cells 29 3 [kv2,.str g.start,rv2] false)::h1:=⟨_,rfl⟩
   rw[← hh2] at s3
   have rd2:AZ h2 (.AO 2 0) 3=some [kv2,.str g.start,rv2]:=Ae (by rw[hh2,AL,if_pos rfl]) rfl
   have f21:AA h2 1=some (.cells 29 3 [.AJ,.str [],.AJ] false):=by rw[hh2,Ao (by omega)]; exact f1
   have s6:=Cq (st:=⟨h2,3,0⟩) (n:=3) (vs:=[kv2,.str g.start,rv2]) f21 (Nat.zero_le _) rfl rfl
   have rd6:AZ (Ab h2 1 (.cells 29 3 [kv2,.str g.start,rv2] false)) (.AO 1 0) 3=some [kv2,.str g.start,rv2]:=Ae (by rw[AR f21,if_pos rfl]) rfl
   refine⟨.agg [kv2,.str g.start,rv2],0,?_,fun h=>absurd hz h,fun _ h=>absurd hF h,fun _ _=>⟨rfl,t2⟩⟩
   simp[C.f25,hbx,n1,n2,rg,hck,t1,n3,s3,rd2,s6,leave,results,AY,ML,rd6]
   exact fin _ _ _ (t2.Gi 0)
  ·have t1:=(Qd (k:=k) (st:=⟨h1,3,0⟩) hg hs hok).2 hF
   have n3:newObj 2 (.cells 29 3 [.AJ,.str [],.AJ] false) ⟨h1,3,0⟩=some ⟨(2,.cells 29 3 [.AJ,.str [],.AJ] false)::h1,3,0⟩:=Ac hb1
   have s3:=CO (h:=h1) (c:=2) (c':=3) (lo:=0) (ty:=29) (n:=3) (zs:=[.AJ,.str [],.AJ]) (vs:=[kv,.str g.start,rv0]) (by omega) rfl rfl
   obtain⟨h2,hh2⟩:∃h2:Af,h2=(2,Ai.cells 29 3 [kv,.str g.start,rv0] false)::h1:=⟨_,rfl⟩
   rw[← hh2] at s3
   have f21:AA h2 1=some (.cells 29 3 [.AJ,.str [],.AJ] false):=by rw[hh2,Ao (by omega)]; exact f1
   obtain⟨q1,q2⟩:=sz h2 3 f21
   refine⟨Rv,8,?_,fun h=>absurd hz h,fun _ _=>⟨rfl,rfl⟩,fun _ h=>absurd h hF⟩
   simp[C.f25,hbx,n1,n2,rg,hck,t1,n3,s3,hfz,q1,q2,leave,results,AY,ML]
   exact fin _ _ _ rfl
 ·have hzb:(g.fault != 0)=true:=by simpa using hz
  obtain⟨q1,q2⟩:=sz h1 2 f1
  refine⟨Rv,g.fault,?_,fun _=>⟨rfl,rfl⟩,fun h=>absurd h hz,fun h=>absurd h hz⟩
  simp[C.f25,hbx,n1,n2,rg,hck,hzb,hz,hfz,q1,q2,leave,results,AY,ML]
  exact fin _ _ _ rfl
end Go.Am
