/- A part of the proof of beginningsTold (merged by a program). -/
import Derived.Test.YtehhlchbbdaipaaGreatDoorX
import Derived.Carry
import Derived.LaidMore
import Derived.Lib.LaidTab
import Derived.OpenShut
import Derived.ProofKit
import Derived.Stop.Joined
import Derived.Stop.LaidErr
import Derived.Test.YtehhlchbbdaipaaGreatDoorCards
import Derived.Test.YtehhlchbbdaipaaGreatDoorTie
namespace Go.Am
open Go Go.Proofs Go.RowKit Go.ChangeShapes Go.WideShapes Go.ChangeAt
open Go.Proofs.YtehhlchbbdaipaaGreatDoor
theorem OA (I:FD)(μ:Mu)(k:IntKind)(zs:List Int):Aq I μ (zs.map (AV.int k)) (zs.map (Value.int k)):=by
 induction zs with
 |nil=>exact .nil
 |cons z zs ih=>exact .cons _ _ _ _ (.int k z) ih
theorem SY (k:IntKind)(zs:List Int):One (zs.map (Value.int k)):=by
 intro v hv
 obtain⟨z,_,rfl⟩:=List.mem_map.1 hv
 rfl
def Ns (W:World):FD where
 cell r off:=W.cell? ⟨r,off,none⟩
 map r:=match W.heap[r]? with
  |some (.map es c)=>some (es,c)
  |_=>none
theorem dN (W:World):BR W.heap.size ⟨W,Ns W⟩ (Ns W) (fun _=>none) ⟨[],0,0⟩ W:=by
 refine⟨Below.refl _ _,Nat.le_refl _,fun r off v h=>h,fun r es c h=>?_,fun _ _=>rfl,?_,?_,?_,?_,?_,?_,fun r _=>⟨fun _=>rfl,rfl⟩⟩
 ·simp only[Ns] at h
  split at h
  ·rename_i es' c' hw; cases h; exact hw
  ·cases h
 all_goals (intros; simp_all [AA])
abbrev JN:List (String × DataW Unit):=[("math/bits.deBruijn32tab",Rows.laid_math_bits_deBruijn32tab),("math/bits.deBruijn64tab",Rows.laid_math_bits_deBruijn64tab),("internal/strconv.uint64pow10",Rows.laid_internal_strconv_uint64pow10),("strconv.ErrRange",Rows.laid_strconv_ErrRange),("strconv.ErrSyntax",Rows.laid_strconv_ErrSyntax),("unicode.White_Space",Rows.laid_unicode_White_Space),("strings.asciiSpace",Rows.laid_strings_asciiSpace),("hedgelayer/repair.never",Rows.laid_hedgelayer_repair_never)]
theorem je:Tryz.prog.globalNamed "strings.asciiSpace"=some 0:=by kernel_rfl
theorem jd:Tryz.prog.globalNamed "hedgelayer/repair.never"=some 2:=by kernel_rfl
theorem bN:Tryz.prog.globalNamed "strconv.ErrSyntax"=some 5:=by kernel_rfl
theorem jc:Tryz.prog.globalNamed "strconv.ErrRange"=some 6:=by kernel_rfl
theorem pJ:(Tryz.prog.globals[0]?).map (·.type)=some 293:=by kernel_rfl
theorem pI:(Tryz.prog.globals[2]?).map (·.type)=some 192:=by kernel_rfl
theorem lI:(Tryz.prog.globals[5]?).map (·.type)=some 126:=by kernel_rfl
theorem pG:(Tryz.prog.globals[6]?).map (·.type)=some 126:=by kernel_rfl
theorem star : "*" ++ "errors.errorString" = "*errors.errorString":=by decide
theorem Wi (u:TypeId)(h:Tryz.prog.typeName? 3 u=some "*errors.errorString"):u=384:=
 typeName_ptr_named (nm := "errors.errorString") (by rw[star]; kernel_rfl) (by kernel_rfl) (by decide) u (by rw[star]; exact h)
theorem ui:Tryz.prog.cellsOf 386=1:=by kernel_rfl
theorem c9:Tryz.prog.cellsOf 9=1:=by kernel_rfl
theorem c3:Tryz.prog.cellsOf 3=1:=by kernel_rfl
theorem c5:Tryz.prog.cellsOf 5=1:=by kernel_rfl
theorem wY:Tryz.prog.cellsOf 192=2:=by kernel_rfl
theorem wX:Tryz.prog.cellsOf 293=256:=by kernel_rfl
theorem dO {W:World}{a:Addr}{v:Value}(h:W.cell? a=some v):a=⟨a.block,a.off,none⟩:=by
 unfold World.cell? at h
 split at h
 ·split at h
  ·cases h
  ·rename_i hs
   obtain⟨b,o,s⟩:=a
   cases s with
   |none=>rfl
   |some x=>simp at hs
 ·cases h
theorem lL (I:FD)(μ:Mu)(s:ByteArray){l:List UInt8}(h:s.data.toList=l):Ak I μ (.str l) (.string s):=by
 subst h
 have:s=⟨⟨s.data.toList⟩⟩:=by cases s with|mk d=>cases d; rfl
 conv=>arg 4; rw[this]
 exact .str _
theorem Om {W:World}{μ:Mu}{n:String}{g:Nat}{a:Addr}{s:ByteArray}{l:List UInt8}(hg:Tryz.prog.globalNamed n=some g)(h1:W.var? Tryz.prog n=some #[.iface 384 (.pointer (some a))])(h2:W.cell? a=some (.string s))(h3:s.data.toList=l) :
 Ak (Ns W) μ (.BC [.iface 384 (.BC [.str l])]) (.pointer (some ⟨g,0,none⟩)):=by
 have ha:=dO h2
 refine .BC _ g 0 [.iface 384 (.pointer (some a))] (fun i hi=>?_) (by intro v hv; simp at hv; subst hv; rfl) (.cons _ _ _ _ (.iface 384 _ _ ?_) .nil)
 ·have:=World.var?_cell hg h1 i
  match i,hi with
  |0,_=>exact this
 ·rw[ha]
  refine .BC _ a.block a.off [.string s] (fun i hi=>?_) (by intro v hv; simp at hv; subst hv; rfl) (.cons _ _ _ _ (lL _ _ s h3) .nil)
  match i,hi with
  |0,_=>rw[ha] at h2; exact h2
def QZ:List Int:=(List.range 256).map fun i=>if i==9||i==10||i==11||i==12||i==13||i==32 then (1:Int) else 0
set_option maxRecDepth 100000 in
theorem YZ {H:Type}:(Rows.laid_strings_asciiSpace:DataW H)=Lib.tabData .u8 QZ:=by rfl
set_option maxRecDepth 100000 in
theorem aW:bf=.BC (QZ.map (AV.int .u8)):=by rfl
theorem mQ {W:World}(h:laidMet Tryz.prog JN W)(hm:∃m,W.cell? ⟨1,0,none⟩=some (.int .i64 m)):Fv GT (Ns W):=by
 have h3:=h.tail.tail.tail
 obtain⟨ar,sr,r1,r2,r3,_⟩:=laid_sentinel h3 jc pG Tryz.underlying126 Wi Tryz.underlying384 Tryz.underlying386 rfl rfl Tryz.underlying9 ui c9
 have h4:=h3.tail
 obtain⟨asy,ssy,s1,s2,s3,_⟩:=laid_sentinel h4 bN lI Tryz.underlying126 Wi Tryz.underlying384 Tryz.underlying386 rfl rfl Tryz.underlying9 ui c9
 have h6:=h4.tail.tail
 have tab:Lib.TabIs Tryz.prog W "strings.asciiSpace" .u8 QZ:=by
  refine Lib.tabIs_of_head (rest:=[("hedgelayer/repair.never",Rows.laid_hedgelayer_repair_never)]) je pJ Tryz.underlying293 Tryz.underlying5 c5 wX ?_
  rw[← YZ]; exact h6
 have h7:=h6.tail
 obtain⟨ps,⟨g0,t0,cs0,f0,p0,q0,hg0,ht0,hv0,hd0,_,e0⟩,_,_⟩:=h7
 obtain rfl:=Option.some.inj (jd.symm.trans hg0)
 obtain rfl:=Option.some.inj (pI.symm.trans ht0)
 obtain⟨y0,y1,n,hx,hl,hy0,hy1⟩:=trod_struct2 Tryz.underlying192 hd0
 simp only[Rows.laid_hedgelayer_repair_never,Prod.mk.injEq,DataW.agg.injEq,List.cons.injEq,and_true] at hx
 rw[c3] at hy0 hy1
 rw[wY] at hl
 obtain⟨l0⟩:=cs0
 match l0,hl with
 |[u0,u1],_=>
 obtain⟨n0,k0,rfl,_⟩:=DataW.trod_int Tryz.underlying3 hy0
 obtain⟨n1,k1,rfl,_⟩:=DataW.trod_int Tryz.underlying3 hy1
 simp only[List.drop_zero,List.take_succ_cons,List.take_zero,List.cons.injEq,and_true,List.drop_succ_cons] at k0 k1
 subst k0; subst k1
 simp only[DataW.lit.injEq,Lit.int.injEq,true_and] at hx
 obtain⟨⟨e1,e2⟩,_⟩:=hx
 intro g u hu
 unfold GT at hu
 simp only[beq_eq,cond_eq_ite,decide_eq_true_eq] at hu
 split at hu
 ·rename_i q; subst q
  cases hu
  exact⟨fun _=>hm,fun h=>by cases h⟩
 split at hu
 ·rename_i q; subst q
  cases hu
  rw[aW]
  refine⟨fun h=>by (cases h),fun _ μ=>?_⟩
  refine Ak.BC _ 0 0 _ (fun i hi=>?_) (SY .u8 QZ) (OA _ _ .u8 QZ)
  have hi':i<QZ.length:=by simpa using hi
  have hc:=tab.cell je i hi'
  show W.cell? ⟨0,0+i,none⟩=_
  rw[Nat.zero_add,hc]
  simp[List.getD,hi']
 split at hu
 ·rename_i q; subst q
  cases hu
  subst e1; subst e2
  refine⟨fun h=>by (cases h),fun _ μ=>?_⟩
  refine Ak.BC _ 2 0 _ (fun i hi=>?_) (SY .i64 [1152921504606846976,0]) (OA _ _ .i64 [1152921504606846976,0])
  have:=World.var?_cell jd hv0 i
  show W.cell? ⟨2,0+i,none⟩=_
  rw[Nat.zero_add,this]
  match i,hi with
  |0,_=>rfl
  |1,_=>rfl
 split at hu
 ·rename_i q; subst q
  cases hu
  exact⟨fun h=>by (cases h),fun _ μ=>Om bN s1 s2 s3⟩
 split at hu
 ·rename_i q; subst q
  cases hu
  exact⟨fun h=>by (cases h),fun _ μ=>Om jc r1 r2 r3⟩
 ·cases hu
end Go.Am
