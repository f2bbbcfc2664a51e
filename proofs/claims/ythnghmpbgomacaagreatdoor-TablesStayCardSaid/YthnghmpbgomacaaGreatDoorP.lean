/- A part of tablesStay. -/
import Derived.Test.YthnghmpbgomacaaGreatDoorP1
import Derived.Test.YthnghmpbgomacaaGreatDoorP2
import Derived.Test.YthnghmpbgomacaaGreatDoorP3
import Derived.Test.YthnghmpbgomacaaGreatDoorP4
import Derived.Test.YthnghmpbgomacaaGreatDoorP5A
import Derived.Test.YthnghmpbgomacaaGreatDoorP5B
import Derived.Test.YthnghmpbgomacaaGreatDoorP5C
import Derived.Test.YthnghmpbgomacaaGreatDoorP5D
import Derived.Shelf.Vars
namespace Go.Am
open Go Go.Proofs Go.RowKit Go.ChangeShapes Go.WideShapes Go.ChangeAt
open Go.Proofs.YthnghmpbgomacaaGreatDoor
def G:XG Tryz.prog:=⟨E,X,GT,AFt,ACh⟩
section
variable {H:Type}{enc:TypeId×Value->H}{P:Program}
theorem Zk{f:Func}{s:ChangeSpec}{apart fresh a again:Bool}{W l:World}{args:Array Value}{v:Value}{o m:List (DataW H)}{before pa pv:List MemPlace}(x:DataW.Whole enc P f.params.toList s.vars apart W args.toList o m before)(h:∀(b:Nat) (k:Nat->Bool) (B:Bool),DataW.TrodAll enc P l b k B f.resultTypes.toList (v.resultList f.resultTypes.size) (s.fn H (o++m)).results [])(c:∀k:Nat->Bool,(∀p∈before,k p.block=true)->DataW.TrodAll enc P l 0 k true f.params.toList args.toList (s.fn H (o++m)).args pa)(d:∀k:Nat->Bool,(∀p∈before,k p.block=true)->DataW.TrodVars enc P l k s.vars (s.fn H (o++m)).vars pv)(g:before=pa++pv)(y:Below W.heap.size W l)(w:∀(j:Nat) (t:TypeId) (r:Value),f.resultTypes[j]? =some t->(v.resultList f.resultTypes.size)[j]? =some r->Value.okWide P l .any 0 t r) :
 s.post enc P f apart fresh a again W args v l:=by
 have n:∀p∈before,p.block<W.heap.size:=fun p e=>x.lt p e;have i:∀p∈before,(fun b=>decide (b<W.heap.size)) p.block=true:=fun p e=>by simpa using n p e
 refine⟨o,m,before,[],pa,pv,x,h _ _ _,c _ i,d _ i,World.keptBut_mono (fun p e=>⟨e,?_⟩) (y.frame (·∈before)),fun _=>?_⟩
 ·rw[g,Ca]at e;exact Or.inr e
 ·obtain⟨_,_,_,_,_,z,D⟩:=x;refine⟨w,_,_,([]++pa)++pv,⟨[]++pa,pv,trodAll_append (c _ (fun _ _=>rfl)) (h _ _ _),d _ (fun _ _=>rfl),rfl,?_,?_⟩,?_⟩
  ·intro b u e;have q:MemPlace.cell b u∈before:=by rw[g];simpa using e
   rw[y.frozen (n _ q)];exact z b u q
  ·intro A;have:=D A;rw[g]at this;simpa using this
  ·intro p e _;rw[g];simpa using e
end
def zU(v:AV)(zs:List Int):Prop:=(v=.AO/\zs=[])∨∃t,v=.list t 1 (zs.map (AV.int .i64))
theorem laidOut:laidOutB Tryz.prog=true:=by kernel_rfl
theorem own:ownKnob Tryz.prog.godebug=none:=by kernel_rfl
theorem xE{W:World}{c:List Int}{a:Addr}{len cap:Nat}(h:a.spot=none)(n:len<=cap)(p:c.length=cap)(m:∀i,i<c.length->W.cell? (a.add i)=some (.int .i64 (c.getD i 0))) :
 BO (Uu W) (fun _=>none) (.list false 1 ((c.take len).map (AV.int .i64))) (.slice (some a) len cap):=by
 obtain⟨b,o,s⟩:=a;simp only at h;subst h;have d:((c.take len).map (AV.int .i64)).length=len:=by simp;omega
 have key:BO (Uu W) (fun _=>none) (.list false 1 ((c.take len).map (AV.int .i64))) (.slice (some ⟨b,o,none⟩) ((c.take len).map (AV.int .i64)).length cap):=by
  refine .list false 1 _ b o cap ((c.take len).map (Value.int .i64)) (fun i j=>?_) (YV _ _) (fun x k=>?_) ?_ (by omega) (by simp)
  ·have f:i<c.length:=by simp at j;omega
   have:=m i f;show W.cell? ⟨b,o+i,none⟩=_;have e:(⟨b,o,none⟩:Addr).add i=⟨b,o+i,none⟩:=by
    unfold Addr.add;split
    ·subst_vars;rfl
    ·rfl
   rw[e]at this;rw[this];simp[List.getD,f]
  ·obtain⟨z,_,rfl⟩:=BP.1 k;rfl
  ·have:((c.take len).map (AV.int .i64)).flatMap AV.cells=(c.take len).map (AV.int .i64):=by
    induction c.take len with
    |nil=>rfl
    |cons z l g=>simp[AV.cells]at g⊢;exact g
   rw[this];exact Qe _ _ _ _
 rw[d]at key;exact key
def qo(f:Nat):Prop:=∀(v:AV) (zs:List Int),zU v zs->∃n,(Ab E n f [v] ⟨[],0,0⟩).all fun r=>r.1=.bool true
set_option maxRecDepth 100000
theorem iF{H:Type}{enc:TypeId×Value->H}{C:Checked}{os:Os}{f:FuncId}{fn:Func}{s:ChangeSpec}{X:World->Array Value->Prop}(u:∀(w w':World) (args:Array Value),w.heap=w'.heap->X w args->X w' args)(own:ownKnob C.prog.godebug=none)(started:os.Started)(b:C.prog.inits.idxOf? f=none)(q:C.prog.funcs[f]? =some fn)(witness:∃(w:World) (tape:Tape) (i:Input),w.os=os/\(w.forCall tape i).Shaped C.prog/\i.vars=[]/\Input.okWide C.prog (w.forCall tape i) .any w.heap.size f i /\
 ((s.pre enc C.prog fn [] false (w.forCall tape i).memory i.args/\X (w.forCall tape i).memory i.args)/\sizedMet enc C.prog fn (OpenSpec.ofChange s) false (w.forCall tape i).memory i.args)/\({}:Assume).holds C.prog (lone (Frame.enter C.prog f i.args .normal) [] (w.forCall tape i)))(a:∀(W:World) (base:Nat) (args:Array Value) (n m:List (DataW H)) (before:List MemPlace),
 (∀(j:Nat) t v,fn.params[j]? =some t->args[j]? =some v->Value.okWide C.prog W .any base t v) ->
 DataW.Whole enc C.prog fn.params.toList s.vars false W args.toList n m before->X W args->W.ShapedOpen C.prog ->
 Calls C.prog f args W fun e r=>∃v,e=.returned v/\s.post enc C.prog fn false true false false W args v r) :
 ReturnsInHanded {} C os f .any (fun w args=>(s.pre enc C.prog fn [] false w args/\X w args)/\sizedMet enc C.prog fn (OpenSpec.ofChange s) false w args) (s.post enc C.prog fn false true false false):=by
 refine returnsInHanded_of_calls own started b witness fun w tape i _ p _ o g _=>?_;obtain⟨_,_,_,A,d,_,_,_,_,c⟩:=o;cases JK (d.symm.trans q);obtain⟨⟨⟨n,m,before,x,_⟩,z⟩,_⟩:=g;have l:=DataW.Whole.of_heap (w':=w.forCall tape i) (by rfl) x;have k:=u _ (w.forCall tape i) _ (by rfl) z;refine Jq (a (w.forCall tape i) w.heap.size i.args n m before c l k p) fun e r h=>?_;obtain⟨v,rfl,y⟩:=h;exact ChangeSpec.post_blind y
theorem AAA{W:World}(h:W.ShapedOpen Tryz.prog):∃m,W.cell? ⟨1,0,none⟩=some (.int .i64 m):=by exact cell_of_shapedOpen_int (zero:=#[.int .i64 0]) (t:=3) h (QT (by kernel_rfl)) (by kernel_rfl) rfl (by kernel_rfl) (by kernel_rfl) Tryz.underlying3
theorem UR(hS:Sound G)(hG:qo 3)(os:Os)(started:os.Started)(H:Type)(enc:TypeId×Value->H) :
 ReturnsInHanded {} Tryz.checked os 3 .any (fun w args=>(Rows.tablesStaySpec.pre enc Tryz.prog Tryz.f3 [] false w args/\laidMetH Tryz.prog laidAll w)/\sizedMet enc Tryz.prog Tryz.f3 (OpenSpec.ofChange Rows.tablesStaySpec) false w args)
  (Rows.tablesStaySpec.post enc Tryz.prog Tryz.f3 false true false false):=by
 refine iF (C:=Tryz.checked) (X:=fun w _=>laidMetH Tryz.prog laidAll w) (fun _ _ _ hh h=>h.of_heap hh) own started AD2 Tryz.func3
  (ChangeSpec.witness_shaped (enc:=enc) (C:=Tryz.checked) (os:=os) (X:=fun w _=>laidMetH Tryz.prog laidAll w) false (World.laidAll Tryz.prog os laidAll) #[.slice none 0 0] 8 (World.laidAll_os _ _ _) (World.shaped_of_ZipB (ACC os) (ACD os)) (AD1 os) (ACF os H enc) (AD0 os H enc)
   (by rw[MakeChecks.laidMetH_plain _ _ _ (by kernel_rfl)];exact laidMet_laidAll _ (AD4 os) (AD3 os))) ?_
 intro W base args V gs before m Q R L;have k:∀(j:Nat) t v,Tryz.f3.params[j]? =some t->args[j]? =some v->Value.okWide Tryz.prog W .any base t v:=m;rw[MakeChecks.laidMetH_plain _ _ _ (by kernel_rfl)]at R;have l:=AAn R (AAA L);have A:=Q;obtain⟨p,q,F,hV,rfl,a2,a1⟩:=Q;have S:DataW.TrodAll enc Tryz.prog W 0 (fun _=>true) true Tryz.f3.params.toList args.toList V p:=F;rw[Tryz.params3]at S k;obtain⟨f,d0,rfl,rfl,O⟩:=trodAll_one S;obtain⟨rfl,rfl⟩:=trodVars_none hV;have b:=k 0 22 f rfl rfl;have y:∃v s,zU v s/\BO (Uu W) (fun _=>none) v f:=by
  obtain⟨n,B⟩:=O;have D:∃c,f.cells.toList=[c]:=by
   rcases open_ints Tryz.underlying22 Tryz.underlying3 c3 B with⟨g,_⟩|⟨_,_,_,_,g,_⟩
   ·exact⟨_,g⟩
   ·exact⟨_,g⟩
  have i:f.cells.toList=[f]:=by unfold Value.okWide at b;simp only[Tryz.underlying22]at b;unfold Cell.okWide at b;cases f<;>simp[Value.cells,Cell.ok,Tryz.underlying22]at b⊢
  rcases open_ints Tryz.underlying22 Tryz.underlying3 c3 B with⟨g,_⟩|⟨a,len,cap,s,g,_,Z,_,Y,_,o,_⟩
  ·rw[i]at g;have:f=.slice none 0 0:=by simpa using g
   subst this;exact⟨.AO,[],.inl ⟨rfl,rfl⟩,.AO⟩
  ·rw[i]at g;have:f=.slice (some a) len cap:=by simpa using g
   subst this;have hs:a.spot=none:=by unfold Value.okWide at b;simp only[Tryz.underlying22]at b;unfold Cell.okWide Cell.ok at b;simp only[Tryz.underlying22]at b;exact b.2.2.2.1
   exact⟨_,s.take len,.inr ⟨false,rfl⟩,xE hs Z (by simpa using Y) o⟩
 obtain⟨v,s,hv,hr⟩:=y;obtain⟨n,z⟩:=hG v s hv;obtain⟨_,d⟩:=zB hS n 3 [v] ⟨[],0,0⟩ _ z W.heap.size ⟨W,Uu W⟩ (Uu W) (fun _=>none) W [f] (rM W) (Ao _) l (.cons _ _ _ _ hr .nil);refine Jq d fun e W2 U=>?_;obtain⟨rv,u,a0,J,ν,rfl,T,r,I,_⟩:=U;simp only at T;subst T;cases I;refine⟨_,rfl,?_⟩;have P:Below W.heap.size W W2:=r.below;refine Zk (pa:=p) (pv:=[]) A (fun _ _ _=>trodAll_mk1 (shut_bool Tryz.underlying4 _)) (fun sp N=>trodAll_mk1 ?_) (fun _ _=>rfl) rfl P (ok_one (by kernel_rfl) rfl (okWide_bool_mk Tryz.underlying4 _));exact WideElems.Trod_stays laidOut (by kernel_rfl) (QT (by kernel_rfl)) O (fun x K=>P.same (A.lt x (by simpa using K))) (fun x K=>N x (by simpa using K))
theorem ABD:joinedFacts Tryz.prog 3 Tryz.f3 Rows.tablesStaySpec Rows.tablesStayRow=true:=by unfold joinedFacts;simp only[Aq];exact⟨⟨⟨⟨⟨⟨⟨⟨⟨⟨⟨⟨⟨⟨⟨⟨⟨⟨⟨⟨⟨⟨⟨⟨⟨⟨⟨⟨⟨⟨⟨AFk,AFj⟩,AFi⟩,AFh⟩,AFg⟩,AFf⟩,AFe⟩,AFd⟩,AFc⟩,AFb⟩,AC7⟩,AC6⟩,AC5⟩,AC4⟩,AC3⟩,AC2⟩,AC1⟩,AC0⟩,ACE⟩,ACz⟩,ACy⟩,ACx⟩,ACw⟩,ACv⟩,ACu⟩,ACt⟩,ACs⟩,ACr⟩,ACq⟩,ACp⟩,ACo⟩,ACn⟩
theorem Xx(b:Sound G)(c:qo 3):Rows.TablesStaySaid:=
 OpenClaim.holds_of_wide 3 Tryz.f3 rfl rfl rfl rfl rfl rfl rfl ⟨rfl,rfl,rfl,rfl,rfl⟩ rfl rfl rfl rfl rfl xA Tryz.func3 ABD AFp ADE
  (fun a started H enc _=>UR b c a started H enc)
end Go.Am
namespace Go.Am
open Go Go.Proofs Go.RowKit Go.ChangeShapes Go.WideShapes Go.ChangeAt
open Go.Proofs.YthnghmpbgomacaaGreatDoor
set_option maxRecDepth 100000
theorem XI(g:Sound G)(i:qo 3):Rows.TablesStayCardSaid:=
 Claim7.holds_tied_plain_at .later [] [.data,.data,.data,.sentinel,.sentinel,.listed,.data,.data] true Rows.tablesStayCard.stood.harness true
  (Xx g i) (fun _ h=>by cases h) (by kernel_rfl) (fun _ h=>by cases h) tablesStay_row_tie rfl ⟨rfl,rfl⟩ (by kernel_rfl) rfl
  (fun f fn e b=>by
   obtain rfl:f=3:=JK (xA.symm.trans e) |>.symm
   obtain rfl:fn=Tryz.f3:=(JK (Tryz.func3.symm.trans b)).symm
   exact⟨by kernel_rfl,fun j t c=>by
    rw[Tryz.params3]at c
    have d:t∈[22]:=by simpa using Array.mem_of_getElem? c
    have a:([22].all fun u=>!Tryz.prog.wantsStandIn u)=true:=by kernel_rfl
    exact (show Tryz.prog.wantsStandIn t=false by simpa using Fj.1 a t d)⟩)
  (by kernel_rfl)
end Go.Am
