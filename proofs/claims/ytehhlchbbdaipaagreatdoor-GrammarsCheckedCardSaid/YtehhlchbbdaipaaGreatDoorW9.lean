/- A part of the proof of GrammarsChecked (merged by a program). -/
import Derived.Test.YtehhlchbbdaipaaGreatDoorW8
import Derived.Test.YtehhlchbbdaipaaGreatDoorKa
import Derived.Test.YtehhlchbbdaipaaGreatDoorKb
import Derived.Test.YtehhlchbbdaipaaGreatDoorKc
import Derived.Test.YtehhlchbbdaipaaGreatDoorKd
import Derived.Test.YtehhlchbbdaipaaGreatDoorKe
section
namespace Go.Am
open Go
theorem Qmm : AV.olds 0 [Q1j, .int .i64 3] = true := by rfl
theorem Qkd : AV.olds 0 [Q1j, .int .i64 1] = true := by rfl
theorem Qs1 (n : Nat) (hn : 37 = n) : M.allb (Q5e 0 Qew) (Q12 E (Q6 E n) C.f79 [] ⟨[], 0, 0⟩) = true := hn ▸ Qnz
theorem Qq7 {n : Nat} (hn : 37 = n) (st : St) : (Q6 E (n + 1) 79 [] st).all fun r => Qew r.1 = true /\ r.2 = st := by
 rw [Q0b (E := E) (n := n) (f := 79) (args := []) (st := st) (fn := C.f79) rfl rfl rfl rfl]
 exact Q71 (Qs1 n hn)
theorem Qq3 (n : Nat) (hn : 37 = n) : M.allb (Q5e 0 Q9k) (Q12 E (Q6 E n) C.f80 [Q1j, .int .i64 3] ⟨[], 0, 0⟩) = true := hn ▸ Qm4
theorem Qns {n : Nat} (hn : 37 = n) (st : St) : (Q6 E (n + 1) 80 [Q1j, .int .i64 3] st).all fun r => Q9k r.1 = true /\ r.2 = st := by
 rw [Q0b (E := E) (n := n) (f := 80) (args := [Q1j, .int .i64 3]) (st := st) (fn := C.f80) rfl rfl rfl Qmm]
 exact Q71 (Qq3 n hn)
theorem size_at (n : Nat) (hn : 37 = n) : M.allb (Q5e 0 Qc3) (Q12 E (Q6 E n) C.f81 [Q1j, .int .i64 1] ⟨[], 0, 0⟩) = true := hn ▸ Qo4
theorem Qqc {n : Nat} (hn : 37 = n) (st : St) : (Q6 E (n + 1) 81 [Q1j, .int .i64 1] st).all fun r => Qc3 r.1 = true /\ r.2 = st := by
 rw [Q0b (E := E) (n := n) (f := 81) (args := [Q1j, .int .i64 1]) (st := st) (fn := C.f81) rfl rfl rfl Qkd]
 exact Q71 (size_at n hn)
theorem Qnn (n : Nat) (hn : 37 = n) : M.allb (Q5e 2 Q72) (Q12 E (Q6 E n) C.f82 [Q1j, .sobj 1 0 3 (some 3)] ⟨Q5t, 2, 2⟩) = true := hn ▸ Qjq
theorem Qlh {n : Nat} (hn : 37 = n) (lo : Nat) : (Q6 E (n + 1) 82 [Q1j, .sobj 1 0 3 (some 3)] ⟨Q5t, 2, lo⟩).all fun r => Q72 r.1 = true /\ r.2 = ⟨Q5t, 2, lo⟩ := by
 rw [Q0e (E := E) (n := n) (f := 82) (args := [Q1j, .sobj 1 0 3 (some 3)]) (st := ⟨Q5t, 2, lo⟩) (fn := C.f82) rfl rfl rfl]
 exact Q71 (Qnn n hn)
theorem Ql3 (n : Nat) (hn : 37 = n) : M.allb (Q5e 3 Q62) (Q12 E (Q6 E n) C.f83 [Q1j, .sobj 2 0 2 (some 2), .agg [.int .i64 1, .int .i64 1, .int .i64 1]] ⟨Q9b, 3, 3⟩) = true := hn ▸ Qhf
theorem Qj6 {n : Nat} (hn : 37 = n) (lo : Nat) : (Q6 E (n + 1) 83 [Q1j, .sobj 2 0 2 (some 2), .agg [.int .i64 1, .int .i64 1, .int .i64 1]] ⟨Q9b, 3, lo⟩).all fun r => Q62 r.1 = true /\ r.2 = ⟨Q9b, 3, lo⟩ := by
 rw [Q0e (E := E) (n := n) (f := 83) (args := [Q1j, .sobj 2 0 2 (some 2), .agg [.int .i64 1, .int .i64 1, .int .i64 1]]) (st := ⟨Q9b, 3, lo⟩) (fn := C.f83) rfl rfl rfl]
 exact Q71 (Ql3 n hn)
theorem Qoz {v : AV} (h : Qew v = true) : v = Q1j := AV.beq_eq h
theorem Qn2 {v : AV} (h : Q9k v = true) : ∃ w, v = .tuple [w, .int .i64 0] /\ Q0k w = some 2 := by
 unfold Q9k at h
 split at h
 ·rename_i w n
  split at h
  ·rename_i l hl
   simp at h
   exact ⟨w, by rw [h.2], by rw [hl, h.1]⟩
  ·simp at h
 ·cases h
theorem Qp0 {v : AV} (h : Qc3 v = true) : ∃ m, v = .tuple [.int .i64 m, .int .i64 0] /\ 4 < m := by
 unfold Qc3 at h
 split at h
 ·simp at h; exact ⟨_, by rw [h.2], h.1⟩
 ·cases h
theorem Qim {v : AV} (h : Q72 v = true) : ∃ m, v = .tuple [.bool true, .int .i64 m, .int .i64 0] := by
 unfold Q72 at h
 split at h
 ·simp at h; exact ⟨_, by rw [h.1, h.2]⟩
 ·cases h
theorem Qh3 {v : AV} (h : Q62 v = true) : v = .tuple [.int .i64 1, .int .i64 0] := by
 unfold Q62 at h
 split at h
 ·simp at h; rw [h.1, h.2]
 ·cases h
theorem M.all_of {α β : Type} {m : M α} {f : α -> M β} {R : α -> Prop} {S : β -> Prop} (h : m.all R) (k : ∀ a, R a -> (f a).all S) : (m.bind f).all S := M.all_bind'.2 (M.all_mono' h k)
def Qe0 : List Q0q := [C.g 39 38 true .move [C.t 2], C.g 40 38 true (.len .slice) [C.t 39], C.g 41 38 true (.bin .eql) [C.t 40, C.i 2], C.o 42 .pick [C.t 38, C.t 41, C.no], C.m 43 42, C.g 44 43 true .move [C.t 5], C.g 45 43 true (.bin .eql) [C.t 44, C.i 0], C.o 46 .pick [C.t 43, C.t 45, C.no], C.m 47 46, C.g 48 47 true .move [C.t 4], C.g 49 47 true (.bin .gtr) [C.t 48, C.i 4], C.o 50 .pick [C.t 47, C.t 49, C.no], C.m 51 50, C.g 52 51 true .move [C.t 8], C.g 53 51 true (.bin .eql) [C.t 52, C.i 0], C.o 54 .pick [C.t 51, C.t 53, C.no], C.m 55 54, C.g 56 55 true .move [C.t 6], C.o 57 .pick [C.t 55, C.t 56, C.no], C.m 58 57, C.g 59 58 true .move [C.t 10], C.g 60 58 true (.bin .eql) [C.t 59, C.i 0], C.o 61 .pick [C.t 58, C.t 60, C.no], C.m 62 61, C.g 63 62 true .move [C.t 9], C.g 64 62 true (.bin .eql) [C.t 63, C.i 1], C.o 65 .pick [C.t 62, C.t 64, C.no], C.m 0 65]
theorem Qt5 {E : Env} {call : Nat -> List AV -> St -> M (AV × St)} {s d q : Nat} {b : Bool} {k : AK} {args : List Q1q} {ops : List Q0q} {ts : TS} {st : St} (h : ts.get q = .bool b) : Q23 E call s (⟨some d, some (q, b), k, args⟩ :: ops) ts st = Q23 E call s (⟨some d, none, k, args⟩ :: ops) ts st := by
 rw [Q5a, h]; cases b <;> rfl
theorem Qme {call : Nat -> List AV -> St -> M (AV × St)} {s : Nat} {ts : TS} {st : St} {w : AV} {m : Int} (h2 : ts.get 2 = w) (hw : Q0k w = some 2) (h38 : ts.get 38 = .bool true) (h5 : ts.get 5 = .int .i64 0) (h4 : ts.get 4 = .int .i64 m) (hm : 4 < m)
  (h8 : ts.get 8 = .int .i64 0) (h6 : ts.get 6 = .bool true) (h10 : ts.get 10 = .int .i64 0) (h9 : ts.get 9 = .int .i64 1) : ∃ ts', Q23 E call s Qe0 ts st = .ret (ts', st) /\ ts'.get 0 = .bool true := by
 simp [Qe0, Qt5, h2, hw, h38, h5, h4, hm, h8, h6, h10, h9, Qw]
theorem Qoc {call : Nat -> List AV -> St -> M (AV × St)} {s : Nat} {ts : TS} {st st0 : St} {w : AV} {m : Int} (h2 : ts.get 2 = w) (hw : Q0k w = some 2) (h38 : ts.get 38 = .bool true) (h5 : ts.get 5 = .int .i64 0) (h4 : ts.get 4 = .int .i64 m) (hm : 4 < m)
  (h8 : ts.get 8 = .int .i64 0) (h6 : ts.get 6 = .bool true) (h10 : ts.get 10 = .int .i64 0) (h9 : ts.get 9 = .int .i64 1) :
  M.all (fun r => r = (AV.bool true, st0)) ((Q23 E call s Qe0 ts st).bind fun a => (Qb [Q99.tmp 0] (Q3f.ret, a.1, a.2)).bind (Qt 0 st0)) := by
 obtain ⟨ts', e, h0⟩ := Qme (call := call) (s := s) (st := st) h2 hw h38 h5 h4 hm h8 h6 h10 h9
 rw [e]
 simp [Qb, results, Q9, h0, M.all]
set_option maxHeartbeats 1000000 in
theorem Qob {n : Nat} (hn : 37 = n) (st : St) : True /\ (Q6 E (n + 2) 20 [] st).all fun r => r = (.bool true, st) := by
 refine ⟨trivial, ?_⟩
 rw [Q0b (fn := C.f20) rfl rfl rfl rfl, Qg (by simp)]
 simp [C.f20]
 refine M.all_of (Qq7 hn _) fun a ha => ?_
 obtain ⟨v, S⟩ := a
 obtain ⟨h1, rfl⟩ := ha
 obtain rfl := Qoz h1
 have hr0 : Ql Qek (.pobj 0 0) 3 = some Q1j.cells := rfl
 have e1 : newObj 0 (.cells 29 3 [.snil, .str [], .snil] false) ⟨[], 1, 0⟩ = some ⟨[(0, .cells 29 3 [.snil, .str [], .snil] false)], 1, 0⟩ := rfl
 have e2 : Q0n 3 (.pobj 0 0) Q1j ⟨[(0, .cells 29 3 [.snil, .str [], .snil] false)], 1, 0⟩ = some (.undef, ⟨Qek, 1, 0⟩) := rfl
 have e3 : Option.map AV.agg (some Q1j.cells) = some Q1j := rfl
 simp [e1, e2, hr0, e3]
 refine M.all_of (Qns hn _) fun a ha => ?_
 obtain ⟨v, S⟩ := a
 obtain ⟨h1, rfl⟩ := ha
 obtain ⟨w, rfl, hw⟩ := Qn2 h1
 have ex : ∀ i vs st, Q3y i (.tuple vs) st = give st vs[i]? := fun _ _ _ => rfl
 simp [ex, hr0, e3]
 refine M.all_of (Qqc hn _) fun a ha => ?_
 obtain ⟨v, S⟩ := a
 obtain ⟨h1, rfl⟩ := ha
 obtain ⟨m, rfl, hm⟩ := Qp0 h1
 have b3 : ∀ n, Qz n 9 1 3 [.str [], .str [], .str []] [0, 1, 2] [.str [110, 117, 109], .str [112, 108, 117, 115], .str [110, 117, 109]] = some (.sobj n 0 3 (some 3), .cells 9 1 [.str [110, 117, 109], .str [112, 108, 117, 115], .str [110, 117, 109]] false) := fun n => by
  simp [Qz, Qm, beq_eq, Qi, Q00, splice, AV.isTuple, AV.cells]
 have b2 : ∀ n, Qz n 9 1 2 [.str [], .str []] [0, 1] [.str [110, 117, 109], .str [110, 117, 109]] = some (.sobj n 0 2 (some 2), .cells 9 1 [.str [110, 117, 109], .str [110, 117, 109]] false) := fun n => by
  simp [Qz, Qm, beq_eq, Qi, Q00, splice, AV.isTuple, AV.cells]
 have bp : Q00 [.int .i64 0, .int .i64 0, .int .i64 0] [(0, 1), (1, 1), (2, 1)] [.int .i64 1, .int .i64 1, .int .i64 1] = some [.int .i64 1, .int .i64 1, .int .i64 1] := by
  simp [Q00, splice, AV.isTuple, AV.cells, beq_eq, Qi]
 have e4 : newObj 1 (.cells 9 1 [.str [110, 117, 109], .str [112, 108, 117, 115], .str [110, 117, 109]] false) ⟨Qek, 2, 0⟩ = some ⟨Q5t, 2, 0⟩ := rfl
 have e5 : newObj 2 (.cells 9 1 [.str [110, 117, 109], .str [110, 117, 109]] false) ⟨Q5t, 3, 0⟩ = some ⟨Q9b, 3, 0⟩ := rfl
 have hr1 : Ql Q5t (.pobj 0 0) 3 = some Q1j.cells := rfl
 simp [ex, hr0, e3, b3, e4]
 refine M.all_of (Qlh hn _) fun a ha => ?_
 obtain ⟨v, S⟩ := a
 obtain ⟨h1, rfl⟩ := ha
 obtain ⟨m2, rfl⟩ := Qim h1
 simp [ex, hr1, e3, b2, e5, bp]
 refine M.all_of (Qj6 hn _) fun a ha => ?_
 obtain ⟨v, S⟩ := a
 obtain ⟨h1, rfl⟩ := ha
 have e : v = .tuple [.int .i64 1, .int .i64 0] := Qh3 h1
 subst e
 simp [ex]
 generalize hts : TS.set _ 38 _ = tsx
 refine Qoc (w := w) (m := m) ?_ hw ?_ ?_ ?_ hm ?_ ?_ ?_ ?_
 all_goals (rw [← hts]; simp)
end Go.Am
end
section
namespace Go.Am
open Go
theorem Qr4 {m : M (AV × St)} (h : Qev (Qct m) = true) : ∃ t l gs, (∀ st, m.bind (Qt 0 st) = .ret (.list t 3 l, st)) /\ Q6h l = some gs /\ gs.length = 12 /\ ∀ g ∈ gs, Q5u g = true := by
 unfold Qev at h
 split at h
 ·rename_i gs hg
  unfold Qct at hg
  split at hg
  ·rename_i r
   split at hg
   ·rename_i t l hth
    simp only [Bool.and_eq_true, decide_eq_true_eq, List.all_eq_true] at h
    refine ⟨t, l, gs, fun st => ?_, hg, h.1, h.2⟩
    simp only [M.bind, Qt, hth]
   ·cases hg
  ·cases hg
 ·cases h
theorem Qn1 (n : Nat) (hn : 39 = n) : Qev (Qct (Q12 E (Q6 E n) C.f114 [] ⟨[], 0, 0⟩)) = true := hn ▸ Qn0
theorem Qoy {n : Nat} (hn : 39 = n) (k : Nat) : Qju (n + 1 + k) := by
 obtain ⟨t, l, gs, h1, h2⟩ := Qr4 (Qn1 n hn)
 refine ⟨t, l, gs, fun st => ?_, h2⟩
 refine Qff ?_ k
 rw [Q0b (E := E) (n := n) (f := 114) (args := []) (st := st) (fn := C.f114) rfl rfl rfl rfl]
 exact h1 st
theorem Qo8 {n : Nat} (hn : 39 = n) (k : Nat) : Qb2 (n + 2 + k) := by
 have e : n + 2 + k = (n + k - 3) + 5 := by omega
 rw [e]
 refine Qo7 ?_
 rw [show n + k - 3 + 4 = n + 1 + k by omega]
 exact Qoy hn k
theorem Qt7 {n : Nat} (hn : 39 = n) (k : Nat) {o : Nat} {vs : AV} {zs : List Int} {a : Int} {st : St} (hs : Q32 st o vs a) (hv : Q0s vs zs) (ha : 0 <= a /\ a < 10000) (ho : o < st.c) (hb : HB st) (hh : HO st) (hlo : st.lo <= o) :
  ∃ v g m st', Q6 E (n + 3 + k) 6 [.pobj o 0] st = .ret (v, st') /\ st'.c = st.c /\ Q0j st.c o vs (a + m) st st' /\ Q02 v g /\ g.Small /\ 0 <= m /\ m <= 200 := by
 have h := Qo8 hn k
 rw [show n + 2 + k = (n + k - 3) + 5 by omega] at h
 rw [show n + 3 + k = (n + k - 3) + 6 by omega]
 exact Qt6 h hs hv ha ho hb hh hlo
end Go.Am
end
section
namespace Go.Am
open Go
structure Qd2 (F fa fb : Nat) (v : AV) (g : Q7) : Prop where
 out : ∃ L : List Str, L.length < 1000000 /\ Q6n F fa v g L /\ (g.fault = 0 -> ∀ st, HB st -> st.lo <= st.c -> (Q6 E F fb [v] st).to fun x => Reads x.2.h x.1 L /\ Over st x.2)
theorem reads_nil (h : Qc) : Reads h .snil [] := ⟨rfl, fun i hi => by simp at hi⟩
structure LW (cs : List AV) (gb T : Nat) (st : St) : Prop where
 hb : HB st
 lo : st.lo <= st.c
 g : Q0 st.h gb = some (.cells 29 3 cs false)
 t : Q0 st.h T = some (.cells 35 2 [.fn (.func 8) [] [], .fn (.func 9) [] [], .fn (.func 10) [] [], .fn (.func 11) [] [], .fn (.func 12) [] [], .fn (.func 13) [] [], .fn (.func 14) [] [], .fn (.func 15) [] [], .fn (.func 16) [] [], .fn (.func 17) [] []] false)
 gc : gb < st.c
 tc : T < st.c
theorem LW.over {cs : List AV} {gb T : Nat} {st st' : St} (H : LW cs gb T st) (O : Over st st') : LW cs gb T st' :=
 ⟨O.hb, by have := O.c; have := O.lo; have := H.lo; omega, (O.fr gb H.gc).trans H.g, (O.fr T H.tc).trans H.t, Nat.lt_of_lt_of_le H.gc O.c, Nat.lt_of_lt_of_le H.tc O.c⟩
set_option maxHeartbeats 4000000 in
theorem Qr1 {F gb T : Nat} {cs : List AV} {g : Q7} (hl3 : cs.length = 3) (hE : ∀ (w1 w2 : AV) (l1 l2 : List Str) (st : St), Reads st.h w1 l1 -> Reads st.h w2 l2 -> l1.length < 1000000 -> Q6 E F 18 [w1, w2] st = .ret (.bool (decide (l1 = l2)), st)) (hP : ∀ i, i < 5 -> Qd2 F (8 + 2 * i) (9 + 2 * i) (.agg cs) g) (st : St) (H0 : LW cs gb T st)
  (ts0 : TS) (z4 : ts0.get 4 = .pobj gb 0) (z5 : ts0.get 5 = .int .i64 g.fault) (z23 : ts0.get 23 = .sobj T 0 5 (some 5)) (z24 : ts0.get 24 = .int .i64 5) (z25 : ts0.get 25 = .int .i64 ((0 : Nat) : Int)) :
  (Q0l (Qn E (Q6 E F) C.f3L0) E.k ts0 st).to fun x => x.1 = .exit 0 /\ x.2.1.get 4 = .pobj gb 0 /\ x.2.1.get 5 = .int .i64 g.fault /\ LW cs gb T x.2.2 := by
 refine Qs (fun (i : Nat) ts st => i <= 5 /\ ts.get 4 = .pobj gb 0 /\ ts.get 5 = .int .i64 g.fault /\ ts.get 23 = .sobj T 0 5 (some 5) /\ ts.get 24 = .int .i64 5 /\ ts.get 25 = .int .i64 (i : Int) /\ LW cs gb T st)
  (fun i => 5 - i) (fun e ts st => e = .exit 0 /\ ts.get 4 = .pobj gb 0 /\ ts.get 5 = .int .i64 g.fault /\ LW cs gb T st) ?_ _ 0 _ _ ?_ ?_
 ·rintro i ts st ⟨hi, z4, z5, z23, z24, z25, H⟩
  by_cases hlt : i < 5
  ·obtain ⟨h, c, lo⟩ := st
   have hlo : lo <= c := H.lo
   have htc : T < c := H.tc
   have hgc : gb < c := H.gc
   obtain ⟨L, hLl, hA, hR⟩ := (hP i hlt).out
   obtain ⟨fa, hfa⟩ : ∃ f, f = 8 + 2 * i := ⟨_, rfl⟩
   obtain ⟨fb, hfb⟩ : ∃ f, f = 9 + 2 * i := ⟨_, rfl⟩
   rw [← hfa] at hA
   rw [← hfb] at hR
   have hltI : (i : Int) < 5 := by omega
   have ixT : Qj 2 (.sobj T 0 5 (some 5)) (.int .i64 (i : Int)) ⟨h, c + 1, lo⟩ = some (.pobj T (i * 2), ⟨h, c + 1, lo⟩) := by
    have hT := H.t
    simp [Qj, Q0a, hT, Qm, hlt, beq_eq]
   have rT : Ql h (.pobj T (i * 2)) 2 = some [.fn (.func fa) [] [], .fn (.func fb) [] []] := by
    have hT : Q0 h T = _ := H.t
    subst hfa hfb
    have : i = 0 ∨ i = 1 ∨ i = 2 ∨ i = 3 ∨ i = 4 := by omega
    rcases this with rfl | rfl | rfl | rfl | rfl <;> simp [Ql, hT, Qi]
   have hn := Q3a (c' := c + 1) (lo := lo) (ty := 35) (n := 2) (cs := [.fnil, .fnil]) H.hb
   have hst := Q1k (h := h) (c := c) (c' := c + 1) (lo := lo) (ty := 35) (n := 2) (zs := [.fnil, .fnil]) (vs := [.fn (.func fa) [] [], .fn (.func fb) [] []]) hlo rfl rfl
   obtain ⟨h1, hh1⟩ : ∃ h1 : Qc, h1 = (c, Qe.cells 35 2 [.fn (.func fa) [] [], .fn (.func fb) [] []] false) :: h := ⟨_, rfl⟩
   rw [← hh1] at hst
   have hb1 : HB ⟨h1, c + 1, lo⟩ := hh1 ▸ HB.cons (h := h) (c := c) (lo := lo) H.hb (by omega) (by omega)
   have O1 : Over ⟨h, c, lo⟩ ⟨h1, c + 1, lo⟩ := ⟨Nat.le_succ c, rfl, hb1, fun p hp => by rw [hh1]; exact Qu hp⟩
   have H1 := H.over O1
   have f7 : Q0 h1 c = some (.cells 35 2 [.fn (.func fa) [] [], .fn (.func fb) [] []] false) := by rw [hh1, Q3, if_pos rfl]
   have r70 : Q5 h1 (.pobj c 0) = some (.fn (.func fa) [] []) := by rw [Q4 f7]; rfl
   have r71 : Q5 h1 (.pobj c 1) = some (.fn (.func fb) [] []) := by rw [Q4 f7]; rfl
   have rg : Ql h1 (.pobj gb 0) 3 = some cs := Qq H1.g hl3
   by_cases hz : g.fault = 0
   ·obtain ⟨w, e1, e2⟩ := (hA ⟨h1, c + 1, lo⟩).2 hz
    have hrun := hR hz ⟨h1, c + 1, lo⟩ hb1 H1.lo
    rw [hz] at z5
    simp [C.f3L0, Q05, Qy, z4, z5, z23, z24, z25, hltI, ixT, rT, hn, hst, r70, r71, rg, e1]
    refine M.to_bind hrun fun x hx => ?_
    obtain ⟨w2, st2⟩ := x
    obtain ⟨R2, O2⟩ := hx
    simp only at R2 O2
    have heq := hE _ _ _ _ st2 (Reads.ofSl (h := st2.h) e2) R2 hLl
    simp at heq
    simp [Q05, Qy, z4, z5, z23, z24, z25, heq, wrap64 (n := (i : Int) + 1) (by omega) (by omega)]
    exact ⟨i + 1, by omega, by omega, by rw [hz], by simp, H1.over O2⟩
   ·have e1 := (hA ⟨h1, c + 1, lo⟩).1 hz
    have hzb : (g.fault == 0) = false := beq_false_of_ne hz
    have heq := hE _ _ _ _ ⟨h1, c + 1, lo⟩ (reads_nil h1) (reads_nil h1) (by simp)
    simp at heq
    simp [C.f3L0, Q05, Qy, z4, z5, z23, z24, z25, hltI, ixT, rT, hn, hst, r70, r71, rg, e1, hzb, heq, wrap64 (n := (i : Int) + 1) (by omega) (by omega)]
    exact ⟨i + 1, by omega, by omega, by simp, H1⟩
  ·have : i = 5 := by omega
   subst this
   simp [C.f3L0, z4, z5, z23, z24, z25, H]
 ·show 5 - 0 < 1000000; omega
 ·exact ⟨by omega, z4, z5, z23, z24, z25, H0⟩
theorem Qqi {m : Nat} {v : AV} {g : Q7} (hg : Q02 v g) (hs : g.Small) : ∀ i, i < 5 -> Qd2 (m + 20) (8 + 2 * i) (9 + 2 * i) v g := by
 have hll := g.lefts_length
 have hmany := hs.many
 have hfl : ∀ p : Str -> Bool, (g.lefts.filter p).length < 1000000 := fun p => by
  have := List.length_filter_le p g.lefts; omega
 have sealed : ∀ {f : Nat} {L : List Str}, (∀ st, ∃ w, Q6 E (m + 20) f [v] st = .ret (w, st) /\ Qr w 1 (strs L)) -> ∀ st, HB st -> st.lo <= st.c -> (Q6 E (m + 20) f [v] st).to fun x => Reads x.2.h x.1 L /\ Over st x.2 := fun h st hb hlo => by
  obtain ⟨w, e1, e2⟩ := h st
  rw [e1]
  exact ⟨_, rfl, Reads.ofSl e2, Over.refl hb⟩
 intro i hi
 have : i = 0 ∨ i = 1 ∨ i = 2 ∨ i = 3 ∨ i = 4 := by omega
 rcases this with rfl | rfl | rfl | rfl | rfl
 ·refine ⟨g.lefts, by omega, Qow (k := m + 12) hg hs, fun hz st hb hlo => ?_⟩
  refine M.to_mono (Qdl (k := m + 14) hg hs (Q7.ne_rules (Q7.ok hz)) hb hlo) fun x hx => ?_
  obtain ⟨O, id, _, _, G⟩ := hx
  exact ⟨G.reads, O⟩
 ·refine ⟨g.lefts.filter fun s => @decide (Q3x g s) (Classical.propDecidable _), hfl _, Qi6 (k := m + 12) hg hs _ fun s => by simp, fun hz => sealed fun st => ?_⟩
  obtain ⟨w, p, e1, e2, e3⟩ := Qfq (k := m + 11) (st := st) hg hs (Q7.ne_rules (Q7.ok hz))
  refine ⟨w, e1, ?_⟩
  rw [show (fun s => @decide (Q3x g s) (Classical.propDecidable _)) = p by funext s; rw [Bool.eq_iff_iff, e3]; simp]
  exact e2
 ·refine ⟨g.lefts.filter fun s => !@decide (Qb4 g s) (Classical.propDecidable _), hfl _, Qnk (k := m + 12) hg hs (fun s => @decide (Qb4 g s) (Classical.propDecidable _)) fun s => by simp, fun hz => sealed fun st => ?_⟩
  obtain ⟨w, p, e1, e2, e3⟩ := Qjk (k := m + 7) (st := st) hg hs (Q7.ne_rules (Q7.ok hz))
  refine ⟨w, e1, ?_⟩
  rw [show (fun s => !@decide (Qb4 g s) (Classical.propDecidable _)) = fun s => !p s by funext s; congr 1; rw [Bool.eq_iff_iff, e3]; simp]
  exact e2
 ·refine ⟨g.lefts.filter fun s => !@decide (Reach g s) (Classical.propDecidable _), hfl _, Qgv (k := m + 12) hg hs (fun s => @decide (Reach g s) (Classical.propDecidable _)) fun s => by simp, fun hz => sealed fun st => ?_⟩
  obtain ⟨w, p, e1, e2, e3⟩ := Qej (k := m + 12) (st := st) hg hs (Q7.ne_rules (Q7.ok hz))
  refine ⟨w, e1, ?_⟩
  rw [show (fun s => !@decide (Reach g s) (Classical.propDecidable _)) = fun s => !p s by funext s; congr 1; rw [Bool.eq_iff_iff, e3]; simp]
  exact e2
 ·refine ⟨g.lefts.filter fun s => @decide (Q1f g s s) (Classical.propDecidable _), hfl _, Qor (k := m + 12) hg hs _ fun s => by simp, fun hz => sealed fun st => ?_⟩
  obtain ⟨w, p, e1, e2, e3⟩ := Qkj (k := m + 8) (st := st) hg hs (Q7.ne_rules (Q7.ok hz))
  refine ⟨w, e1, ?_⟩
  rw [show (fun s => @decide (Q1f g s s) (Classical.propDecidable _)) = p by funext s; rw [Bool.eq_iff_iff, e3]; simp]
  exact e2
end Go.Am
end
section
namespace Go.Am
open Go
theorem Q9d {call : Nat -> List AV -> St -> M (AV × St)} {a b : Qd} {ts : TS} {st : St} {Q R : Q3f × TS × St -> Prop} (ha : (Qn E call a ts st).to Q) (hb : ∀ x, Q x -> x.1 = .normal /\ (Qn E call b x.2.1 x.2.2).all R) : (Qn E call (.seq a b) ts st).all R := by
 rw [Qgt]
 obtain ⟨x, e, hx⟩ := ha
 rw [e, M.ret_bind]
 obtain ⟨e1, ts1, st1⟩ := x
 obtain ⟨h1, h2⟩ := hb _ hx
 simp only at h1 h2
 subst h1
 exact h2
set_option maxHeartbeats 2000000 in
theorem Qr2 {F : Nat} {v : AV} {zs : List Int} (hv : Q0s v zs) (hany : ∀ {st : St}, Q32 st 0 v 0 -> 0 < st.c -> HB st -> HO st -> st.lo <= 0 -> ∃ w g a st', Q6 E (F) 6 [.pobj 0 0] st = .ret (w, st') /\ st'.c = st.c /\ Q0j st.c 0 v (0 + a) st st' /\ Q02 w g /\ g.Small)
  (hE : ∀ (w1 w2 : AV) (l1 l2 : List Str) (st : St), Reads st.h w1 l1 -> Reads st.h w2 l2 -> l1.length < 1000000 -> Q6 E F 18 [w1, w2] st = .ret (.bool (decide (l1 = l2)), st))
  (h7 : ∀ v g st, Q02 v g -> g.Small -> Q6 E F 7 [v] st = .ret (.int .i64 g.fault, st)) (h19 : ∀ v g st, Q02 v g -> g.Small -> Q6 E F 19 [v] st = .ret (.int .i64 g.fault, st)) (hP : ∀ v g, Q02 v g -> g.Small -> ∀ i, i < 5 -> Qd2 F (8 + 2 * i) (9 + 2 * i) v g)
  (hready : ∀ st, (Q6 E (F) 20 [] st).all fun r => r = (.bool true, st)) :
  (Qn E (Q6 E (F)) C.f3.body (TS.ofArgs [v] 0 .nil) ⟨[], 0, 0⟩).all fun x => x.1 = .ret /\ x.2.1.get 2 = .bool true := by
 have hone : v.isTuple = false /\ v.cells = [v] := by rcases hv.sl.out with ⟨rfl, _⟩ | ⟨t, rfl⟩ <;> exact ⟨rfl, rfl⟩
 have hold : ∀ c, v.old c = true := fun c => by
  rcases hv.sl.out with ⟨rfl, _⟩ | ⟨t, rfl⟩
  ·rfl
  ·refine Q6d fun x hx => ?_
   obtain ⟨z, _, rfl⟩ := List.mem_map.1 hx; rfl
 have hfill : Q00 [.snil, .int .i64 0] [(0, 1)] [v] = some [v, .int .i64 0] := by
  simp [Q00, hone.1, hone.2, beq_eq, Qi, splice]
 obtain ⟨h1, hh1⟩ : ∃ h : Qc, h = [(0, Qe.cells 25 2 [v, .int .i64 0] false)] := ⟨_, rfl⟩
 have hbx : Q0z 0 25 2 (.agg [v, .int .i64 0]) = some (.pobj 0 0, .cells 25 2 [v, .int .i64 0] false) := rfl
 have n1 : newObj 0 (.cells 25 2 [v, .int .i64 0] false) ⟨[], 1, 0⟩ = some ⟨h1, 1, 0⟩ := by rw [hh1]; rfl
 have hmem : ∀ p x, (p, x) ∈ h1 -> p = 0 /\ x = .cells 25 2 [v, .int .i64 0] false := fun p x hp => by rw [hh1] at hp; simpa using hp
 obtain ⟨w, g, a, st2, e1, e2, K, hg, hs⟩ := hany (st := ⟨h1, 2, 0⟩) ⟨by show Q0 h1 0 = _; rw [hh1]; rfl, Nat.le_refl _⟩ (by show 0 < 2; omega) (fun p x hp => by rw [(hmem p x hp).1]; show 0 < 2; omega) (fun p x hp => by
  rw [(hmem p x hp).2]; simp [Qe.old, AV.olds, hold, AV.old]) (Nat.le_refl _)
 refine Q9d (Q := fun x => x.1 = .normal /\ x.2.1.get 0 = v /\ x.2.2 = ⟨[], 0, 0⟩) (by simp) fun x hx => ?_
 obtain ⟨e, ts1, st1⟩ := x
 obtain ⟨ee, z0, hst⟩ := hx
 simp only at ee z0 hst
 refine ⟨ee, ?_⟩
 subst hst
 refine Q9d (Q := fun x => x.1 = .normal /\ x.2.1.get 3 = .pobj 0 0 /\ x.2.2 = ⟨h1, 1, 0⟩) (by simp [z0, hfill, hbx, n1]) fun x hx => ?_
 obtain ⟨e, ts2, st1⟩ := x
 obtain ⟨ee, z3, hst⟩ := hx
 simp only at ee z3 hst
 refine ⟨ee, ?_⟩
 subst hst
 obtain ⟨h2, c2, lo2⟩ := st2
 simp only at e2
 subst e2
 have hlo2 : lo2 = 0 := K.lo
 subst hlo2
 obtain ⟨kv, rv, l, rfl, hgr⟩ := hg
 have hG : Q02 (.agg [kv, .str g.start, rv]) g := ⟨kv, rv, l, rfl, hgr⟩
 have hno1 : ∀ p x, (p, x) ∈ h2 -> p ≠ 1 := fun p x hp e => by
  subst e
  rcases K.mem 1 x hp (by show 1 < 2; omega) with h | h
  ·have := (hmem 1 x h).1; omega
  ·omega
 obtain ⟨h3, q1, q2, q3, q4⟩ := Q42 (y := .cells 29 3 [.snil, .str [], .snil] false) hno1 K.hb (by show 1 < 2; omega)
 have f3 : Q0 h3 1 = some (.cells 29 3 [.snil, .str [], .snil] false) := by rw [q2, if_pos rfl]
 have s3 := Q2p (st := ⟨h3, 2, 0⟩) (n := 3) (vs := [kv, .str g.start, rv]) f3 (Nat.zero_le _) rfl rfl
 obtain ⟨h4, hh4⟩ : ∃ h4, h4 = hset h3 1 (.cells 29 3 [kv, .str g.start, rv] false) := ⟨_, rfl⟩
 rw [← hh4] at s3
 have hb4 : HB ⟨h4, 2, 0⟩ := hh4 ▸ HB.hset (st := ⟨h3, 2, 0⟩) q3
 have f4 : Q0 h4 1 = some (.cells 29 3 [kv, .str g.start, rv] false) := by rw [hh4, Q8 f3, if_pos rfl]
 have rg4 : Ql h4 (.pobj 1 0) 3 = some [kv, .str g.start, rv] := Qq f4 rfl
 refine Q9d (Q := fun x => x.1 = .normal /\ x.2.1.get 4 = .pobj 1 0 /\ x.2.2 = ⟨h4, 2, 0⟩) (by simp [z3, e1, q1, s3]) fun x hx => ?_
 obtain ⟨e, ts3, st1⟩ := x
 obtain ⟨ee, z4, hst⟩ := hx
 simp only at ee z4 hst
 refine ⟨ee, ?_⟩
 subst hst
 have hfault := h7 _ _ ⟨h4, 2, 0⟩ hG hs
 refine Q9d (Q := fun x => x.1 = .normal /\ x.2.1.get 4 = .pobj 1 0 /\ x.2.1.get 5 = .int .i64 g.fault /\ x.2.2 = ⟨h4, 2, 0⟩) (by simp [z4, rg4, hfault]) fun x hx => ?_
 obtain ⟨e, ts4, st1⟩ := x
 obtain ⟨ee, z4, z5, hst⟩ := hx
 simp only at ee z4 z5 hst
 refine ⟨ee, ?_⟩
 subst hst
 obtain ⟨tb, htb⟩ : ∃ tb : List AV, tb = [.fn (.func 8) [] [], .fn (.func 9) [] [], .fn (.func 10) [] [], .fn (.func 11) [] [], .fn (.func 12) [] [], .fn (.func 13) [] [], .fn (.func 14) [] [], .fn (.func 15) [] [], .fn (.func 16) [] [], .fn (.func 17) [] []] := ⟨_, rfl⟩
 have n5 : newObj 2 (.cells 35 2 tb false) ⟨h4, 3, 0⟩ = some ⟨(2, .cells 35 2 tb false) :: h4, 3, 0⟩ := Qf hb4
 obtain ⟨h5, hh5⟩ : ∃ h5 : Qc, h5 = (2, Qe.cells 35 2 tb false) :: h4 := ⟨_, rfl⟩
 rw [← hh5] at n5
 have LW0 : LW [kv, .str g.start, rv] 1 2 ⟨h5, 3, 0⟩ := by
  refine ⟨hh5 ▸ HB.cons (h := h4) (c := 2) (lo := 0) hb4 (by omega) (by omega), by show 0 <= 3; omega, ?_, ?_, by show 1 < 3; omega, by show 2 < 3; omega⟩
  ·show Q0 h5 1 = _; rw [hh5, Qu (by omega)]; exact f4
  ·show Q0 h5 2 = _; rw [hh5, Q3, if_pos rfl, htb]
 have hbs : Qz 2 35 2 5 [.fnil, .fnil, .fnil, .fnil, .fnil, .fnil, .fnil, .fnil, .fnil, .fnil] [0, 1, 2, 3, 4] [.agg [.fn (.func 8) [] [], .fn (.func 9) [] []], .agg [.fn (.func 10) [] [], .fn (.func 11) [] []], .agg [.fn (.func 12) [] [], .fn (.func 13) [] []], .agg [.fn (.func 14) [] [], .fn (.func 15) [] []], .agg [.fn (.func 16) [] [], .fn (.func 17) [] []]] = some (.sobj 2 0 5 (some 5), .cells 35 2 tb false) := by
  rw [htb]; simp [Qz, Qm, beq_eq, Qi, Q00, splice, AV.isTuple, AV.cells]
 refine Q9d (Q := fun x => x.1 = .normal /\ x.2.1.get 4 = .pobj 1 0 /\ x.2.1.get 5 = .int .i64 g.fault /\ LW [kv, .str g.start, rv] 1 2 x.2.2) ?_ fun x hx => ?_
 ·have hp : ∀ a b : AV, a.isTuple = false -> b.isTuple = false -> a.cells = [a] -> b.cells = [b] -> Q00 [.fnil, .fnil] [(0, 1), (1, 1)] [a, b] = some [a, b] := fun a b h1 h2 h3 h4 => by simp [Q00, h1, h2, h3, h4, beq_eq, Qi, splice]
  have hpf : ∀ x y : Nat, Q00 [.fnil, .fnil] [(0, 1), (1, 1)] [.fn (.func x) [] [], .fn (.func y) [] []] = some [.fn (.func x) [] [], .fn (.func y) [] []] := fun x y => hp _ _ rfl rfl rfl rfl
  simp [z4, z5, hpf, hbs, n5, Qw, Q0k]
  refine M.to_bind (Qr1 (F := F) rfl hE (fun i hi => hP _ _ hG hs i hi) _ LW0 _ (by simp [z4]) (by simp [z5]) (by simp) (by simp) (by simp)) fun x hx => ?_
  obtain ⟨e, ts5, st5⟩ := x
  obtain ⟨ee, g4, g5, H⟩ := hx
  simp only at ee g4 g5 H
  subst ee
  simp [g4, g5, H]
 obtain ⟨e, ts5, st5⟩ := x
 obtain ⟨ee, z4, z5, H⟩ := hx
 simp only at ee z4 z5 H
 refine ⟨ee, ?_⟩
 have rg5 : Ql st5.h (.pobj 1 0) 3 = some [kv, .str g.start, rv] := Qq H.g rfl
 have hck := h19 _ _ st5 hG hs
 simp [Q05, z4, z5, rg5, hck]
 refine M.all_of (hready st5) fun r hr => ?_
 subst hr
 simp
theorem Qrp {E : Env} {n f : Nat} {args : List AV} {st : St} {Q : AV × St -> Prop} (h : True /\ (Q6 E n f args st).all Q) (k b : Nat) (hb : b = n + k) : True /\ (Q6 E b f args st).all Q :=
 ⟨trivial, by subst hb; exact Qg0 h.2 k⟩
theorem Qqg {n F : Nat} (hn : 39 = n) (hF : n + 3 = F) (st : St) : True /\ (Q6 E F 20 [] st).all fun r => r = (.bool true, st) :=
 Qrp (Qob (n := n - 2) (by omega) st) 3 F (by omega)
theorem Qut {n F : Nat} (hn : 39 = n) (hF : n + 3 = F) {v : AV} {zs : List Int} (hv : Q0s v zs) {st : St} (h1 : Q32 st 0 v 0) (h2 : 0 < st.c) (h3 : HB st) (h4 : HO st) (h5 : st.lo <= 0) : ∃ w g a st', Q6 E F 6 [.pobj 0 0] st = .ret (w, st') /\ st'.c = st.c /\ Q0j st.c 0 v (0 + a) st st' /\ Q02 w g /\ g.Small := by
 obtain ⟨w, g, a, st', a1, a2, a3, a4, a5, _⟩ := Qt7 hn 0 h1 hv ⟨by omega, by omega⟩ h2 h3 h4 h5
 have e : n + 3 + 0 = F := by omega
 rw [e] at a1
 exact ⟨w, g, a, st', a1, a2, a3, a4, a5⟩
theorem Qsc {F m : Nat} (hF : F = m + 20) {v : AV} {zs : List Int} (hv : Q0s v zs) (hA : ∀ {st : St}, Q32 st 0 v 0 -> 0 < st.c -> HB st -> HO st -> st.lo <= 0 -> ∃ w g a st', Q6 E F 6 [.pobj 0 0] st = .ret (w, st') /\ st'.c = st.c /\ Q0j st.c 0 v (0 + a) st st' /\ Q02 w g /\ g.Small)
  (hR : ∀ st, (Q6 E F 20 [] st).all fun r => r = (.bool true, st)) : (Q6 E (F + 1) 3 [v] ⟨[], 0, 0⟩).all fun r => r.1 = .bool true := by
 have hE : ∀ (w1 w2 : AV) (l1 l2 : List Str) (st : St), Reads st.h w1 l1 -> Reads st.h w2 l2 -> l1.length < 1000000 -> Q6 E F 18 [w1, w2] st = .ret (.bool (decide (l1 = l2)), st) := fun w1 w2 l1 l2 st a b c => by rw [hF]; exact Q8s (k := m + 19) a b c
 have h7 : ∀ v g st, Q02 v g -> g.Small -> Q6 E F 7 [v] st = .ret (.int .i64 g.fault, st) := fun v g st a b => by rw [hF]; exact Qh9 (k := m + 13) a b
 have h19 : ∀ v g st, Q02 v g -> g.Small -> Q6 E F 19 [v] st = .ret (.int .i64 g.fault, st) := fun v g st a b => by rw [hF]; exact Q8v (k := m + 14) a b
 have hP : ∀ v g, Q02 v g -> g.Small -> ∀ i, i < 5 -> Qd2 F (8 + 2 * i) (9 + 2 * i) v g := fun v g a b => by rw [hF]; exact Qqi a b
 clear hF
 rw [Qp (fn := C.f3) rfl rfl rfl, Qg (by simp)]
 have body := Qr2 (F := F) hv hA hE h7 h19 hP hR
 have hres : C.f3.results = [.tmp 2] := rfl
 rw [hres]
 refine M.all_of body fun x hx => ?_
 obtain ⟨e, ts, st⟩ := x
 obtain ⟨e1, e2⟩ := hx
 simp only at e1 e2
 subst e1
 simp [Qb, results, Q9, e2]
theorem Quj {v : AV} {zs : List Int} (hv : Q0s v zs) : ∃ n, (Q6 E n 3 [v] ⟨[], 0, 0⟩).all fun r => r.1 = .bool true := by
 obtain ⟨n, hn⟩ : ∃ n, 39 = n := ⟨39, rfl⟩
 obtain ⟨F, hF⟩ : ∃ F, n + 3 = F := ⟨_, rfl⟩
 obtain ⟨m, hm⟩ : ∃ m, F = m + 20 := ⟨F - 20, by omega⟩
 have hA : ∀ {st : St}, Q32 st 0 v 0 -> 0 < st.c -> HB st -> HO st -> st.lo <= 0 -> ∃ w g a st', Q6 E F 6 [.pobj 0 0] st = .ret (w, st') /\ st'.c = st.c /\ Q0j st.c 0 v (0 + a) st st' /\ Q02 w g /\ g.Small := fun {st} h1 h2 h3 h4 h5 => Qut hn hF hv h1 h2 h3 h4 h5
 have hR : ∀ st, (Q6 E F 20 [] st).all fun r => r = (.bool true, st) := fun st => (Qqg hn hF st).2
 exact ⟨F + 1, Qsc hm hv hA hR⟩
end Go.Am
end
