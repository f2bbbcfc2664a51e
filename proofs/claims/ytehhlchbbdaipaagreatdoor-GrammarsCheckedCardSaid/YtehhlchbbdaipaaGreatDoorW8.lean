/- A part of the proof of GrammarsChecked (merged by a program). -/
import Derived.Test.YtehhlchbbdaipaaGreatDoorW4
section
namespace Go.Am
open Go
theorem Qn3 {k : Nat} {cv : AV} {g : Q7} {st : St} (hC : Q2g cv g) (x : Nat) : Q6 E (k + 1) 88 [cv, .int .i64 (x : Int)] st = .ret (.bool (decide (x < g.kinds.length)), st) := by
 obtain ⟨nv, rv, ov, lr, lo', e0, _⟩ := hC.out
 subst e0
 rw [Qp (fn := C.f88) rfl rfl rfl, Qg (by simp)]
 have : decide ((x : Int) < (g.kinds.length : Int)) = decide (x < g.kinds.length) := by rw [decide_eq_decide]; omega
 simp [C.f88, Qb, results, Q9]
theorem Qi1 {k nb n : Nat} {w nw : AV} {B : List Bool} {l : List Nat} {st : St} (hw : Qr w 1 (ints l)) (hl : l.length <= 1000) (hln : ∀ x ∈ l, x < n) (hB : Qr nw 1 (Qv B)) (hn : B.length = n) (hf : Q0 st.h nb = some (.cells 79 1 [nw] false)) :
  Q6 E (k + 4) 134 [w, .pobj nb 0] st = .ret (.bool (l.all fun x => B.getD x false), st) := by
 have one : ∀ (S : St) x, x < n -> Q0 S.h nb = some (.cells 79 1 [nw] false) -> Q6 E (k + 1) 136 [.int .i64 (x : Int), .pobj nb 0] S = .ret (.bool (!B.getD x false), S) := fun S x hx hS => by
  rw [Q0e (fn := C.f136) rfl rfl rfl, Qg (by simp)]
  have r : Q5 S.h (.pobj nb 0) = some nw := by rw [Q4 hS]; rfl
  have ix : Qj 1 nw (.int .i64 (x : Int)) ⟨S.h, S.c, S.c⟩ = some (.pval [.bool (B.getD x false)], ⟨S.h, S.c, S.c⟩) := by
   rw [hB.idx (by simp; omega)]; simp [Qv, AV.cells, List.getD, show x < B.length by omega]
  generalize B.getD x false = b at ix
  simp [C.f136, r, ix, Qb, results, Q9]
 rw [Q0e (fn := C.f134) rfl rfl rfl, Qg (by simp)]
 have hc := Q8u (k := k + 1) (n := l.length) (fc := 136) (w := w) (a := []) (b := [.pobj nb 0]) (el := fun j => (l.getD j 0 : Nat)) (p := fun j => !B.getD (l.getD j 0) false) (st := ⟨st.h, st.c, st.c⟩)
  (by rw [hw.lenS]; simp) (by omega) (fun i hi => ⟨_, hw.idxI hi, by simp [List.getD, hi]⟩) (fun i hi => one ⟨st.h, st.c, st.c⟩ _ (by
   have : l.getD i 0 = l[i] := by simp [List.getD, hi]
   rw [this]; exact hln _ (List.getElem_mem hi)) hf)
 have e : decide (∃ i, i < l.length /\ (!B.getD (l.getD i 0) false) = true) = !l.all fun x => B.getD x false := by
  rw [Bool.eq_iff_iff]
  simp only [decide_eq_true_eq, Bool.not_eq_true', List.all_eq_false]
  constructor
  ·rintro ⟨i, hi, h⟩
   have e : l.getD i 0 = l[i] := by simp [List.getD, hi]
   rw [e] at h
   exact ⟨l[i], List.getElem_mem hi, by rw [h]; simp⟩
  ·rintro ⟨s, hs, h⟩
   obtain ⟨i, hi, rfl⟩ := List.getElem_of_mem hs
   have e : l.getD i 0 = l[i] := by simp [List.getD, hi]
   exact ⟨i, hi, by rw [e]; simpa using h⟩
 rw [e] at hc
 simp [C.f134, hc, Qb, results, Q9]
def okN (B : List Bool) (r : List Nat) (q : Nat) : Bool := ((r.take q).all fun y => B.getD y false) && (r.drop (q + 1)).all fun y => B.getD y false
structure TO (nw : AV) (n : Nat) (R : Nat -> Nat) (ol : List AV) (K : Nat -> List Nat) (st : St) : Prop where
 hb : HB st
 lo : st.lo = 0
 c1 : 1 < st.c
 n0 : Q0 st.h 0 = some (.cells 79 1 [nw] false)
 f1 : Q0 st.h 1 = some (.cells 22 1 ol false)
 len : ol.length = n
 to : ∀ s, s < n -> ∃ w, ol[s]? = some w /\ MSl st.h 3 1 w (ints (K s)) /\ ∀ p, Qh w = some p -> 1 < p /\ p < st.c /\ R p = s
theorem TO.later {nw : AV} {n : Nat} {R : Nat -> Nat} {ol : List AV} {K : Nat -> List Nat} {st st' : St} (H : TO nw n R ol K st) (hb : HB st') (lo : st'.lo = 0) (c : st.c <= st'.c) (fr : ∀ p, p < st.c -> Q0 st'.h p = Q0 st.h p) : TO nw n R ol K st' where
 hb := hb
 lo := lo
 c1 := Nat.lt_of_lt_of_le H.c1 c
 n0 := (fr 0 (by have := H.c1; omega)).trans H.n0
 f1 := (fr 1 H.c1).trans H.f1
 len := H.len
 to := fun s hs => by
  obtain ⟨w, h1, h2, h3⟩ := H.to s hs
  exact ⟨w, h1, h2.heap fun o ho => fr o (h3 o ho).2.1, fun p hp => ⟨(h3 p hp).1, Nat.lt_of_lt_of_le (h3 p hp).2.1 c, (h3 p hp).2.2⟩⟩
def Q8y (K : Nat -> List Nat) (s x : Nat) : Nat -> List Nat := fun q => if q = s then K s ++ [x] else K q
theorem TO.push {nw : AV} {n : Nat} {R : Nat -> Nat} {ol : List AV} {K : Nat -> List Nat} {h : Qc} {c : Nat} (H : TO nw n R ol K ⟨h, c, 0⟩) {s : Nat} (hs : s < n) (x : Nat) (hK : (K s).length <= 900) :
  ∃ wof h6 ol', Q5 h (.pobj 1 s) = some wof /\ newObj c (.cells 3 1 [.int .i64 (x : Nat)] false) ⟨h, c + 2, 0⟩ = some ⟨(c, .cells 3 1 [.int .i64 (x : Nat)] false) :: h, c + 2, 0⟩ /\
   Q0f (c + 1) 3 1 8 wof (.sobj c 0 1 (some 1)) ⟨(c, .cells 3 1 [.int .i64 (x : Nat)] false) :: h, c + 2, 0⟩ = some (.sobj (c + 1) 0 ((K s).length + 1) none, ⟨h6, c + 2, 0⟩) /\
   Q0 h6 1 = some (.cells 22 1 ol false) /\ (∀ p, p < c -> p ≠ 1 -> R p ≠ s -> Q0 h6 p = Q0 h p) /\
   Q0n 1 (.pobj 1 s) (.sobj (c + 1) 0 ((K s).length + 1) none) ⟨h6, c + 2, 0⟩ = some (.undef, ⟨hset h6 1 (.cells 22 1 ol' false), c + 2, 0⟩) /\
   (∀ p, p < c -> p ≠ 1 -> (∀ w, ol[s]? = some w -> Qh w ≠ some p) -> Q0 (hset h6 1 (.cells 22 1 ol' false)) p = Q0 h p) /\ (∀ p, p < c -> (∀ w, ol[s]? = some w -> Qh w ≠ some p) -> Q0 h6 p = Q0 h p) /\
   TO nw n (fun p => if p < c then R p else s) ol' (Q8y K s x) ⟨hset h6 1 (.cells 22 1 ol' false), c + 2, 0⟩ := by
 have hc1 : 1 < c := H.c1
 obtain ⟨wof, q1, q2, q3⟩ := H.to s hs
 have q3' : ∀ p, Qh wof = some p -> 1 < p /\ p < c /\ R p = s := q3
 obtain ⟨n5, h6, t1, t2, t3, t4⟩ := Qmk x H.hb q2 (fun p hp => (q3' p hp).2.1) (by omega)
 have hw1 : Qh wof ≠ some 1 := fun e => by have := (q3' 1 e).1; omega
 have hw0 : Qh wof ≠ some 0 := fun e => by have := (q3' 0 e).1; omega
 have f6 : Q0 h6 1 = some (.cells 22 1 ol false) := (t4 1 hc1 hw1).trans H.f1
 have hlen := H.len
 have s6 := Q07 (st := ⟨h6, c + 2, 0⟩) (off := s) (v := .sobj (c + 1) 0 ((K s).length + 1) none) f6 (Nat.zero_le _) (by omega) rfl rfl
 have F : ∀ {y : Qe} p, p < c -> p ≠ 1 -> Qh wof ≠ some p -> Q0 (hset h6 1 y) p = Q0 h p := fun {y} p hp h1 hne => by rw [Q8 f6, if_neg (Ne.symm h1)]; exact t4 p hp hne
 refine ⟨wof, h6, ol.set s (.sobj (c + 1) 0 ((K s).length + 1) none), by rw [Q4 H.f1]; exact q1, n5, t1, f6, fun p hp h1 hR => t4 p hp fun e => hR (q3' p e).2.2, s6, fun p hp h1 hne => F p hp h1 (hne wof q1), fun p hp hne => t4 p hp (hne wof q1), HB.hset (st := ⟨h6, c + 2, 0⟩) t2, rfl, by show 1 < c + 2; omega, (F 0 (by omega) (by omega) hw0).trans H.n0, ?_, by rw [List.length_set]; exact hlen, fun q hq => ?_⟩
 ·show Q0 (hset h6 1 _) 1 = _
  rw [Q8 f6, if_pos rfl]
 ·by_cases e : q = s
  ·subst e
   refine ⟨.sobj (c + 1) 0 ((K q).length + 1) none, by rw [List.getElem?_set_self (by omega)], ?_, fun p hp => ?_⟩
   ·have : Q8y K q x q = K q ++ [x] := by unfold Q8y; rw [if_pos rfl]
    rw [this]
    refine t3.heap fun o ho => ?_
    simp only [Qh, Option.some.injEq] at ho
    subst ho
    show Q0 (hset h6 1 _) (c + 1) = _
    rw [Q8 f6, if_neg (by omega)]
   ·simp only [Qh, Option.some.injEq] at hp
    subst hp
    exact ⟨by omega, by show c + 1 < c + 2; omega, by rw [if_neg (by omega)]⟩
  ·obtain ⟨w', a1, a2, a3⟩ := H.to q hq
   have a3' : ∀ p, Qh w' = some p -> 1 < p /\ p < c /\ R p = q := a3
   refine ⟨w', by rw [List.getElem?_set_ne (Ne.symm e)]; exact a1, ?_, fun p hp => ?_⟩
   ·have : Q8y K s x q = K q := by unfold Q8y; rw [if_neg e]
    rw [this]
    refine a2.heap fun o ho => ?_
    obtain ⟨b1, b2, b3⟩ := a3' o ho
    exact F o b2 (by omega) fun e' => by have := (q3' o e').2.2; omega
   ·obtain ⟨b1, b2, b3⟩ := a3' p hp
    exact ⟨b1, by show p < c + 2; omega, by rw [if_pos b2]; exact b3⟩
end Go.Am
end
section
namespace Go.Am
open Go
theorem TO.role {nw : AV} {n : Nat} {R R' : Nat -> Nat} {ol : List AV} {K : Nat -> List Nat} {st : St} (H : TO nw n R ol K st) (e : ∀ p, p < st.c -> R' p = R p) : TO nw n R' ol K st :=
 ⟨H.hb, H.lo, H.c1, H.n0, H.f1, H.len, fun s hs => by
  obtain ⟨w, h1, h2, h3⟩ := H.to s hs
  exact ⟨w, h1, h2, fun p hp => ⟨(h3 p hp).1, (h3 p hp).2.1, by rw [e p (h3 p hp).2.1]; exact (h3 p hp).2.2⟩⟩⟩
def lone (m : Nat) (B : List Bool) (rl : List Nat) (q : Nat) : Bool := !decide (rl.getD q 0 < m) && okN B rl q
section
variable {k : Nat} {cv nw : AV} {g : Q7} {B : List Bool}
set_option maxHeartbeats 4000000 in
theorem Qqu (hC : Q2g cv g) (hs : g.Small) (hB : Qr nw 1 (Qv B)) (hBn : B.length = g.names.length) {rl : List Nat} {w1 lv : AV} {sI rb : Nat} (e2 : Qr w1 1 (ints rl)) (hrl : rl.length <= 30) (hrn : ∀ x ∈ rl, x < g.names.length) (hsI : sI < g.names.length)
  {R0 : Nat -> Nat} {ol0 : List AV} {K0 : Nat -> List Nat} (st : St) (H0 : TO nw g.names.length R0 ol0 K0 st) (hrb : 1 < rb /\ rb < st.c /\ R0 rb = g.names.length) (hrf : Q0 st.h rb = some (.cells 160 3 [.int .i64 (sI : Nat), w1, lv] false)) (hK0 : ∀ s, (K0 s).length <= 500) (a5 a27 a28 a29 : AV)
  (ts0 : TS) (z0 : ts0.get 0 = cv) (z3 : ts0.get 3 = .pobj 0 0) (z5 : ts0.get 5 = a5) (z6 : ts0.get 6 = .sobj 1 0 g.names.length (some g.names.length)) (z8 : ts0.get 8 = .pobj rb 0) (z27 : ts0.get 27 = a27) (z28 : ts0.get 28 = a28) (z29 : ts0.get 29 = a29) (z34 : ts0.get 34 = w1) (z35 : ts0.get 35 = .int .i64 (rl.length : Int)) (z36 : ts0.get 36 = .int .i64 ((0 : Nat) : Int)) :
  (Q0l (Qn E (Q6 E (k + 4)) C.f71L1) E.k ts0 st).to fun x => x.1 = .exit 2 /\ x.2.1.get 0 = cv /\ x.2.1.get 3 = .pobj 0 0 /\ x.2.1.get 5 = a5 /\ x.2.1.get 6 = .sobj 1 0 g.names.length (some g.names.length) /\ x.2.1.get 27 = a27 /\ x.2.1.get 28 = a28 /\ x.2.1.get 29 = a29 /\ ∃ R ol K, TO nw g.names.length R ol K x.2.2 /\ (∀ s, (K s).length <= (K0 s).length + rl.length) /\ ∀ s x, x ∈ K s ↔ x ∈ K0 s ∨ (s = sI /\ ∃ q, q < rl.length /\ rl.getD q 0 = x /\ lone g.kinds.length B rl q = true) := by
 refine Qs (fun (i : Nat) ts st => i <= rl.length /\ ts.get 0 = cv /\ ts.get 3 = .pobj 0 0 /\ ts.get 5 = a5 /\ ts.get 6 = .sobj 1 0 g.names.length (some g.names.length) /\ ts.get 8 = .pobj rb 0 /\ ts.get 27 = a27 /\ ts.get 28 = a28 /\ ts.get 29 = a29 /\ ts.get 34 = w1 /\ ts.get 35 = .int .i64 (rl.length : Int) /\ ts.get 36 = .int .i64 (i : Int) /\ ∃ R ol K, TO nw g.names.length R ol K st /\ (rb < st.c /\ R rb = g.names.length /\ Q0 st.h rb = some (.cells 160 3 [.int .i64 (sI : Nat), w1, lv] false)) /\ (∀ s, (K s).length <= (K0 s).length + i) /\ ∀ s x, x ∈ K s ↔ x ∈ K0 s ∨ (s = sI /\ ∃ q, q < i /\ rl.getD q 0 = x /\ lone g.kinds.length B rl q = true))
  (fun i => rl.length - i) (fun e ts st => e = .exit 2 /\ ts.get 0 = cv /\ ts.get 3 = .pobj 0 0 /\ ts.get 5 = a5 /\ ts.get 6 = .sobj 1 0 g.names.length (some g.names.length) /\ ts.get 27 = a27 /\ ts.get 28 = a28 /\ ts.get 29 = a29 /\ ∃ R ol K, TO nw g.names.length R ol K st /\ (∀ s, (K s).length <= (K0 s).length + rl.length) /\ ∀ s x, x ∈ K s ↔ x ∈ K0 s ∨ (s = sI /\ ∃ q, q < rl.length /\ rl.getD q 0 = x /\ lone g.kinds.length B rl q = true)) ?_ _ 0 _ _ ?_ ?_
 ·rintro i ts st ⟨hi, z0, z3, z5, z6, z8, z27, z28, z29, z34, z35, z36, R, ol, K, H, ⟨hrc, hrR, hrf⟩, hKl, hK⟩
  by_cases hlt : i < rl.length
  ·obtain ⟨h, c, lo⟩ := st
   have hlo : lo = 0 := H.lo
   subst hlo
   have hrc' : rb < c := hrc
   obtain ⟨x, hx⟩ : ∃ x, rl[i] = x := ⟨_, rfl⟩
   have hxD : rl.getD i 0 = x := by rw [← hx]; simp [List.getD, hlt]
   have ixr := e2.idxI (st := ⟨h, c, 0⟩) hlt
   rw [hx] at ixr
   have rr1 : Q5 h (.pobj rb 1) = some w1 := by rw [Q4 hrf]; rfl
   have rr0 : Q5 h (.pobj rb 0) = some (.int .i64 (sI : Nat)) := by rw [Q4 hrf]; rfl
   have hkd := Qn3 (k := k + 3) (st := ⟨h, c, 0⟩) hC x
   obtain ⟨wa, ca, sa⟩ := e2.cut (st := ⟨h, c, 0⟩) (i := i) (by simp; omega)
   obtain ⟨wb, cb, sb⟩ := e2.from_ (st := ⟨h, c, 0⟩) (i := i + 1) (by simp; omega)
   have sa' : Qr wa 1 (ints (rl.take i)) := by simpa [ints, List.map_take] using sa
   have sb' : Qr wb 1 (ints (rl.drop (i + 1))) := by simpa [ints, List.map_drop] using sb
   have cb' : Q0o 1 true false false [w1, .int .i64 ((i : Int) + 1)] ⟨h, c, 0⟩ = some (wb, ⟨h, c, 0⟩) := by have := cb; simpa using this
   have ea := Qi1 (k := k) (st := ⟨h, c, 0⟩) sa' (by rw [List.length_take]; omega) (fun y hy => hrn y (List.mem_of_mem_take hy)) hB hBn H.n0
   have eb := Qi1 (k := k) (st := ⟨h, c, 0⟩) sb' (by rw [List.length_drop]; omega) (fun y hy => hrn y (List.mem_of_mem_drop hy)) hB hBn H.n0
   have hlone : lone g.kinds.length B rl i = (!decide (x < g.kinds.length) && (((rl.take i).all fun y => B.getD y false) && (rl.drop (i + 1)).all fun y => B.getD y false)) := by unfold lone okN; rw [hxD]
   have hq : ∀ y, (∃ q, q < i + 1 /\ rl.getD q 0 = y /\ lone g.kinds.length B rl q = true) ↔ (∃ q, q < i /\ rl.getD q 0 = y /\ lone g.kinds.length B rl q = true) ∨ (x = y /\ lone g.kinds.length B rl i = true) := fun y => by
    constructor
    ·rintro ⟨q, h1, h2, h3⟩
     by_cases e : q = i
     ·subst e; exact .inr ⟨by rw [← hxD]; exact h2, h3⟩
     ·exact .inl ⟨q, by omega, h2, h3⟩
    ·rintro (⟨q, h1, h2, h3⟩ | ⟨h2, h3⟩)
     ·exact ⟨q, by omega, h2, h3⟩
     ·exact ⟨i, by omega, by rw [hxD]; exact h2, h3⟩
   have stay : lone g.kinds.length B rl i = false -> ∀ s y, y ∈ K s ↔ y ∈ K0 s ∨ (s = sI /\ ∃ q, q < i + 1 /\ rl.getD q 0 = y /\ lone g.kinds.length B rl q = true) := fun hno s y => by
    rw [hK, hq, hno]; simp
   generalize decide (x < g.kinds.length) = b1 at hkd hlone
   generalize ((rl.take i).all fun y => B.getD y false) = b2 at ea hlone
   generalize ((rl.drop (i + 1)).all fun y => B.getD y false) = b3 at eb hlone
   cases b1 with
   | true =>
    simp [-List.getD_eq_getElem?_getD, C.f71L1, Q05, Qy, z0, z3, z5, z6, z8, z27, z28, z29, z34, z35, z36, hlt, ixr, hkd, wrap64 (n := (i : Int) + 1) (by omega) (by omega)]
    exact ⟨i + 1, by omega, by omega, by simp, R, ol, K, H, ⟨hrc', hrR, hrf⟩, fun s => by have := hKl s; omega, stay (by rw [hlone]; rfl)⟩
   | false =>
   cases b2 with
   | false =>
    simp [-List.getD_eq_getElem?_getD, C.f71L1, Q05, Qy, z0, z3, z5, z6, z8, z27, z28, z29, z34, z35, z36, hlt, ixr, hkd, rr1, ca, ea, wrap64 (n := (i : Int) + 1) (by omega) (by omega)]
    exact ⟨i + 1, by omega, by omega, by simp, R, ol, K, H, ⟨hrc', hrR, hrf⟩, fun s => by have := hKl s; omega, stay (by rw [hlone]; rfl)⟩
   | true =>
   cases b3 with
   | false =>
    simp [-List.getD_eq_getElem?_getD, C.f71L1, Q05, Qy, z0, z3, z5, z6, z8, z27, z28, z29, z34, z35, z36, hlt, ixr, hkd, rr1, ca, ea, cb', eb, wrap64 (n := (i : Int) + 1) (by omega) (by omega)]
    exact ⟨i + 1, by omega, by omega, by simp, R, ol, K, H, ⟨hrc', hrR, hrf⟩, fun s => by have := hKl s; omega, stay (by rw [hlone]; rfl)⟩
   | true =>
    have hyes : lone g.kinds.length B rl i = true := by rw [hlone]; rfl
    have hKs := hKl sI
    have hK0s := hK0 sI
    obtain ⟨wof, h6, ol', p0, p1, p2, p3, p4, p5, p6, p7, T⟩ := H.push hsI x (by omega)
    have hnrb : ∀ w, ol[sI]? = some w -> Qh w ≠ some rb := fun w hw e => by
     obtain ⟨w', a1, a2, a3⟩ := H.to sI hsI
     rw [hw, Option.some.injEq] at a1
     subst a1
     have := (a3 rb e).2.2
     omega
    have rr6 : Q5 h6 (.pobj rb 0) = some (.int .i64 (sI : Nat)) := by rw [Q4 ((p7 rb hrc' hnrb).trans hrf)]; rfl
    have ixF := Q1h (st := ⟨h, c + 2, 0⟩) (n := g.names.length) (cap := some g.names.length) H.f1 hsI
    have ixF6 := Q1h (st := ⟨h6, c + 2, 0⟩) (n := g.names.length) (cap := some g.names.length) p3 hsI
    simp [-List.getD_eq_getElem?_getD, C.f71L1, Q05, Qy, z0, z3, z5, z6, z8, z27, z28, z29, z34, z35, z36, hlt, ixr, hkd, rr1, ca, ea, cb', eb, Q2o, Q3k, Q1m, Q1d, Q1z, beq_eq, AV.beq_same, rr0, ixF, p0, Qji, p1, p2, rr6, ixF6, p5, wrap64 (n := (i : Int) + 1) (by omega) (by omega)]
    refine ⟨i + 1, by omega, by omega, by simp, _, ol', Q8y K sI x, T, ⟨?_, ?_, ?_⟩, fun s => ?_, fun s y => ?_⟩
    ·show rb < c + 2; omega
    ·rw [if_pos hrc']; exact hrR
    ·exact (p6 rb hrc' (by omega) hnrb).trans hrf
    ·unfold Q8y
     have := hKl s
     split
     ·rename_i e; subst e; simp; omega
     ·omega
    ·rw [hq, hyes]
     unfold Q8y
     by_cases e : s = sI
     ·subst e
      rw [if_pos rfl, List.mem_append, List.mem_singleton, hK]
      constructor
      ·rintro ((h | ⟨h1, h2⟩) | h)
       ·exact .inl h
       ·exact .inr ⟨rfl, .inl h2⟩
       ·exact .inr ⟨rfl, .inr ⟨h.symm, rfl⟩⟩
      ·rintro (h | ⟨_, h | ⟨h, _⟩⟩)
       ·exact .inl (.inl h)
       ·exact .inl (.inr ⟨rfl, h⟩)
       ·exact .inr h.symm
     ·rw [if_neg e, hK]
      constructor
      ·rintro (h | ⟨h1, _⟩)
       ·exact .inl h
       ·exact absurd h1 e
      ·rintro (h | ⟨h1, _⟩)
       ·exact .inl h
       ·exact absurd h1 e
  ·have : i = rl.length := by omega
   subst this
   simp [-List.getD_eq_getElem?_getD, C.f71L1, z0, z3, z5, z6, z8, z27, z28, z29, z34, z35, z36]
   exact ⟨R, ol, K, H, hKl, hK⟩
 ·show rl.length - 0 < 1000000; omega
 ·exact ⟨by omega, z0, z3, z5, z6, z8, z27, z28, z29, z34, z35, z36, R0, ol0, K0, H0, ⟨hrb.2.1, hrb.2.2, hrf⟩, fun s => by omega, fun s x => by simp⟩
set_option maxHeartbeats 1000000 in
theorem Qqv (hC : Q2g cv g) (hs : g.Small) (hok : g.Ok) (hB : Qr nw 1 (Qv B)) (hBn : B.length = g.names.length) (rv : AV) (lr : List AV) (h2 : Qr rv 3 lr) (h3 : lr.length = g.rules.length) (h4 : ∀ j (hj : j < g.rules.length), ∃ w, lr[j]? = some (.agg [.int .i64 (g.ix g.rules[j].left : Nat), w, .int .i64 g.rules[j].level]) /\ Qr w 1 (ints (g.rules[j].right.map g.ix)))
  {R0 : Nat -> Nat} {ol0 : List AV} (st : St) (H0 : TO nw g.names.length R0 ol0 (fun _ => []) st) (a5 : AV)
  (ts0 : TS) (z0 : ts0.get 0 = cv) (z3 : ts0.get 3 = .pobj 0 0) (z5 : ts0.get 5 = a5) (z6 : ts0.get 6 = .sobj 1 0 g.names.length (some g.names.length)) (z27 : ts0.get 27 = rv) (z28 : ts0.get 28 = .int .i64 (g.rules.length : Int)) (z29 : ts0.get 29 = .int .i64 ((0 : Nat) : Int)) :
  (Q0l (Qn E (Q6 E (k + 4)) C.f71L0) E.k ts0 st).to fun x => x.1 = .exit 0 /\ x.2.1.get 0 = cv /\ x.2.1.get 5 = a5 /\ x.2.1.get 6 = .sobj 1 0 g.names.length (some g.names.length) /\ ∃ R ol K, TO nw g.names.length R ol K x.2.2 /\ (∀ s, (K s).length <= 400) /\ ∀ s x, x ∈ K s ↔ ∃ r ∈ g.rules, g.ix r.left = s /\ ∃ q, q < r.right.length /\ (r.right.map g.ix).getD q 0 = x /\ lone g.kinds.length B (r.right.map g.ix) q = true := by
 have hmany := hs.many
 refine Qs (fun (i : Nat) ts st => i <= g.rules.length /\ ts.get 0 = cv /\ ts.get 3 = .pobj 0 0 /\ ts.get 5 = a5 /\ ts.get 6 = .sobj 1 0 g.names.length (some g.names.length) /\ ts.get 27 = rv /\ ts.get 28 = .int .i64 (g.rules.length : Int) /\ ts.get 29 = .int .i64 (i : Int) /\ ∃ R ol K, TO nw g.names.length R ol K st /\ (∀ s, (K s).length <= 30 * i) /\ ∀ s x, x ∈ K s ↔ ∃ j, ∃ hj : j < g.rules.length, j < i /\ g.ix g.rules[j].left = s /\ ∃ q, q < g.rules[j].right.length /\ (g.rules[j].right.map g.ix).getD q 0 = x /\ lone g.kinds.length B (g.rules[j].right.map g.ix) q = true)
  (fun i => g.rules.length - i) (fun e ts st => e = .exit 0 /\ ts.get 0 = cv /\ ts.get 5 = a5 /\ ts.get 6 = .sobj 1 0 g.names.length (some g.names.length) /\ ∃ R ol K, TO nw g.names.length R ol K st /\ (∀ s, (K s).length <= 400) /\ ∀ s x, x ∈ K s ↔ ∃ r ∈ g.rules, g.ix r.left = s /\ ∃ q, q < r.right.length /\ (r.right.map g.ix).getD q 0 = x /\ lone g.kinds.length B (r.right.map g.ix) q = true) ?_ _ 0 _ _ ?_ ?_
 ·rintro i ts st ⟨hi, z0, z3, z5, z6, z27, z28, z29, R, ol, K, H, hKl, hK⟩
  by_cases hlt : i < g.rules.length
  ·have hil : i < lr.length := by omega
   obtain ⟨w, e1, e2⟩ := h4 i hlt
   rw [List.getElem?_eq_getElem hil, Option.some.injEq] at e1
   have hmem := List.getElem_mem hlt
   have hsr := (hs.rules _ hmem).right
   obtain ⟨h, c, lo⟩ := st
   have hlo : lo = 0 := H.lo
   subst hlo
   have hb' : ∀ p x, (p, x) ∈ h -> p < c := H.hb
   have hc1 : 1 < c := H.c1
   obtain ⟨sI, hsI⟩ : ∃ s, s = g.ix g.rules[i].left := ⟨_, rfl⟩
   have hsn : sI < g.names.length := hsI ▸ ixN (Q7.left_names hmem)
   rw [← hsI] at e1
   obtain ⟨rl, hrl⟩ : ∃ rl, rl = g.rules[i].right.map g.ix := ⟨_, rfl⟩
   rw [← hrl] at e2
   have hrll : rl.length = g.rules[i].right.length := by rw [hrl]; simp
   obtain ⟨rc, hrc⟩ : ∃ rc : List AV, rc = [.int .i64 (sI : Int), w, .int .i64 g.rules[i].level] := ⟨_, rfl⟩
   obtain ⟨h', hh'⟩ : ∃ h' : Qc, h' = (c, Qe.cells 160 3 rc false) :: h := ⟨_, rfl⟩
   have hbS : HB ⟨h', c + 1, 0⟩ := hh' ▸ HB.cons (h := h) (c := c) (lo := 0) H.hb (by omega) (by omega)
   have fr : ∀ p, p < c -> Q0 h' p = Q0 h p := fun p hp => by rw [hh', Qu hp]
   have H' : TO nw g.names.length (fun p => if p < c then R p else g.names.length) ol K ⟨h', c + 1, 0⟩ := (H.role (R' := fun p => if p < c then R p else g.names.length) fun p hp => by
    have : p < c := hp
    simp only [if_pos this]).later hbS rfl (Nat.le_succ c) fr
   have hix : Qj 3 rv (.int .i64 (i : Int)) ⟨h, c + 1, 0⟩ = some (.pval lr[i].cells, ⟨h, c + 1, 0⟩) := h2.idx hil
   have hcells : lr[i].cells = rc := by rw [e1, hrc]; rfl
   rw [hcells] at hix
   have hn : newObj c (.cells 160 3 [.int .i64 0, .snil, .int .i64 0] false) ⟨h, c + 1, 0⟩ = some ⟨(c, .cells 160 3 [.int .i64 0, .snil, .int .i64 0] false) :: h, c + 1, 0⟩ := Qf hb'
   have hst := Q1k (h := h) (c := c) (c' := c + 1) (lo := 0) (ty := 160) (n := 3) (zs := [.int .i64 0, .snil, .int .i64 0]) (vs := rc) (by omega) (by rw [hrc]; rfl) rfl
   rw [← hh'] at hst
   have hrd3 : Ql h (.pval rc) 3 = some rc := by rw [hrc]; rfl
   have fc : Q0 h' c = some (.cells 160 3 rc false) := by rw [hh', Q3, if_pos rfl]
   have rc1 : Q5 h' (.pobj c 1) = some w := by rw [Q4 fc, hrc]; rfl
   have hlr : Qw .slice w ⟨h', c + 1, 0⟩ = some (.int .i64 (rl.length : Int), ⟨h', c + 1, 0⟩) := by have := e2.len (st := ⟨h', c + 1, 0⟩); simpa using this
   have q1 : 1 < c /\ c < (St.mk h' (c + 1) 0).c /\ (fun p => if p < c then R p else g.names.length) c = g.names.length := ⟨hc1, Nat.lt_succ_self c, by simp⟩
   have q2 : ∀ x ∈ rl, x < g.names.length := fun x hx => by
    rw [hrl] at hx
    obtain ⟨y, hy, rfl⟩ := List.mem_map.1 hx
    exact ixN (Q7.sym_mem hok hmem hy)
   have q3 : ∀ s, (K s).length <= 500 := fun s => by have := hKl s; omega
   have q4 : rl.length <= 30 := by omega
   have loop := Qqu (k := k) (rl := rl) (w1 := w) (lv := .int .i64 g.rules[i].level) (sI := sI) (rb := c) hC hs hB hBn e2 q4 q2 hsn ⟨h', c + 1, 0⟩ H' q1 (hrc ▸ fc) q3 a5
   simp [-List.getD_eq_getElem?_getD, C.f71L0, z0, z3, z5, z6, z27, z28, z29, hlt, hix, -Q0i, hrd3, hn, hst, rc1, hlr]
   refine M.to_bind (loop _ _ _ _ (by simp [z0]) (by simp [z3]) (by simp [z5]) (by simp [z6]) (by simp) (by simp [z27]; rfl) (by simp [z28]; rfl) (by simp [z29]; rfl) (by simp) (by simp) (by simp)) fun x hx => ?_
   obtain ⟨e, ts1, st1⟩ := x
   obtain ⟨ee, g0, g3, g5, g6, g27, g28, g29, R', ol', K', T, hKl', hK'⟩ := hx
   simp only at ee g0 g3 g5 g6 g27 g28 g29 T
   subst ee
   simp [-List.getD_eq_getElem?_getD, g0, g3, g5, g6, g27, g28, g29, wrap64 (n := (i : Int) + 1) (by omega) (by omega)]
   refine ⟨i + 1, by omega, by omega, by simp, R', ol', K', T, fun s => by have := hKl s; have := hKl' s; omega, fun s x => ?_⟩
   rw [hK', hK]
   constructor
   ·rintro (⟨j, hj, hji, h1, h2⟩ | ⟨h1, q, h2, h3⟩)
    ·exact ⟨j, by omega, hj, h1, h2⟩
    ·exact ⟨i, by omega, hlt, by rw [h1]; exact hsI.symm, q, by omega, by rw [← hrl]; exact h3⟩
   ·rintro ⟨j, hji, hj, h1, q, h2, h3⟩
    by_cases e : j = i
    ·subst e; exact .inr ⟨by rw [← h1]; exact hsI.symm, q, by omega, by rw [hrl]; exact h3⟩
    ·exact .inl ⟨j, hj, by omega, h1, q, h2, h3⟩
  ·have : i = g.rules.length := by omega
   subst this
   simp [-List.getD_eq_getElem?_getD, C.f71L0, z0, z3, z5, z6, z27, z28, z29]
   refine ⟨R, ol, K, H, fun s => by have := hKl s; omega, fun s x => ?_⟩
   rw [hK]
   constructor
   ·rintro ⟨j, hj, _, h1, h2⟩; exact ⟨_, List.getElem_mem hj, h1, h2⟩
   ·rintro ⟨r, hr, h1, h2⟩
    obtain ⟨j, hj, rfl⟩ := List.getElem_of_mem hr
    exact ⟨j, hj, hj, h1, h2⟩
 ·show g.rules.length - 0 < 1000000; omega
 ·exact ⟨by omega, z0, z3, z5, z6, z27, z28, z29, R0, ol0, fun _ => [], H0, fun s => by simp, fun s x => by simp⟩
end
end Go.Am
end
section
namespace Go.Am
open Go
inductive BN (K : Nat -> List Nat) (s : Nat) : Nat -> Prop
 | one {x : Nat} (h : x ∈ K s) : BN K s x
 | more {x y : Nat} (h : BN K s x) (k : y ∈ K x) : BN K s y
theorem MSl.app {h : Qc} {w : AV} {N : List Nat} (H : MSl h 3 1 w (ints N)) : lenOf w = some N.length /\ Q01 h 1 N.length w = some (ints N) := by
 generalize hx : ints N = xs at H
 cases H with
 | nl =>
  have : N = [] := Q3o.1 hx
  subst this; exact ⟨rfl, rfl⟩
 | mt id ext hf =>
  have : N = [] := Q3o.1 hx
  subst this
  exact ⟨rfl, by simp [Q01, hf, beq_eq, Qi]⟩
 | ob id _ h0 hc hf =>
  subst hx
  rw [Q73] at hf
  refine ⟨by simp [lenOf], ?_⟩
  have : (ints N).take N.length = ints N := List.take_of_length_le (by simp)
  simp [Q01, hf, beq_eq, Qi, this]
theorem Qrg {k : Nat} {h : Qc} {c : Nat} {w : AV} {N : List Nat} (hb : HB ⟨h, c, 0⟩) (H : MSl h 3 1 w (ints N)) (hN : N.length <= 1000) :
  (Q6 E (k + 1) 137 [w] ⟨h, c, 0⟩).to fun x => Stk x.2.h x.1 N /\ (∀ p, Qh x.1 = some p -> c <= p /\ p < x.2.c) /\ c <= x.2.c /\ x.2.lo = 0 /\ HB x.2 /\ ∀ p, p < c -> Q0 x.2.h p = Q0 h p := by
 rw [Qp (fn := C.f137) rfl rfl rfl, Qg (by simp)]
 have lit : Qz c 3 1 0 [] [] [] = some (.sobj c 0 0 (some 0), .cells 3 1 [] false) := by simp [Qz, Qm, beq_eq, Q00]
 have n1 : newObj c (.cells 3 1 [] false) ⟨h, c + 2, 0⟩ = some ⟨(c, .cells 3 1 [] false) :: h, c + 2, 0⟩ := Qf hb
 obtain ⟨h1, hh1⟩ : ∃ h1 : Qc, h1 = (c, Qe.cells 3 1 [] false) :: h := ⟨_, rfl⟩
 have hb1 : HB ⟨h1, c + 1, 0⟩ := hh1 ▸ HB.cons (h := h) (c := c) (lo := 0) hb (by omega) (by omega)
 rw [← hh1] at n1
 have S0 : Stk h1 (.sobj c 0 0 (some 0)) [] := .ob c [] [] false (some 0) (by rw [hh1, Q3, if_pos rfl]; rfl) (.inr rfl)
 obtain ⟨w', h', p1, p2, p3, p4, p5⟩ := S0.push N (o := c + 1) (c := c + 2) (lo := 0) (hb1.up (by omega)) (fun p y hm e => by have : p < c + 1 := hb1 p y hm; omega) (by omega) (fun p hp => by
  simp only [Qh, Option.some.injEq] at hp; omega) (by simp; omega)
 have nsn : w = .snil ∨ ∃ o off len cap, w = .sobj o off len cap := by
  generalize ints N = xs at H
  cases H with
  | nl => exact .inl rfl
  | mt id ext hf => exact .inr ⟨_, _, _, _, rfl⟩
  | ob id _ h0 hc hf => exact .inr ⟨_, _, _, _, rfl⟩
 rcases nsn with rfl | ⟨o, off, len, cap, rfl⟩
 ·have hN0 : N = [] := by
   generalize hx : ints N = xs at H
   cases H with
   | nl => exact Q3o.1 hx
  subst hN0
  simp [C.f137, Qar, aeq, Qb, results, Q9]
  exact ⟨.nl, fun p hp => (by cases hp), hb⟩
 ·have Hw : MSl h1 3 1 (.sobj o off len cap) (ints N) := by
   have hlt : ∀ q, Qh (.sobj o off len cap) = some q -> q < c := fun q hq => by
    simp only [Qh, Option.some.injEq] at hq
    subst hq
    generalize ints N = xs at H
    have mem : ∀ {x : Qe}, Q0 h o = some x -> o < c := fun {x} hf => by
     by_cases hlt : o < c
     ·exact hlt
     ·have := Q7e hb (show c <= o by omega)
      rw [hf] at this; cases this
    cases H with
    | mt id ext hf => exact mem hf
    | ob id _ h0 hc hf => exact mem hf
   exact H.heap fun q hq => by rw [hh1, Qu (hlt q hq)]
  obtain ⟨a1, a2⟩ := Hw.app
  have happ := Qco (o := c + 1) (w := .sobj c 0 0 (some 0)) (st := ⟨h1, c + 2, 0⟩) a1 a2
  rw [p1] at happ
  simp [C.f137, Qar, aeq, lit, n1, happ, Qb, results, Q9]
  refine ⟨p3, fun p hp => ?_, p2, fun p hp => ?_⟩
  ·rcases p4 p hp with e | e
   ·omega
   ·simp only [Qh, Option.some.injEq] at e; omega
  ·rw [p5 p (by omega) (by simp only [Qh, ne_eq, Option.some.injEq]; omega), hh1, Qu hp]
structure DS (A n : Nat) (st0 : St) (B : List Bool) (w : AV) (L : List Nat) (st : St) : Prop where
 hb : HB st
 lo : st.lo = 0
 fr : ∀ p, p < A -> Q0 st.h p = Q0 st0.h p
 a : Q0 st.h A = some (.cells 4 1 (Qv B) false)
 len : B.length = n
 ac : A < st.c
 sk : Stk st.h w L
 own : ∀ p, Qh w = some p -> A < p /\ p < st.c
structure DI (K : Nat -> List Nat) (n s : Nat) (B : List Bool) (L : List Nat) : Prop where
 sound : ∀ x, B.getD x false = true -> BN K s x
 stk : ∀ x ∈ L, x < n /\ BN K s x
 cl : ∀ x, B.getD x false = true -> ∀ y ∈ K x, B.getD y false = true ∨ y ∈ L
 root : ∀ y ∈ K s, B.getD y false = true ∨ y ∈ L
theorem DI.fin {K : Nat -> List Nat} {n s : Nat} {B : List Bool} (H : DI K n s B []) (x : Nat) : B.getD x false = true ↔ BN K s x := by
 refine ⟨H.sound x, fun h => ?_⟩
 induction h with
 | one h => exact (H.root _ h).elim id fun h => by cases h
 | more _ h ih => exact (H.cl _ ih _ h).elim id fun h => by cases h
section
variable {n : Nat} {g : Q7} {nw : AV}
set_option maxHeartbeats 2000000 in
theorem Qqs {k : Nat} {K : Nat -> List Nat} {R : Nat -> Nat} {ol : List AV} {A s : Nat} (hnl : n <= 22) (hKl : ∀ s, (K s).length <= 400) (hKn : ∀ s x, x ∈ K s -> x < n) (st0 : St) (T0 : TO nw n R ol K st0) (hA : st0.c <= A) (a0 a5 a12 a13 : AV)
  {B0 : List Bool} {w0 : AV} {L0 : List Nat} (st : St) (H0 : DS A n st0 B0 w0 L0 st) (I0 : DI K n s B0 L0) (hL0 : L0.length <= 400)
  (ts0 : TS) (z0 : ts0.get 0 = a0) (z5 : ts0.get 5 = a5) (z6 : ts0.get 6 = .sobj 1 0 n (some n)) (z12 : ts0.get 12 = a12) (z13 : ts0.get 13 = a13) (z14 : ts0.get 14 = .sobj A 0 n (some n)) (z15 : ts0.get 15 = w0) :
  (Q0l (Qn E (Q6 E k) C.f71L3) E.k ts0 st).to fun x => x.1 = .exit 6 /\ x.2.1.get 0 = a0 /\ x.2.1.get 5 = a5 /\ x.2.1.get 6 = .sobj 1 0 n (some n) /\ x.2.1.get 12 = a12 /\ x.2.1.get 13 = a13 /\ x.2.1.get 14 = .sobj A 0 n (some n) /\ ∃ B w, DS A n st0 B w [] x.2.2 /\ ∀ x, B.getD x false = true ↔ BN K s x := by
 have hu := Qnx n B0
 have hc1 := T0.c1
 refine Qs (fun (m : Nat) ts st => m <= 50000 /\ ts.get 0 = a0 /\ ts.get 5 = a5 /\ ts.get 6 = .sobj 1 0 n (some n) /\ ts.get 12 = a12 /\ ts.get 13 = a13 /\ ts.get 14 = .sobj A 0 n (some n) /\ ∃ B w L, ts.get 15 = w /\ DS A n st0 B w L st /\ DI K n s B L /\ 402 * unm n B + L.length <= m)
  (fun m => m) (fun e ts st => e = .exit 6 /\ ts.get 0 = a0 /\ ts.get 5 = a5 /\ ts.get 6 = .sobj 1 0 n (some n) /\ ts.get 12 = a12 /\ ts.get 13 = a13 /\ ts.get 14 = .sobj A 0 n (some n) /\ ∃ B w, DS A n st0 B w [] st /\ ∀ x, B.getD x false = true ↔ BN K s x) ?_ _ 20000 _ _ ?_ ?_
 ·rintro m ts st ⟨hm, z0, z5, z6, z12, z13, z14, B, w, L, z15, H, I, hM⟩
  have hlen : ∀ S : St, Qw .slice w S = some (.int .i64 (L.length : Int), S) := fun S => by simp [Qw, H.sk.len]
  rcases List.eq_nil_or_concat L with rfl | ⟨L', x, rfl⟩
  ·simp [-List.getD_eq_getElem?_getD, C.f71L3, z0, z5, z6, z12, z13, z14, z15, hlen]
   exact ⟨B, ⟨w, H⟩, I.fin⟩
  ·simp only [List.concat_eq_append] at *
   obtain ⟨h, c, lo⟩ := st
   have hlo : lo = 0 := H.lo
   subst hlo
   have hac : A < c := H.ac
   have hown : ∀ p, Qh w = some p -> A < p /\ p < c := H.own
   obtain ⟨q, t1, t2⟩ := H.sk.top (st := ⟨h, c, 0⟩) rfl
   obtain ⟨w', p1, p2, p3⟩ := H.sk.pop (st := ⟨h, c, 0⟩) rfl
   have hLl : (L' ++ [x]).length = L'.length + 1 := by simp
   rw [hLl] at hlen hM
   have hpos : (0 : Int) < ((L'.length + 1 : Nat) : Int) := by omega
   have hcast : ((L'.length + 1 : Nat) : Int) - 1 = (L'.length : Int) := by omega
   obtain ⟨hxn, hxB⟩ := I.stk x (by simp)
   have hBlen := H.len
   have ixA := Q1h (st := ⟨h, c, 0⟩) (n := n) (cap := some n) H.a hxn
   have rA : Q5 h (.pobj A x) = some (.bool (B.getD x false)) := by rw [Q4 H.a, bools_get? _ _ (by omega)]
   cases hb : B.getD x false with
   | true =>
    rw [hb] at rA
    simp [-List.getD_eq_getElem?_getD, C.f71L3, z0, z5, z6, z12, z13, z14, z15, hlen, hpos, hcast, wrap64 (n := (L'.length : Int)) (by omega) (by omega), t1, t2, p1, ixA, rA]
    refine ⟨m - 1, by omega, by omega, B, L', ⟨H.hb, H.lo, H.fr, H.a, H.len, H.ac, p2, fun p hp => H.own p (p3 p hp)⟩, ⟨I.sound, fun y hy => I.stk y (by simp [hy]), fun y hy z hz => ?_, fun z hz => ?_⟩, by omega⟩
    ·rcases I.cl y hy z hz with h | h
     ·exact .inl h
     ·rcases List.mem_append.1 h with h | h
      ·exact .inr h
      ·simp only [List.mem_singleton] at h; subst h; exact .inl hb
    ·rcases I.root z hz with h | h
     ·exact .inl h
     ·rcases List.mem_append.1 h with h | h
      ·exact .inr h
      ·simp only [List.mem_singleton] at h; subst h; exact .inl hb
   | false =>
    rw [hb] at rA
    have s1 := Q07 (st := ⟨h, c, 0⟩) (off := x) (v := .bool true) H.a (Nat.zero_le _) (by simp; omega) rfl rfl
    rw [Q5q] at s1
    obtain ⟨h1, hh1⟩ : ∃ h1, h1 = hset h A (.cells 4 1 (Qv (B.set x true)) false) := ⟨_, rfl⟩
    rw [← hh1] at s1
    have hb1 : HB ⟨h1, c, 0⟩ := hh1 ▸ HB.hset (st := ⟨h, c, 0⟩) H.hb
    have F1 : ∀ p, p ≠ A -> Q0 h1 p = Q0 h p := fun p hp => by rw [hh1, Q8 H.a, if_neg (Ne.symm hp)]
    have a1 : Q0 h1 A = some (.cells 4 1 (Qv (B.set x true)) false) := by rw [hh1, Q8 H.a, if_pos rfl]
    obtain ⟨wx, k1, k2, k3⟩ := T0.to x hxn
    have f11 : Q0 h1 1 = some (.cells 22 1 ol false) := (F1 1 (by omega)).trans ((H.fr 1 (by omega)).trans T0.f1)
    have ixF := Q1h (st := ⟨h1, c + 1, 0⟩) (n := n) (cap := some n) f11 hxn
    have rF : Q5 h1 (.pobj 1 x) = some wx := by rw [Q4 f11]; exact k1
    have Mx : MSl h1 3 1 wx (ints (K x)) := k2.heap fun o ho => by
     have := (k3 o ho).2.1
     exact (F1 o (by omega)).trans (H.fr o (by omega))
    obtain ⟨m1, m2⟩ := Mx.app
    have S1 : Stk h1 w' L' := p2.heap fun o ho => F1 o (by have := (hown o (p3 o ho)).1; omega)
    have hKx := hKl x
    have hLs : L'.length <= 50000 := by omega
    obtain ⟨w'', h', e1, e2, e3, e4, e5⟩ := S1.push (K x) (o := c) (c := c + 1) (lo := 0) (hb1.up (by omega)) (fun p y hm e => by have : p < c := hb1 p y hm; omega) (by omega) (fun p hp => ⟨Nat.zero_le _, by have := (hown p (p3 p hp)).2; omega⟩) (by omega)
    have happ := Qco (o := c) (w := w') (st := ⟨h1, c + 1, 0⟩) m1 m2
    rw [e1] at happ
    have hu' := Qlj hxn hBlen hb
    have mono : ∀ y, B.getD y false = true -> (B.set x true).getD y false = true := fun y hy => by
     rw [Q19 (by omega)]; split
     ·rfl
     ·exact hy
    have hxt : (B.set x true).getD x false = true := by rw [Q19 (by omega), if_pos rfl]
    simp [-List.getD_eq_getElem?_getD, C.f71L3, z0, z5, z6, z12, z13, z14, z15, hlen, hpos, hcast, wrap64 (n := (L'.length : Int)) (by omega) (by omega), t1, t2, p1, ixA, rA, s1, ixF, rF, happ]
    have hne : ∀ p, p < A -> p ≠ c /\ Qh w' ≠ some p := fun p hp => ⟨by omega, fun e => by have := (hown p (p3 p e)).1; omega⟩
    refine ⟨m - 1, by omega, by omega, B.set x true, L' ++ K x, ⟨e2, rfl, fun p hp => ?_, ?_, by simpa using hBlen, by show A < c + 1; omega, e3, fun p hp => ?_⟩, ⟨fun y hy => ?_, fun y hy => ?_, fun y hy z hz => ?_, fun z hz => ?_⟩, by rw [List.length_append]; omega⟩
    ·rw [e5 p (hne p hp).1 (hne p hp).2, F1 p (by omega)]; exact H.fr p hp
    ·show Q0 h' A = _
     rw [e5 A (by omega) fun e => by have := (hown A (p3 A e)).1; omega]; exact a1
    ·show A < p /\ p < c + 1
     rcases e4 p hp with e | e
     ·omega
     ·have := hown p (p3 p e); omega
    ·rw [Q19 (by omega)] at hy
     split at hy
     ·rename_i e; rw [e]; exact hxB
     ·exact I.sound y hy
    ·rcases List.mem_append.1 hy with h | h
     ·exact I.stk y (by simp [h])
     ·exact ⟨hKn x y h, .more hxB h⟩
    ·rw [Q19 (by omega)] at hy
     split at hy
     ·rename_i e; rw [e] at hz; exact .inr (List.mem_append.2 (.inr hz))
     ·rcases I.cl y hy z hz with h | h
      ·exact .inl (mono z h)
      ·rcases List.mem_append.1 h with h | h
       ·exact .inr (List.mem_append.2 (.inl h))
       ·simp only [List.mem_singleton] at h; subst h; exact .inl hxt
    ·rcases I.root z hz with h | h
     ·exact .inl (mono z h)
     ·rcases List.mem_append.1 h with h | h
      ·exact .inr (List.mem_append.2 (.inl h))
      ·simp only [List.mem_singleton] at h; subst h; exact .inl hxt
 ·show 20000 < 1000000; omega
 ·exact ⟨by omega, z0, z5, z6, z12, z13, z14, B0, w0, L0, z15, H0, I0, by omega⟩
end
end Go.Am
end
section
namespace Go.Am
open Go
theorem Qik {g : Q7} {a b : Str} (ha : a ∈ g.names) (hb : b ∈ g.names) (h : g.ix a = g.ix b) : a = b := by
 obtain ⟨q1, q2⟩ := Q2a ha
 obtain ⟨q3, q4⟩ := Q2a hb
 have e' : Q22 a g.names = Q22 b g.names := h
 rw [← q2, ← q4]; simp only [e']
theorem Qae {g : Q7} (r : List Str) {q : Nat} (hq : q < r.length) : (r.map g.ix).getD q 0 = g.ix r[q] := by simp [List.getD, hq]
theorem Qib {g : Q7} (hok : g.Ok) {B : List Bool} (hB : ∀ s, s ∈ g.names -> (B.getD (g.ix s) false = true ↔ Q3x g s)) {r : Q0h} (hr : r ∈ g.rules) {q : Nat} (hq : q < r.right.length) :
  lone g.kinds.length B (r.right.map g.ix) q = true ↔ r.right[q] ∉ g.kinds /\ (∀ z ∈ r.right.take q, Q3x g z) /\ ∀ z ∈ r.right.drop (q + 1), Q3x g z := by
 have hk := Qcu hok (Q7.sym_mem hok hr (List.getElem_mem hq))
 have hall : ∀ l : List Str, (∀ z ∈ l, z ∈ r.right) -> ((∀ y ∈ l.map g.ix, B.getD y false = true) ↔ ∀ z ∈ l, Q3x g z) := fun l hl => by
  constructor
  ·intro h z hz; exact (hB z (Q7.sym_mem hok hr (hl z hz))).1 (h _ (List.mem_map_of_mem hz))
  ·intro h y hy
   obtain ⟨z, hz, rfl⟩ := List.mem_map.1 hy
   exact (hB z (Q7.sym_mem hok hr (hl z hz))).2 (h z hz)
 unfold lone okN
 rw [Qae _ hq, ← List.map_take, ← List.map_drop]
 simp only [Bool.and_eq_true, Bool.not_eq_true', decide_eq_false_iff_not, List.all_eq_true]
 rw [hk, hall _ fun z hz => List.mem_of_mem_take hz, hall _ fun z hz => List.mem_of_mem_drop hz]
theorem Qd3 {g : Q7} (hok : g.Ok) {B : List Bool} (hB : ∀ s, s ∈ g.names -> (B.getD (g.ix s) false = true ↔ Q3x g s)) {K : Nat -> List Nat} (hK : ∀ s x, x ∈ K s ↔ ∃ r ∈ g.rules, g.ix r.left = s /\ ∃ q, q < r.right.length /\ (r.right.map g.ix).getD q 0 = x /\ lone g.kinds.length B (r.right.map g.ix) q = true) {a : Str} (ha : a ∈ g.names) (x : Nat) :
  x ∈ K (g.ix a) ↔ ∃ y, y ∈ g.names /\ g.ix y = x /\ y ∉ g.kinds /\ Q8z g a y := by
 rw [hK]
 constructor
 ·rintro ⟨r, hr, hl, q, hq, hx, hlo⟩
  rw [Qae _ hq] at hx
  obtain ⟨h1, h2, h3⟩ := (Qib hok hB hr hq).1 hlo
  refine ⟨r.right[q], Q7.sym_mem hok hr (List.getElem_mem hq), hx, h1, r, hr, Qik (Q7.left_names hr) ha hl, r.right.take q, r.right.drop (q + 1), ?_, h2, h3⟩
  rw [← List.drop_eq_getElem_cons hq, List.take_append_drop]
 ·rintro ⟨y, hy, rfl, hyk, r, hr, rfl, p, b, he, h1, h2⟩
  have hq : p.length < r.right.length := by rw [he]; simp
  have hrq : r.right[p.length] = y := by simp only [he]; rw [List.getElem_append_right (Nat.le_refl _)]; simp
  refine ⟨r, hr, rfl, p.length, hq, by rw [Qae _ hq, hrq], (Qib hok hB hr hq).2 ⟨by rw [hrq]; exact hyk, fun z hz => h1 z ?_, fun z hz => h2 z ?_⟩⟩
  ·rw [he, List.take_left] at hz; exact hz
  ·rw [he] at hz
   have : (p ++ y :: b).drop (p.length + 1) = b := by rw [List.drop_append]; simp
   rw [this] at hz; exact hz
theorem Qnr {g : Q7} (hok : g.Ok) {B : List Bool} (hB : ∀ s, s ∈ g.names -> (B.getD (g.ix s) false = true ↔ Q3x g s)) {K : Nat -> List Nat} (hK : ∀ s x, x ∈ K s ↔ ∃ r ∈ g.rules, g.ix r.left = s /\ ∃ q, q < r.right.length /\ (r.right.map g.ix).getD q 0 = x /\ lone g.kinds.length B (r.right.map g.ix) q = true) {s : Str} (hs : s ∈ g.lefts) :
  BN K (g.ix s) (g.ix s) ↔ Q1f g s s := by
 have hsn : s ∈ g.names := List.mem_append.2 (.inr hs)
 constructor
 ·intro h
  have key : ∀ x, BN K (g.ix s) x -> ∃ z, z ∈ g.names /\ g.ix z = x /\ Q1f g s z := by
   intro x hx
   induction hx with
   | one h =>
    obtain ⟨y, h1, h2, _, h4⟩ := (Qd3 hok hB hK hsn _).1 h
    exact ⟨y, h1, h2, .one h4⟩
   | more _ k ih =>
    obtain ⟨z, h1, rfl, h3⟩ := ih
    obtain ⟨y, i1, i2, _, i4⟩ := (Qd3 hok hB hK h1 _).1 k
    exact ⟨y, i1, i2, .more h3 i4⟩
  obtain ⟨z, h1, h2, h3⟩ := key _ h
  rw [← Qik h1 hsn h2]
  have := Qik h1 hsn h2
  subst this; exact h3
 ·intro h
  have key : ∀ t, Q1f g s t -> t ∈ g.lefts -> BN K (g.ix s) (g.ix t) := by
   intro t ht
   induction ht with
   | one h => intro hl; exact .one ((Qd3 hok hB hK hsn _).2 ⟨_, List.mem_append.2 (.inr hl), rfl, fun hk => hok.apart _ hk hl, h⟩)
   | more h k ih =>
    intro hl
    have k0 := k
    obtain ⟨r, hr, hrl, _⟩ := k0
    have hx := hrl ▸ Q7.left_mem hr
    exact .more (ih hx) ((Qd3 hok hB hK (List.mem_append.2 (.inr hx)) _).2 ⟨_, List.mem_append.2 (.inr hl), rfl, fun hk => hok.apart _ hk hl, k⟩)
  exact key s h hs
section
variable {g : Q7} {nw : AV}
set_option maxHeartbeats 2000000 in
theorem Qqt {k : Nat} {K : Nat -> List Nat} {R : Nat -> Nat} {ol : List AV} {O m : Nat} (hnl : g.names.length <= 22) (hm : m <= g.names.length) (hKl : ∀ s, (K s).length <= 400) (hKn : ∀ s x, x ∈ K s -> x < g.names.length) (st0 : St) (T0 : TO nw g.names.length R ol K st0) (hO : st0.c <= O)
  (st : St) (hb : HB st) (hlo : st.lo = 0) (hOc : O < st.c) (hfr : ∀ p, p < O -> Q0 st.h p = Q0 st0.h p) (hOf : Q0 st.h O = some (.cells 4 1 (Qv (List.replicate g.names.length false)) false)) (a0 : AV)
  (ts0 : TS) (z0 : ts0.get 0 = a0) (z5 : ts0.get 5 = .int .i64 (g.names.length : Int)) (z6 : ts0.get 6 = .sobj 1 0 g.names.length (some g.names.length)) (z12 : ts0.get 12 = .sobj O 0 g.names.length (some g.names.length)) (z13 : ts0.get 13 = .int .i64 ((m : Nat) : Int)) :
  (Q0l (Qn E (Q6 E (k + 1)) C.f71L2) E.k ts0 st).to fun x => x.1 = .exit 4 /\ x.2.1.get 12 = .sobj O 0 g.names.length (some g.names.length) /\ ∃ B, Q0 x.2.2.h O = some (.cells 4 1 (Qv B) false) /\ B.length = g.names.length /\ ∀ s, m <= s -> s < g.names.length -> (B.getD s false = true ↔ BN K s s) := by
 have hc1 := T0.c1
 refine Qs (fun (s : Nat) ts st => m <= s /\ s <= g.names.length /\ ts.get 0 = a0 /\ ts.get 5 = .int .i64 (g.names.length : Int) /\ ts.get 6 = .sobj 1 0 g.names.length (some g.names.length) /\ ts.get 12 = .sobj O 0 g.names.length (some g.names.length) /\ ts.get 13 = .int .i64 ((s : Nat) : Int) /\ HB st /\ st.lo = 0 /\ O < st.c /\ (∀ p, p < O -> Q0 st.h p = Q0 st0.h p) /\ ∃ B, Q0 st.h O = some (.cells 4 1 (Qv B) false) /\ B.length = g.names.length /\ ∀ q, m <= q -> q < s -> (B.getD q false = true ↔ BN K q q))
  (fun s => g.names.length - s) (fun e ts st => e = .exit 4 /\ ts.get 12 = .sobj O 0 g.names.length (some g.names.length) /\ ∃ B, Q0 st.h O = some (.cells 4 1 (Qv B) false) /\ B.length = g.names.length /\ ∀ s, m <= s -> s < g.names.length -> (B.getD s false = true ↔ BN K s s)) ?_ _ m _ _ ?_ ?_
 ·rintro s ts st ⟨hms, hsn, z0, z5, z6, z12, z13, hb, hlo, hOc, hfr, B, hB, hBl, hBs⟩
  by_cases hlt : s < g.names.length
  ·obtain ⟨h, c, lo⟩ := st
   simp only at hlo
   subst hlo
   have hOc' : O < c := hOc
   have Tc : TO nw g.names.length R ol K ⟨h, c, 0⟩ := T0.later hb rfl (by show st0.c <= c; omega) fun p hp => hfr p (by omega)
   have hmk := Q81 (o := c) (n := g.names.length) (by omega)
   obtain ⟨h1, hh1⟩ : ∃ h1 : Qc, h1 = (c, Qe.cells 4 1 (Qv (List.replicate g.names.length false)) false) :: h := ⟨_, rfl⟩
   have n1 : newObj c (.cells 4 1 (Qv (List.replicate g.names.length false)) false) ⟨h, c + 1, 0⟩ = some ⟨h1, c + 1, 0⟩ := by rw [hh1]; exact Qf hb
   have hb1 : HB ⟨h1, c + 1, 0⟩ := hh1 ▸ HB.cons (h := h) (c := c) (lo := 0) hb (by omega) (by omega)
   have fr1 : ∀ p, p < c -> Q0 h1 p = Q0 h p := fun p hp => by rw [hh1, Qu hp]
   have a1 : Q0 h1 c = some (.cells 4 1 (Qv (List.replicate g.names.length false)) false) := by rw [hh1, Q3, if_pos rfl]
   obtain ⟨ws, k1, k2, k3⟩ := Tc.to s hlt
   have f11 : Q0 h1 1 = some (.cells 22 1 ol false) := (fr1 1 (by omega)).trans Tc.f1
   have ixF := Q1h (st := ⟨h1, c + 1, 0⟩) (n := g.names.length) (cap := some g.names.length) f11 hlt
   have rF : Q5 h1 (.pobj 1 s) = some ws := by rw [Q4 f11]; exact k1
   have Ms : MSl h1 3 1 ws (ints (K s)) := k2.heap fun o ho => fr1 o (k3 o ho).2.1
   have cl := Qrg (k := k) hb1 Ms (by have := hKl s; omega)
   have hstD : ∀ q, (List.replicate g.names.length false).getD q false = false := fun q => by
    simp only [List.getD, List.getElem?_replicate]; split <;> rfl
   simp [-List.getD_eq_getElem?_getD, C.f71L2, z0, z5, z6, z12, z13, hlt, hmk, n1, ixF, rF]
   refine M.to_bind cl fun x hx => ?_
   obtain ⟨wS, st2⟩ := x
   obtain ⟨S2, own2, c2, lo2, hb2, fr2⟩ := hx
   simp only at S2 own2 c2 lo2 hb2 fr2
   have D0 : DS c g.names.length ⟨h, c, 0⟩ (List.replicate g.names.length false) wS (K s) st2 := ⟨hb2, lo2, fun p hp => (fr2 p (by omega)).trans (fr1 p hp), (fr2 c (by omega)).trans a1, by simp, by omega, S2, fun p hp => by have := own2 p hp; omega⟩
   have I0 : DI K g.names.length s (List.replicate g.names.length false) (K s) := ⟨(fun x hx => by rw [hstD] at hx; cases hx), (fun x hx => ⟨hKn s x hx, .one hx⟩), (fun x hx => by rw [hstD] at hx; cases hx), fun y hy => .inr hy⟩
   have loop := Qqs (k := k + 1) hnl hKl hKn ⟨h, c, 0⟩ Tc (Nat.le_refl c) a0 (.int .i64 (g.names.length : Int)) (.sobj O 0 g.names.length (some g.names.length)) (.int .i64 ((s : Nat) : Int)) st2 D0 I0 (hKl s)
   simp [-List.getD_eq_getElem?_getD]
   refine M.to_bind (loop _ (by simp [z0]) (by simp [z5]) (by simp [z6]) (by simp [z12]) (by simp [z13]) (by simp) (by simp)) fun x hx => ?_
   obtain ⟨e, ts1, st3⟩ := x
   obtain ⟨ee, g0, g5, g6, g12, g13, g14, B3, w3, D3, hB3⟩ := hx
   simp only at ee g0 g5 g6 g12 g13 g14 D3
   subst ee
   obtain ⟨h3, c3, lo3⟩ := st3
   have hlo3 : lo3 = 0 := D3.lo
   subst hlo3
   have hac3 : c < c3 := D3.ac
   have hB3l := D3.len
   have hO3 : Q0 h3 O = some (.cells 4 1 (Qv B) false) := (D3.fr O hOc').trans hB
   have ixA := Q1h (st := ⟨h3, c3, 0⟩) (n := g.names.length) (cap := some g.names.length) D3.a hlt
   have ixO := Q1h (st := ⟨h3, c3, 0⟩) (n := g.names.length) (cap := some g.names.length) hO3 hlt
   obtain ⟨b, hbv⟩ : ∃ b, B3.getD s false = b := ⟨_, rfl⟩
   have rA : Q5 h3 (.pobj c s) = some (.bool b) := by rw [Q4 D3.a, bools_get? _ _ (by omega), hbv]
   have s1 := Q07 (st := ⟨h3, c3, 0⟩) (off := s) (v := .bool b) hO3 (Nat.zero_le _) (by simp; omega) rfl rfl
   rw [Q5q] at s1
   simp [-List.getD_eq_getElem?_getD, g0, g5, g6, g12, g13, g14, ixA, rA, ixO, s1, wrap64 (n := (s : Int) + 1) (by omega) (by omega)]
   refine ⟨s + 1, by omega, by omega, by omega, by simp, HB.hset (st := ⟨h3, c3, 0⟩) D3.hb, by omega, fun p hp => ?_, B.set s b, ?_, by simpa using hBl, fun q hmq hq => ?_⟩
   ·rw [Q8 hO3, if_neg (by omega)]
    exact (D3.fr p (by omega)).trans (hfr p hp)
   ·rw [Q8 hO3, if_pos rfl]
   ·rw [Q19 (by omega)]
    by_cases e : q = s
    ·rw [if_pos e, ← hbv, e]; exact hB3 s
    ·rw [if_neg e]; exact hBs q hmq (by omega)
  ·have : s = g.names.length := by omega
   subst this
   simp [-List.getD_eq_getElem?_getD, C.f71L2, z0, z5, z6, z12, z13]
   exact ⟨B, hB, hBl, hBs⟩
 ·show g.names.length - m < 1000000; omega
 ·exact ⟨Nat.le_refl _, hm, z0, z5, z6, z12, z13, hb, hlo, hOc, hfr, _, hOf, by simp, fun q h1 h2 => by omega⟩
end
set_option maxHeartbeats 1000000 in
theorem Qhg {k : Nat} {cv nw : AV} {g : Q7} {B : List Bool} {st : St} (hC : Q2g cv g) (hs : g.Small) (hok : g.Ok) (hB : Qr nw 1 (Qv B)) (hBn : B.length = g.names.length) (hnull : ∀ s, s ∈ g.names -> (B.getD (g.ix s) false = true ↔ Q3x g s)) :
  ∃ w B', Q6 E (k + 5) 71 [cv, nw] st = .ret (w, st) /\ Qr w 1 (Qv B') /\ B'.length = g.names.length /\ ∀ s, s ∈ g.lefts -> (B'.getD (g.ix s) false = true ↔ Q1f g s s) := by
 have hold := hC.oldB 0
 have hold2 := hB.oldBl 0
 have hnl := Q7.names_length hs
 obtain ⟨nv, rv, ov, lr, lo', e0, h1, h3, h4, h5, _⟩ := hC.out
 rw [Q0b (fn := C.f71) rfl rfl rfl (by simp [AV.olds, hold, hold2]), Qg (by simp)]
 have hln : ∀ S' : St, Qw .slice nv S' = some (.int .i64 (g.names.length : Int), S') := fun S' => by have := h1.len (st := S'); simpa using this
 have hlr : ∀ S' : St, Qw .slice rv S' = some (.int .i64 (g.rules.length : Int), S') := fun S' => by have := h3.len (st := S'); rw [this, h4]
 have hkn : g.kinds.length <= g.names.length := by unfold Q7.names; rw [List.length_append]; omega
 have hnone : nw.isTuple = false /\ nw.cells = [nw] := by rcases hB.out with ⟨rfl, _⟩ | ⟨t, rfl⟩ <;> exact ⟨rfl, rfl⟩
 have hbx : Q0z 0 79 1 nw = some (.pobj 0 0, .cells 79 1 [nw] false) := by simp [Q0z, hnone.1, hnone.2]
 obtain ⟨ha, hha⟩ : ∃ h : Qc, h = [(0, Qe.cells 79 1 [nw] false)] := ⟨_, rfl⟩
 have n1 : newObj 0 (.cells 79 1 [nw] false) ⟨[], 1, 0⟩ = some ⟨ha, 1, 0⟩ := by rw [hha]; rfl
 have hb1 : HB ⟨ha, 1, 0⟩ := by
  subst hha
  intro p x hp
  rcases List.mem_cons.1 hp with e | e
  ·cases e; exact Nat.zero_lt_one
  ·cases e
 have hroom : g.names.length * 24 <= room /\ g.names.length <= room := by unfold room; constructor <;> omega
 have hmk : Q2n 1 22 1 24 [.snil] (.int .i64 (g.names.length : Int)) (.int .i64 (g.names.length : Int)) = some (.sobj 1 0 g.names.length (some g.names.length), .cells 22 1 (List.replicate g.names.length .snil) false) := by
  simp [Q2n, Q0a, Qi, Qm, beq_eq, hroom.1, hroom.2, Q7n]
 obtain ⟨hc, hhc⟩ : ∃ h : Qc, h = (1, Qe.cells 22 1 (List.replicate g.names.length .snil) false) :: ha := ⟨_, rfl⟩
 have n2 : newObj 1 (.cells 22 1 (List.replicate g.names.length .snil) false) ⟨ha, 2, 0⟩ = some ⟨hc, 2, 0⟩ := by rw [hhc]; exact Qf hb1
 have hb2 : HB ⟨hc, 2, 0⟩ := hhc ▸ HB.cons (h := ha) (c := 1) (lo := 0) hb1 (by omega) (by omega)
 have T0 : TO nw g.names.length (fun _ => 0) (List.replicate g.names.length .snil) (fun _ => []) ⟨hc, 2, 0⟩ := ⟨hb2, rfl, by show 1 < 2; omega, by show Q0 hc 0 = _; rw [hhc, Qu (by omega), hha]; rfl, by show Q0 hc 1 = _; rw [hhc, Q3, if_pos rfl], by simp, fun s hs => ⟨.snil, by simp [hs], .nl, fun p hp => by cases hp⟩⟩
 have goal : ((Qn E (Q6 E (k + 4)) C.f71.body (TS.ofArgs [cv, nw] 0 .nil) ⟨[], 0, 0⟩).bind (Qb C.f71.results)).to fun x => ∃ O, x.1 = .sobj O 0 g.names.length (some g.names.length) /\ ∃ B', Q0 x.2.h O = some (.cells 4 1 (Qv B') false) /\ B'.length = g.names.length /\ ∀ s, s ∈ g.lefts -> (B'.getD (g.ix s) false = true ↔ Q1f g s s) := by
  have e0' := e0
  simp [-List.getD_eq_getElem?_getD, C.f71, hbx, n1, e0', hln, hmk, n2, hlr]
  refine M.to_bind (Qqv (k := k) hC hs hok hB hBn rv lr h3 h4 h5 _ T0 (.int .i64 (g.names.length : Int)) _ (by simp [e0']) (by simp) (by simp) (by simp) (by simp) (by simp) (by simp)) fun x hx => ?_
  obtain ⟨e, ts1, st1⟩ := x
  obtain ⟨ee, g0, g5, g6, R, ol, K, T, hKl, hK⟩ := hx
  simp only at ee g0 g5 g6 T
  subst ee
  rw [e0] at g0
  obtain ⟨h, c, lo⟩ := st1
  have hlo : lo = 0 := T.lo
  subst hlo
  have hmkO := Q81 (o := c) (n := g.names.length) (by omega)
  obtain ⟨h6, hh6⟩ : ∃ h6 : Qc, h6 = (c, Qe.cells 4 1 (Qv (List.replicate g.names.length false)) false) :: h := ⟨_, rfl⟩
  have nO : newObj c (.cells 4 1 (Qv (List.replicate g.names.length false)) false) ⟨h, c + 1, 0⟩ = some ⟨h6, c + 1, 0⟩ := by rw [hh6]; exact Qf T.hb
  have hb6 : HB ⟨h6, c + 1, 0⟩ := hh6 ▸ HB.cons (h := h) (c := c) (lo := 0) T.hb (by omega) (by omega)
  have hKn : ∀ s x, x ∈ K s -> x < g.names.length := fun s x hx => by
   obtain ⟨r, hr, _, q, hq, hxe, _⟩ := (hK s x).1 hx
   rw [Qae _ hq] at hxe
   rw [← hxe]; exact ixN (Q7.sym_mem hok hr (List.getElem_mem hq))
  have loop := Qqt (k := k + 3) (O := c) (m := g.kinds.length) hnl hkn hKl hKn ⟨h, c, 0⟩ T (Nat.le_refl c) ⟨h6, c + 1, 0⟩ hb6 rfl (Nat.lt_succ_self c) (fun p hp => by show Q0 h6 p = _; rw [hh6, Qu hp]) (by show Q0 h6 c = _; rw [hh6, Q3, if_pos rfl])
  simp [-List.getD_eq_getElem?_getD, g0, g5, g6, hmkO, nO]
  refine M.to_bind (loop _ _ (by simp [g0]; rfl) (by simp [g5]) (by simp [g6]) (by simp) (by simp)) fun x hx => ?_
  obtain ⟨e, ts2, st2⟩ := x
  obtain ⟨ee, g12, B', f1, f2, f3⟩ := hx
  simp only at ee g12 f1
  subst ee
  simp [-List.getD_eq_getElem?_getD, g12, Qb, results, Q9]
  refine ⟨B', f1, f2, fun s hs' => ?_⟩
  have hsn : s ∈ g.names := List.mem_append.2 (.inr hs')
  have hge : g.kinds.length <= g.ix s := by
   have h1 := Qcu hok hsn
   have h2 : s ∉ g.kinds := fun hk => hok.apart s hk hs'
   rcases Nat.lt_or_ge (g.ix s) g.kinds.length with h | h
   ·exact absurd (h1.1 h) h2
   ·exact h
  rw [f3 _ hge (ixN hsn)]
  exact Qnr hok hnull hK hs'
 obtain ⟨⟨v, st1⟩, r1, O, r2, B', r3, r4, r5⟩ := goal
 simp only at r2 r3
 subst r2
 refine ⟨.list true 1 (Qv B'), B', ?_, ⟨.inr ⟨_, rfl⟩⟩, r4, r5⟩
 rw [r1]
 simp [Qt, Q0c, Q7k r3 r4]
theorem Qor {k : Nat} {v : AV} {g : Q7} (hg : Q02 v g) (hs : g.Small) (q : Str -> Bool) (hq : ∀ s, q s = true ↔ Q1f g s s) : Q6n (k + 8) 16 v g (g.lefts.filter q) := by
 intro st
 have hold := hg.oldB 0
 have hg' := hg
 obtain ⟨kv, rv0, l, rfl, hk, hr', hrs⟩ := hg'
 rw [Q0b (fn := C.f16) rfl rfl rfl (by simp [AV.olds, hold]), Qg (by simp)]
 have hbx : Q0z 0 29 3 (.agg [kv, .str g.start, rv0]) = some (.pobj 0 0, .cells 29 3 [kv, .str g.start, rv0] false) := rfl
 have n1 := Q3a (c' := 1) (lo := 0) (ty := 29) (n := 3) (cs := [kv, .str g.start, rv0]) HB.nil
 obtain ⟨h1, hh1⟩ : ∃ h1 : Qc, h1 = [(0, Qe.cells 29 3 [kv, .str g.start, rv0] false)] := ⟨_, rfl⟩
 rw [← hh1] at n1
 have X1 : Q0r ⟨[], 0, 0⟩ ⟨h1, 1, 0⟩ := by rw [hh1]; exact (Q0r.refl HB.nil).cons (lo := 0) (by omega)
 have fg : Q0 h1 0 = some (.cells 29 3 [kv, .str g.start, rv0] false) := by rw [hh1, Q3, if_pos rfl]
 have rg : Ql h1 (.pobj 0 0) 3 = some [kv, .str g.start, rv0] := Qq fg rfl
 have hck := Q8v (k := k + 1) (st := ⟨h1, 1, 0⟩) hg hs
 refine ⟨fun hne => ?_, fun hz => ?_⟩
 ·have hb : (g.fault != 0) = true := by simpa using hne
  have hth : thaw 0 h1 64 (.tuple [.snil, .int .i64 g.fault]) = some (.tuple [.snil, .int .i64 g.fault]) := Q13 (n := 63) rfl
  simp [C.f16, hbx, n1, rg, hck, hb, hne, Qb, results, Q9, Qt, Q0c, hth]
 ·have hok := Q7.ok hz
  rw [hz] at hck
  obtain ⟨cv, e1, hC⟩ := Qln (k := k) (st := ⟨h1, 1, 0⟩) hg hs hok
  obtain ⟨w0, B0, c1, c2, c3, c4⟩ := Q85 (k := k) (st := ⟨h1, 2, 0⟩) hC hs hok
  obtain ⟨w1, B, e2, e3, e4, e5⟩ := Qhg (k := k + 2) (st := ⟨h1, 2, 0⟩) hC hs hok c2 c3 c4
  have n2 : newObj 1 (.cells 79 1 [.snil] false) ⟨h1, 2, 0⟩ = some ⟨(1, .cells 79 1 [.snil] false) :: h1, 2, 0⟩ := Qf X1.hb
  obtain ⟨h2, hh2⟩ : ∃ h2 : Qc, h2 = (1, Qe.cells 79 1 [w1] false) :: h1 := ⟨_, rfl⟩
  have hone : w1.isTuple = false /\ w1.cells = [w1] := by rcases e3.out with ⟨rfl, _⟩ | ⟨t, rfl⟩ <;> exact ⟨rfl, rfl⟩
  have s2 : Q0n 1 (.pobj 1 0) w1 ⟨(1, .cells 79 1 [.snil] false) :: h1, 2, 0⟩ = some (.undef, ⟨h2, 2, 0⟩) := by
   rw [Q07 (cs := [.snil]) (ty := 79) (sz := 1) (ext := false) (by rw [Q3, if_pos rfl]) (by show 0 <= 1; omega) (by simp) hone.1 hone.2, hh2]
   simp [hset]
  have hb2 : HB ⟨h2, 2, 0⟩ := by rw [hh2]; exact HB.cons (h := h1) (c := 1) (lo := 0) X1.hb (by omega) (by omega)
  have f3 : Q0 h2 1 = some (.cells 79 1 [w1] false) := by rw [hh2, Q3, if_pos rfl]
  have hP := Qht (fn := C.f72) (f := 72) (k := k + 5) (q := 1) (st0 := ⟨h2, 2, 0⟩) rfl rfl rfl rfl rfl e3 e4 (by show 1 < 2; omega) f3
  obtain ⟨w, e6, e7⟩ := Qf8 (k := k + 6) (st := ⟨h2, 2, 0⟩) hC hs hok hb2 (by show 0 <= 2; omega) hP
  have hth : thaw 0 h2 64 (.tuple [w, .int .i64 0]) = some (.tuple [w, .int .i64 0]) := Q13 (n := 63) (by
   have := e7.oldB 0
   simp [AV.old, AV.olds, this])
  have e : g.lefts.filter (fun s => (fun x => B.getD x false) (g.ix s)) = g.lefts.filter q := List.filter_congr fun s hs' => by
   show B.getD (g.ix s) false = q s
   rw [Bool.eq_iff_iff, hq, e5 s hs']
  refine ⟨w, ?_, by rw [← e]; exact e7⟩
  simp [C.f16, hbx, n1, rg, hck, e1, c1, e2, n2, s2, e6, Qb, results, Q9, Qt, Q0c, hth]
end Go.Am
end
