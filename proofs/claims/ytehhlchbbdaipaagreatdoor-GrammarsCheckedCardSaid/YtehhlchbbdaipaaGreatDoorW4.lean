/- A part of the proof of GrammarsChecked (merged by a program). -/
import Derived.Test.YtehhlchbbdaipaaGreatDoorW7
section
namespace Go.Am
open Go
theorem Qip {k n fc : Nat} {w : AV} {a b : List AV} {el : Nat -> Int} {p : Nat -> Bool} {st : St} (hlen : Q0k w = some n) (hn : n < 1000000)
  (hat : ∀ i, i < n -> ∃ q, Qj 1 w (.int .i64 (i : Int)) st = some (q, st) /\ Q5 st.h q = some (.int .i64 (el i)))
  (hcall : ∀ i, i < n -> Q6 E k fc (a ++ ([.int .i64 (el i)] ++ b)) st = .ret (.bool (p i), st)) :
  ∃ r : Int, Q6 E (k + 1) 189 [w, .fn (.func fc) a b] st = .ret (.int .i64 r, st) /\ -1 <= r /\ (0 <= r ↔ ∃ i, i < n /\ p i = true) := by
 have main : (Q12 E (Q6 E k) C.f189 [w, .fn (.func fc) a b] st).to fun x => ∃ r : Int, x = (.int .i64 r, st) /\ -1 <= r /\ (0 <= r ↔ ∃ i, i < n /\ p i = true) := by
  rw [Qg (by simp)]
  simp [C.f189, Qw, hlen]
  refine M.to_bind (Qs (fun (i : Nat) ts st' => st' = st /\ i <= n /\ ts.get 0 = w /\ ts.get 1 = .fn (.func fc) a b /\ ts.get 7 = .int .i64 (n : Int) /\ ts.get 8 = .int .i64 (i : Int) /\ ∀ j, j < i -> p j = false)
   (fun i => n - i) (fun e ts st' => st' = st /\ ((e = .exit 0 /\ ∀ j, j < n -> p j = false) ∨ (e = .ret /\ ∃ i : Nat, i < n /\ p i = true /\ ts.get 4 = .int .i64 (i : Int)))) ?step _ 0 _ _ ?_ ?_) ?_
  case step =>
   rintro i ts st' ⟨rfl, hi, h0, h1, h7, h8, hj⟩
   by_cases hlt : i < n
   ·obtain ⟨q, a1, b1⟩ := hat i hlt
    have hc := hcall i hlt
    simp only [List.singleton_append] at hc
    cases hp : p i with
    | true =>
     rw [hp] at hc
     simp [C.f189L0, h0, h1, h7, h8, hlt, a1, b1, hc]
     exact ⟨i, hlt, hp, rfl⟩
    | false =>
     rw [hp] at hc
     simp [C.f189L0, h0, h1, h7, h8, hlt, a1, b1, hc, wrap64 (n := (i : Int) + 1) (by omega) (by omega)]
     refine ⟨i + 1, by omega, by omega, by simp, fun j hji => ?_⟩
     by_cases e : j = i
     ·subst e; exact hp
     ·exact hj j (by omega)
   ·have : i = n := by omega
    subst this
    simp [C.f189L0, h0, h1, h7, h8]
    exact hj
  ·show n - 0 < 1000000; omega
  ·simp
  ·rintro ⟨e, ts, st'⟩ ⟨rfl, h⟩
   rcases h with ⟨rfl, h⟩ | ⟨rfl, i, hi, hp, h4⟩
   ·simp [Qb, results, Q9]
    intro i hi; simp [h i hi]
   ·simp [h4, Qb, results, Q9]
    exact ⟨i, hi, hp⟩
 rw [Qp (fn := C.f189) rfl rfl rfl]
 obtain ⟨x, h1, r, rfl, h2⟩ := main
 exact ⟨r, h1, h2⟩
theorem Q8u {k n fc : Nat} {w : AV} {a b : List AV} {el : Nat -> Int} {p : Nat -> Bool} {st : St} (hlen : Q0k w = some n) (hn : n < 1000000)
  (hat : ∀ i, i < n -> ∃ q, Qj 1 w (.int .i64 (i : Int)) st = some (q, st) /\ Q5 st.h q = some (.int .i64 (el i)))
  (hcall : ∀ i, i < n -> Q6 E k fc (a ++ ([.int .i64 (el i)] ++ b)) st = .ret (.bool (p i), st)) :
  Q6 E (k + 2) 135 [w, .fn (.func fc) a b] st = .ret (.bool (decide (∃ i, i < n /\ p i = true)), st) := by
 obtain ⟨r, h1, h2, h3⟩ := Qip hlen hn hat hcall
 rw [Qp (fn := C.f135) rfl rfl rfl, Qg (by simp)]
 have : decide (0 <= r) = decide (∃ i, i < n /\ p i = true) := by simp only [h3]
 simp [C.f135, h1, Qb, results, Q9]
 simpa using this
def Qv (l : List Bool) : List AV := l.map .bool
@[simp] theorem Qjd (l : List Bool) : (Qv l).length = l.length := by simp [Qv]
theorem bools_get? (B : List Bool) (j : Nat) (h : j < B.length) : (Qv B)[j]? = some (.bool (B.getD j false)) := by simp [Qv, List.getD, h]
theorem Q5q (B : List Bool) (j : Nat) (b : Bool) : (Qv B).set j (.bool b) = Qv (B.set j b) := by simp [Qv, List.map_set]
theorem Q19 {B : List Bool} {i : Nat} {a : Bool} (h : i < B.length) (p : Nat) : (B.set i a).getD p false = if p = i then a else B.getD p false := by
 simp only [List.getD, List.getElem?_set]
 by_cases e : p = i
 ·subst e; simp [h]
 ·rw [if_neg (Ne.symm e), if_neg e]
theorem Qr.idxI {v : AV} {l : List Nat} {st : St} (h : Qr v 1 (ints l)) {i : Nat} (hi : i < l.length) : Qj 1 v (.int .i64 i) st = some (.pval [.int .i64 (l[i] : Nat)], st) := by
 rw [h.idx (by simpa using hi)]; simp [ints, AV.cells]
theorem Qw9 {k A ib n : Nat} {B : List Bool} {x : Nat} {st : St} (hA : Q0 st.h A = some (.cells 4 1 (Qv B) false)) (hn : B.length = n) (hib : Q0 st.h ib = some (.cells 79 1 [.sobj A 0 n (some n)] false)) (hx : x < n) :
  Q6 E (k + 1) 187 [.int .i64 (x : Int), .pobj ib 0] st = .ret (.bool (!B.getD x false), st) := by
 rw [Q0e (fn := C.f187) rfl rfl rfl, Qg (by simp)]
 have r : Q5 st.h (.pobj ib 0) = some (.sobj A 0 n (some n)) := by rw [Q4 hib]; rfl
 have rA : Q5 st.h (.pobj A x) = some (.bool (B.getD x false)) := by rw [Q4 hA, bools_get? _ _ (by omega)]
 have ix := Q1h (st := ⟨st.h, st.c, st.c⟩) (n := n) (cap := some n) hA hx
 generalize B.getD x false = b at rA
 simp [C.f187, r, ix, rA, Qb, results, Q9]
theorem Quq {k A ib n : Nat} {B : List Bool} {w : AV} {l : List Nat} {st : St} (hw : Qr w 1 (ints l)) (hl : l.length <= 1000) (hln : ∀ x ∈ l, x < n) (hA : Q0 st.h A = some (.cells 4 1 (Qv B) false)) (hn : B.length = n) (hib : Q0 st.h ib = some (.cells 79 1 [.sobj A 0 n (some n)] false)) :
  Q6 E (k + 3) 135 [w, .fn (.func 187) [] [.pobj ib 0]] st = .ret (.bool (!l.all fun x => B.getD x false), st) := by
 have hc := Q8u (k := k + 1) (n := l.length) (fc := 187) (w := w) (a := []) (b := [.pobj ib 0]) (el := fun j => (l.getD j 0 : Nat)) (p := fun j => !B.getD (l.getD j 0) false) (st := st)
  (by rw [hw.lenS]; simp) (by omega) (fun i hi => ⟨_, hw.idxI hi, by simp [List.getD, hi]⟩) (fun i hi => Qw9 hA hn hib (by
   have : l.getD i 0 = l[i] := by simp [List.getD, hi]
   rw [this]; exact hln _ (List.getElem_mem hi)))
 have e : decide (∃ i, i < l.length /\ (!B.getD (l.getD i 0) false) = true) = !l.all fun x => B.getD x false := by
  rw [Bool.eq_iff_iff]
  simp only [decide_eq_true_eq, Bool.not_eq_true', List.all_eq_false]
  constructor
  ·rintro ⟨i, hi, h⟩
   have e : l.getD i 0 = l[i] := by simp [List.getD, hi]
   rw [e] at h
   exact ⟨l[i], List.getElem_mem hi, by rw [h]; simp⟩
  ·rintro ⟨s, hs, h⟩
   obtain ⟨i, hi, rfl⟩ := List.getElem_of_mem hs
   have e : l.getD i 0 = l[i] := by simp [List.getD, hi]
   exact ⟨i, hi, by rw [e]; simpa using h⟩
 rw [e] at hc
 exact hc
def okB (g : Q7) (B : List Bool) (r : Q0h) : Bool := (r.right.map g.ix).all fun x => B.getD x false
def Q5g (g : Q7) (B : List Bool) : Nat := g.rules.countP fun r => !B.getD (g.ix r.left) false
theorem Qsx {g : Q7} {B B' : List Bool} (h : ∀ x, B.getD x false = true -> B'.getD x false = true) {r : Q0h} (hr : r ∈ g.rules) (h1 : B.getD (g.ix r.left) false = false) (h2 : B'.getD (g.ix r.left) false = true) : Q5g g B' < Q5g g B :=
 Qck (fun x _ hx => by
  cases hb : B.getD (g.ix x.left) false with
  | true => rw [h _ hb] at hx; cases hx
  | false => rfl) hr (by rw [h2]; rfl) (by rw [h1]; rfl)
theorem ixN {g : Q7} {s : Str} (h : s ∈ g.names) : g.ix s < g.names.length := (Q2a h).1
theorem Qog {g : Q7} (hok : g.Ok) {B : List Bool} {base : Str -> Prop} (hB : ∀ s, s ∈ g.names -> B.getD (g.ix s) false = true -> Gen base g s) {r : Q0h} (hr : r ∈ g.rules) (h : okB g B r = true) : Gen base g r.left := by
 refine .rule hr fun x hx => ?_
 unfold okB at h
 rw [List.all_eq_true] at h
 exact hB x (Q7.sym_mem hok hr hx) (h _ (List.mem_map_of_mem hx))
theorem Qmo {g : Q7} (hok : g.Ok) {B : List Bool} {base : Str -> Prop} (hb : ∀ s, base s -> B.getD (g.ix s) false = true) (hc : ∀ r ∈ g.rules, okB g B r = true -> B.getD (g.ix r.left) false = true) {s : Str} (h : Gen base g s) : B.getD (g.ix s) false = true := by
 induction h with
 | base h => exact hb _ h
 | rule hr _ ih =>
  refine hc _ hr ?_
  unfold okB
  rw [List.all_eq_true]
  intro x hx
  obtain ⟨y, hy, rfl⟩ := List.mem_map.1 hx
  exact ih y hy
structure EV (cv : AV) (A ib gb n : Nat) (B : List Bool) (st : St) : Prop where
 hb : HB st
 lo : st.lo <= A
 a : Q0 st.h A = some (.cells 4 1 (Qv B) false)
 len : B.length = n
 i : Q0 st.h ib = some (.cells 79 1 [.sobj A 0 n (some n)] false)
 g : Q0 st.h gb = some (.cells 77 1 [cv] false)
 ids : A < st.c /\ ib < st.c /\ gb < st.c /\ A ≠ ib /\ A ≠ gb /\ st.lo <= st.c
section
variable {cv : AV} {g : Q7} {A ib gb : Nat} {base : Str -> Prop}
set_option maxHeartbeats 2000000 in
theorem Qkz {k : Nat} (hC : Q2g cv g) (hs : g.Small) (hok : g.Ok) (rv : AV) (lr : List AV) (h2 : Qr rv 3 lr) (h3 : lr.length = g.rules.length) (h4 : ∀ j (hj : j < g.rules.length), ∃ w, lr[j]? = some (.agg [.int .i64 (g.ix g.rules[j].left : Nat), w, .int .i64 g.rules[j].level]) /\ Qr w 1 (ints (g.rules[j].right.map g.ix)))
  (B0 : List Bool) (st : St) (H : EV cv A ib gb g.names.length B0 st) (hB0 : ∀ s, s ∈ g.names -> B0.getD (g.ix s) false = true -> Gen base g s)
  (ts0 : TS) (z0 : ts0.get 0 = .pobj gb 0) (z1 : ts0.get 1 = .pobj ib 0) (z3 : ts0.get 3 = .bool false) (z9 : ts0.get 9 = rv) (z10 : ts0.get 10 = .int .i64 (g.rules.length : Int)) (z11 : ts0.get 11 = .int .i64 ((0 : Nat) : Int)) :
  (Q0l (Qn E (Q6 E (k + 3)) C.f186L0) E.k ts0 st).to fun x => x.1 = .exit 0 /\ ∃ B more, x.2.1.get 3 = .bool more /\ EV cv A ib gb g.names.length B x.2.2 /\ (∀ s, s ∈ g.names -> B.getD (g.ix s) false = true -> Gen base g s) /\ (∀ x, B0.getD x false = true -> B.getD x false = true) /\
   ((more = true /\ Q5g g B < Q5g g B0) ∨ (more = false /\ ∀ r ∈ g.rules, okB g B r = true -> B.getD (g.ix r.left) false = true)) := by
 have hmany := hs.many
 refine Qs (fun (i : Nat) ts st => i <= g.rules.length /\ ts.get 0 = .pobj gb 0 /\ ts.get 1 = .pobj ib 0 /\ ts.get 9 = rv /\ ts.get 10 = .int .i64 (g.rules.length : Int) /\ ts.get 11 = .int .i64 (i : Int) /\ ∃ B more, ts.get 3 = .bool more /\ EV cv A ib gb g.names.length B st /\ (∀ s, s ∈ g.names -> B.getD (g.ix s) false = true -> Gen base g s) /\ (∀ x, B0.getD x false = true -> B.getD x false = true) /\
   ((more = true /\ Q5g g B < Q5g g B0) ∨ (more = false /\ B = B0 /\ ∀ j (hj : j < g.rules.length), j < i -> okB g B g.rules[j] = true -> B.getD (g.ix g.rules[j].left) false = true)))
  (fun i => g.rules.length - i) (fun e ts st => e = .exit 0 /\ ∃ B more, ts.get 3 = .bool more /\ EV cv A ib gb g.names.length B st /\ (∀ s, s ∈ g.names -> B.getD (g.ix s) false = true -> Gen base g s) /\ (∀ x, B0.getD x false = true -> B.getD x false = true) /\
   ((more = true /\ Q5g g B < Q5g g B0) ∨ (more = false /\ ∀ r ∈ g.rules, okB g B r = true -> B.getD (g.ix r.left) false = true))) ?_ _ 0 _ _ ?_ ?_
 ·rintro i ts st ⟨hi, z0, z1, z9, z10, z11, B, more, z3, H, hB, hBB, hM⟩
  by_cases hlt : i < g.rules.length
  ·have hil : i < lr.length := by omega
   obtain ⟨w, e1, e2⟩ := h4 i hlt
   rw [List.getElem?_eq_getElem hil, Option.some.injEq] at e1
   have hmem := List.getElem_mem hlt
   have hsr := (hs.rules _ hmem).right
   obtain ⟨h, c, lo⟩ := st
   have hb' : ∀ p x, (p, x) ∈ h -> p < c := H.hb
   obtain ⟨i1, i2, i3, i4, i5, i6⟩ := H.ids
   have i1' : A < c := i1
   have i2' : ib < c := i2
   have i3' : gb < c := i3
   have i6' : lo <= c := i6
   obtain ⟨sI, hsI⟩ : ∃ s, s = g.ix g.rules[i].left := ⟨_, rfl⟩
   have hsn : sI < g.names.length := hsI ▸ ixN (Q7.left_names hmem)
   rw [← hsI] at e1
   obtain ⟨rc, hrc⟩ : ∃ rc : List AV, rc = [.int .i64 (sI : Int), w, .int .i64 g.rules[i].level] := ⟨_, rfl⟩
   obtain ⟨h', hh'⟩ : ∃ h' : Qc, h' = (c, Qe.cells 160 3 rc false) :: h := ⟨_, rfl⟩
   have hbS : HB ⟨h', c + 1, lo⟩ := hh' ▸ HB.cons (h := h) (c := c) (lo := lo) H.hb (by omega) (by omega)
   have fr : ∀ p, p < c -> Q0 h' p = Q0 h p := fun p hp => by rw [hh', Qu hp]
   have H' : EV cv A ib gb g.names.length B ⟨h', c + 1, lo⟩ := ⟨hbS, H.lo, (fr A i1').trans H.a, H.len, (fr ib i2').trans H.i, (fr gb i3').trans H.g, by
    refine ⟨?_, ?_, ?_, i4, i5, ?_⟩
    ·show A < c + 1; omega
    ·show ib < c + 1; omega
    ·show gb < c + 1; omega
    ·show lo <= c + 1; omega⟩
   have hix : Qj 3 rv (.int .i64 (i : Int)) ⟨h, c + 1, lo⟩ = some (.pval lr[i].cells, ⟨h, c + 1, lo⟩) := h2.idx hil
   have hcells : lr[i].cells = rc := by rw [e1, hrc]; rfl
   rw [hcells] at hix
   have hn : newObj c (.cells 160 3 [.int .i64 0, .snil, .int .i64 0] false) ⟨h, c + 1, lo⟩ = some ⟨(c, .cells 160 3 [.int .i64 0, .snil, .int .i64 0] false) :: h, c + 1, lo⟩ := Qf hb'
   have hst := Q1k (h := h) (c := c) (c' := c + 1) (lo := lo) (ty := 160) (n := 3) (zs := [.int .i64 0, .snil, .int .i64 0]) (vs := rc) (by omega) (by rw [hrc]; rfl) rfl
   rw [← hh'] at hst
   have hrd3 : Ql h (.pval rc) 3 = some rc := by rw [hrc]; rfl
   have fc : Q0 h' c = some (.cells 160 3 rc false) := by rw [hh', Q3, if_pos rfl]
   have rc0 : Q5 h' (.pobj c 0) = some (.int .i64 (sI : Int)) := by rw [Q4 fc, hrc]; rfl
   have rc1 : Q5 h' (.pobj c 1) = some w := by rw [Q4 fc, hrc]; rfl
   have ri : Q5 h' (.pobj ib 0) = some (.sobj A 0 g.names.length (some g.names.length)) := by rw [Q4 H'.i]; rfl
   have ixA := Q1h (st := ⟨h', c + 1, lo⟩) (n := g.names.length) (cap := some g.names.length) H'.a hsn
   have hlenB := H'.len
   have rA : Q5 h' (.pobj A sI) = some (.bool (B.getD sI false)) := by rw [Q4 H'.a, bools_get? _ _ (by omega)]
   have hbad := Quq (k := k) (l := g.rules[i].right.map g.ix) (st := ⟨h', c + 1, lo⟩) e2 (by simp; omega) (fun x hx => by
    obtain ⟨y, hy, rfl⟩ := List.mem_map.1 hx
    exact ixN (Q7.sym_mem hok hmem hy)) H'.a H'.len H'.i
   have hbad' : Q6 E (k + 3) 135 [w, .fn (.func 187) [] [.pobj ib 0]] ⟨h', c + 1, lo⟩ = .ret (.bool (!okB g B g.rules[i]), ⟨h', c + 1, lo⟩) := hbad
   have hnext : ∀ B' : List Bool, B' = B -> (∀ j (hj : j < g.rules.length), j < i -> okB g B g.rules[j] = true -> B.getD (g.ix g.rules[j].left) false = true) -> (okB g B g.rules[i] = true -> B.getD (g.ix g.rules[i].left) false = true) -> ∀ j (hj : j < g.rules.length), j < i + 1 -> okB g B g.rules[j] = true -> B.getD (g.ix g.rules[j].left) false = true := fun _ _ hall hthis j hj hji => by
    rcases Nat.lt_or_ge j i with h | h
    ·exact hall j hj h
    ·have : j = i := by omega
     subst this; exact hthis
   cases hin : B.getD sI false with
   | true =>
    rw [hin] at rA
    simp [-Bool.exists_bool, -List.getD_eq_getElem?_getD, C.f186L0, Q05, Qy, z0, z1, z3, z9, z10, z11, hlt, hix, -Q0i, hrd3, hn, hst, ri, rc0, ixA, rA, wrap64 (n := (i : Int) + 1) (by omega) (by omega)]
    refine ⟨i + 1, by omega, by omega, by simp, B, H', hB, hBB, ?_⟩
    rcases hM with ⟨m1, m2⟩ | ⟨m1, m2, m3⟩
    ·exact .inl ⟨m1, m2⟩
    ·exact .inr ⟨m1, m2, hnext B rfl m3 fun _ => by rw [← hsI]; exact hin⟩
   | false =>
    rw [hin] at rA
    cases hok' : okB g B g.rules[i] with
    | false =>
     rw [hok'] at hbad'
     simp [-Bool.exists_bool, -List.getD_eq_getElem?_getD, C.f186L0, Q05, Qy, z0, z1, z3, z9, z10, z11, hlt, hix, -Q0i, hrd3, hn, hst, ri, rc0, rc1, ixA, rA, hbad', wrap64 (n := (i : Int) + 1) (by omega) (by omega)]
     refine ⟨i + 1, by omega, by omega, by simp, B, H', hB, hBB, ?_⟩
     rcases hM with ⟨m1, m2⟩ | ⟨m1, m2, m3⟩
     ·exact .inl ⟨m1, m2⟩
     ·exact .inr ⟨m1, m2, hnext B rfl m3 fun h => by rw [hok'] at h; cases h⟩
    | true =>
     rw [hok'] at hbad'
     have s1 := Q07 (st := ⟨h', c + 1, lo⟩) (off := sI) (v := .bool true) H'.a H'.lo (by simp; omega) rfl rfl
     rw [Q5q] at s1
     simp [-Bool.exists_bool, -List.getD_eq_getElem?_getD, C.f186L0, Q05, Qy, z0, z1, z3, z9, z10, z11, hlt, hix, -Q0i, hrd3, hn, hst, ri, rc0, rc1, ixA, rA, hbad', s1, wrap64 (n := (i : Int) + 1) (by omega) (by omega)]
     have hsB : sI < B.length := by omega
     have hg' : ∀ x, B.getD x false = true -> (B.set sI true).getD x false = true := fun x hx => by
      rw [Q19 hsB]; split
      ·rfl
      ·exact hx
     have F : ∀ p, p ≠ A -> Q0 (hset h' A (.cells 4 1 (Qv (B.set sI true)) false)) p = Q0 h' p := fun p hp => by rw [Q8 H'.a, if_neg (Ne.symm hp)]
     refine ⟨i + 1, by omega, by omega, by simp, B.set sI true, ⟨HB.hset (st := ⟨h', c + 1, lo⟩) hbS, H'.lo, ?_, by simpa using H'.len, (F ib (Ne.symm i4)).trans H'.i, (F gb (Ne.symm i5)).trans H'.g, H'.ids⟩, fun s hs hx => ?_, fun x hx => hg' x (hBB x hx), ?_⟩
     ·show Q0 (hset h' A _) A = _
      rw [Q8 H'.a, if_pos rfl]
     ·rw [Q19 hsB] at hx
      split at hx
      ·rename_i e
       have := Qog hok hB hmem hok'
       have es : s = g.rules[i].left := by
        obtain ⟨q1, q2⟩ := Q2a hs
        obtain ⟨q3, q4⟩ := Q2a (Q7.left_names hmem)
        have e' : Q22 s g.names = Q22 g.rules[i].left g.names := e.trans hsI
        rw [← q2, ← q4]; simp only [e']
       rw [es]; exact this
      ·exact hB s hs hx
     ·have hlt' : Q5g g (B.set sI true) < Q5g g B := Qsx hg' hmem (by rw [← hsI]; exact hin) (by rw [← hsI, Q19 hsB, if_pos rfl])
      rcases hM with ⟨m1, m2⟩ | ⟨m1, m2, m3⟩
      ·omega
      ·rw [← m2]; exact hlt'
  ·have : i = g.rules.length := by omega
   subst this
   simp [-Bool.exists_bool, -List.getD_eq_getElem?_getD, C.f186L0, z0, z1, z3, z9, z10, z11]
   refine ⟨B, H, hB, hBB, ?_⟩
   rcases hM with ⟨m1, m2⟩ | ⟨m1, m2, m3⟩
   ·exact .inl ⟨m1, m2⟩
   ·refine .inr ⟨m1, fun r hr => ?_⟩
    obtain ⟨j, hj, rfl⟩ := List.getElem_of_mem hr
    exact m3 j hj hj
 ·show g.rules.length - 0 < 1000000; omega
 ·exact ⟨by omega, z0, z1, z9, z10, z11, B0, false, z3, H, hB0, fun _ h => h, .inr ⟨rfl, rfl, fun j _ h => by omega⟩⟩
end
end Go.Am
end
section
namespace Go.Am
open Go
section
variable {cv : AV} {g : Q7} {A ib gb : Nat} {base : Str -> Prop}
theorem Qn8 {k : Nat} (hC : Q2g cv g) (hs : g.Small) (hok : g.Ok) (B0 : List Bool) (st : St) (H : EV cv A ib gb g.names.length B0 st) (hB0 : ∀ s, s ∈ g.names -> B0.getD (g.ix s) false = true -> Gen base g s) :
  (Q6 E (k + 4) 186 [.pobj gb 0, .pobj ib 0] st).to fun x => ∃ B more, x.1 = .bool more /\ EV cv A ib gb g.names.length B x.2 /\ (∀ s, s ∈ g.names -> B.getD (g.ix s) false = true -> Gen base g s) /\ (∀ x, B0.getD x false = true -> B.getD x false = true) /\
   ((more = true /\ Q5g g B < Q5g g B0) ∨ (more = false /\ ∀ r ∈ g.rules, okB g B r = true -> B.getD (g.ix r.left) false = true)) := by
 obtain ⟨nv, rv, ov, lr, lo, e0, h1, h2, h3, h4, h5, h6, h7⟩ := hC.out
 rw [Qp (fn := C.f186) rfl rfl rfl, Qg (by simp)]
 have rg : Q5 st.h (.pobj gb 0) = some cv := by rw [Q4 H.g]; rfl
 have hlr : ∀ S' : St, Qw .slice rv S' = some (.int .i64 (g.rules.length : Int), S') := fun S' => by have := h2.len (st := S'); rw [this, h3]
 rw [e0] at rg
 simp [-Bool.exists_bool, -List.getD_eq_getElem?_getD, C.f186, rg, hlr]
 refine M.to_bind (Qkz (k := k) hC hs hok rv lr h2 h3 h4 B0 st H hB0 _ (by simp) (by simp) (by simp) (by simp) (by simp) (by simp)) fun x hx => ?_
 obtain ⟨e, ts1, st1⟩ := x
 obtain ⟨ee, B, more, g3, H', hB, hBB, hM⟩ := hx
 simp only at ee g3 H'
 subst ee
 simp [-Bool.exists_bool, -List.getD_eq_getElem?_getD, g3, Qb, results, Q9]
 exact ⟨B, H', hB, hBB, hM⟩
theorem Ql0 {k : Nat} (hC : Q2g cv g) (hs : g.Small) (hok : g.Ok) (B0 : List Bool) (st : St) (H : EV cv A ib gb g.names.length B0 st) (hB0 : ∀ s, s ∈ g.names -> B0.getD (g.ix s) false = true -> Gen base g s) (hb : ∀ s, base s -> B0.getD (g.ix s) false = true) :
  (Q6 E (k + 5) 156 [.fn (.func 186) [] [.pobj gb 0, .pobj ib 0]] st).to fun x => ∃ B, EV cv A ib gb g.names.length B x.2 /\ (∀ s, s ∈ g.names -> (B.getD (g.ix s) false = true ↔ Gen base g s)) := by
 have hmany := hs.many
 have hcnt : Q5g g B0 <= g.rules.length := List.countP_le_length
 rw [Qp (fn := C.f156) rfl rfl rfl, Qg (by simp)]
 simp [-Bool.exists_bool, -List.getD_eq_getElem?_getD, C.f156]
 refine M.to_bind (Qs (fun (n : Nat) ts st => ts.get 0 = .fn (.func 186) [] [.pobj gb 0, .pobj ib 0] /\ ∃ B, EV cv A ib gb g.names.length B st /\ (∀ s, s ∈ g.names -> B.getD (g.ix s) false = true -> Gen base g s) /\ (∀ x, B0.getD x false = true -> B.getD x false = true) /\ Q5g g B < n)
  (fun n => n) (fun e ts st => e = .exit 0 /\ ∃ B, EV cv A ib gb g.names.length B st /\ (∀ s, s ∈ g.names -> (B.getD (g.ix s) false = true ↔ Gen base g s))) ?step _ (g.rules.length + 1) _ _ ?_ ?_) ?_
 case step =>
  rintro n ts st ⟨z0, B, H, hB, hBB, hlt⟩
  have pass := Qn8 (k := k) hC hs hok B st H hB
  simp [-Bool.exists_bool, -List.getD_eq_getElem?_getD, C.f156L0, z0]
  refine M.to_bind pass fun x hx => ?_
  obtain ⟨v, st1⟩ := x
  obtain ⟨B', more', e1, H', hB', hBB', hM⟩ := hx
  simp only at e1 H'
  subst e1
  rcases hM with ⟨rfl, m2⟩ | ⟨rfl, m2⟩
  ·simp [-Bool.exists_bool, -List.getD_eq_getElem?_getD, z0]
   exact ⟨Q5g g B, hlt, ⟨B', H', hB', fun x hx => hBB' x (hBB x hx), m2⟩⟩
  ·simp [-Bool.exists_bool, -List.getD_eq_getElem?_getD, z0]
   exact ⟨B', H', fun s hs => ⟨hB' s hs, Qmo hok (fun s h => hBB' _ (hBB _ (hb s h))) m2⟩⟩
 ·show g.rules.length + 1 < 1000000; omega
 ·exact ⟨by simp, B0, H, hB0, fun _ h => h, by omega⟩
 ·rintro ⟨e, ts, st1⟩ ⟨e1, B, H', hB⟩
  simp only at e1 H'
  subst e1
  simp [-List.getD_eq_getElem?_getD, Qb, results, Q9]
  exact ⟨B, H', hB⟩
theorem Qf3 {k : Nat} (hC : Q2g cv g) (hs : g.Small) (hok : g.Ok) (B0 : List Bool) (st : St) (hb : HB st) (hlo : st.lo <= A) (hA : A < st.c) (hf : Q0 st.h A = some (.cells 4 1 (Qv B0) false)) (hl : B0.length = g.names.length) (hB0 : ∀ s, s ∈ g.names -> B0.getD (g.ix s) false = true -> base s) (hbase : ∀ s, base s -> B0.getD (g.ix s) false = true) :
  (Q6 E (k + 6) 126 [cv, .sobj A 0 g.names.length (some g.names.length)] st).to fun x => x.1 = .sobj A 0 g.names.length (some g.names.length) /\ ∃ B, Q0 x.2.h A = some (.cells 4 1 (Qv B) false) /\ B.length = g.names.length /\ (∀ s, s ∈ g.names -> (B.getD (g.ix s) false = true ↔ Gen base g s)) := by
 obtain ⟨nv, rv, ov, lr, lo', e0, _⟩ := hC.out
 rw [Qp (fn := C.f126) rfl rfl rfl, Qg (by simp)]
 obtain ⟨h, c, lo⟩ := st
 have hA' : A < c := hA
 have hlo' : lo <= A := hlo
 have hbx : Q0z c 77 1 cv = some (.pobj c 0, .cells 77 1 [cv] false) := by rw [e0]; rfl
 have hbx2 : Q0z (c + 1) 79 1 (.sobj A 0 g.names.length (some g.names.length)) = some (.pobj (c + 1) 0, .cells 79 1 [.sobj A 0 g.names.length (some g.names.length)] false) := rfl
 have n1 : newObj c (.cells 77 1 [cv] false) ⟨h, c + 2, lo⟩ = some ⟨(c, .cells 77 1 [cv] false) :: h, c + 2, lo⟩ := Qf hb
 have hb1 : HB ⟨(c, .cells 77 1 [cv] false) :: h, c + 1, lo⟩ := HB.cons (h := h) (c := c) (lo := lo) hb (by omega) (by omega)
 have n2 : newObj (c + 1) (.cells 79 1 [.sobj A 0 g.names.length (some g.names.length)] false) ⟨(c, .cells 77 1 [cv] false) :: h, c + 2, lo⟩ = some ⟨(c + 1, .cells 79 1 [.sobj A 0 g.names.length (some g.names.length)] false) :: (c, .cells 77 1 [cv] false) :: h, c + 2, lo⟩ := Qf hb1
 obtain ⟨S, hS⟩ : ∃ S : St, S = ⟨(c + 1, .cells 79 1 [.sobj A 0 g.names.length (some g.names.length)] false) :: (c, .cells 77 1 [cv] false) :: h, c + 2, lo⟩ := ⟨_, rfl⟩
 rw [← hS] at n2
 have EV0 : EV cv A (c + 1) c g.names.length B0 S := by
  subst hS
  refine ⟨HB.cons (h := (c, .cells 77 1 [cv] false) :: h) (c := c + 1) (lo := lo) hb1 (by omega) (by omega), hlo', ?_, hl, ?_, ?_, ?_, ?_, ?_, by omega, by omega, ?_⟩
  ·show Q0 (_ :: _ :: h) A = _; rw [Qu (by omega), Qu hA']; exact hf
  ·show Q0 (_ :: _ :: h) (c + 1) = _; rw [Q3, if_pos rfl]
  ·show Q0 (_ :: _ :: h) c = _; rw [Qu (by omega), Q3, if_pos rfl]
  ·show A < c + 2; omega
  ·show c + 1 < c + 2; omega
  ·show c < c + 2; omega
  ·show lo <= c + 2; omega
 have gr := Ql0 (k := k) (base := base) hC hs hok B0 S EV0 (fun s hs h => .base (hB0 s hs h)) hbase
 simp [-List.getD_eq_getElem?_getD, C.f126, hbx, hbx2, n1, n2]
 refine M.to_bind gr fun x hx => ?_
 obtain ⟨v, st1⟩ := x
 obtain ⟨B, H', hB⟩ := hx
 simp only at H'
 have ri : Q5 st1.h (.pobj (c + 1) 0) = some (.sobj A 0 g.names.length (some g.names.length)) := by rw [Q4 H'.i]; rfl
 simp [-List.getD_eq_getElem?_getD, ri, Qb, results, Q9]
 exact ⟨B, H'.a, H'.len, hB⟩
end
theorem Qeq (c : Nat) (l : List Bool) : AV.olds c (Qv l) = true := Q6d fun x hx => by
 simp only [Qv, List.mem_map] at hx
 obtain ⟨n, _, rfl⟩ := hx; rfl
theorem Qr.oldBl {v : AV} {l : List Bool} (h : Qr v 1 (Qv l)) (c : Nat) : v.old c = true := by
 rcases h.out with ⟨rfl, _⟩ | ⟨t, rfl⟩
 ·rfl
 ·exact Qeq c _
theorem Q7k {h : Qc} {A n : Nat} {B : List Bool} (hf : Q0 h A = some (.cells 4 1 (Qv B) false)) (hl : B.length = n) : thaw 0 h 64 (.sobj A 0 n (some n)) = some (.list true 1 (Qv B)) := by
 have ht : thaws (thaw 0 h 63) (((Qv B).drop 0).take (n * 1)) = some (Qv B) := by
  rw [List.drop_zero, Nat.mul_one, List.take_of_length_le (by simp; omega)]; exact Q1u (Qeq 0 _)
 rw [Q3g (Nat.zero_le _) hf (by omega) (by simp; omega) ht]
 have : rows 1 n (Qv B) = Qv B := by
  have := Q5k (Qv B); rwa [Qjd, hl] at this
 simp [this, beq_eq]
theorem Q81 {o n : Nat} (hn : n <= 1000) : Q2n o 4 1 1 [.bool false] (.int .i64 (n : Int)) (.int .i64 (n : Int)) = some (.sobj o 0 n (some n), .cells 4 1 (Qv (List.replicate n false)) false) := by
 have hroom : n * 1 <= room /\ n <= room := by unfold room; constructor <;> omega
 simp [Q2n, Q0a, Qi, Qm, beq_eq, hroom.2, Q7n, Qv]
theorem Q85 {k : Nat} {cv : AV} {g : Q7} {st : St} (hC : Q2g cv g) (hs : g.Small) (hok : g.Ok) :
  ∃ w B, Q6 E (k + 7) 58 [cv] st = .ret (w, st) /\ Qr w 1 (Qv B) /\ B.length = g.names.length /\ ∀ s, s ∈ g.names -> (B.getD (g.ix s) false = true ↔ Q3x g s) := by
 have hold := hC.oldB 0
 have hnl := Q7.names_length hs
 obtain ⟨nv, rv, ov, lr, lo', e0, h1, _⟩ := hC.out
 rw [Q0b (fn := C.f58) rfl rfl rfl (by simp [AV.olds, hold]), Qg (by simp)]
 have hln : ∀ S' : St, Qw .slice nv S' = some (.int .i64 (g.names.length : Int), S') := fun S' => by have := h1.len (st := S'); simpa using this
 have hmk := Q81 (o := 0) (n := g.names.length) (by omega)
 obtain ⟨S, hS⟩ : ∃ S : St, S = ⟨[(0, .cells 4 1 (Qv (List.replicate g.names.length false)) false)], 1, 0⟩ := ⟨_, rfl⟩
 have hn : newObj 0 (.cells 4 1 (Qv (List.replicate g.names.length false)) false) ⟨[], 1, 0⟩ = some S := by rw [hS]; rfl
 have hb : HB S := by
  subst hS
  intro p x hp
  rcases List.mem_cons.1 hp with e | e
  ·cases e; exact Nat.zero_lt_one
  ·cases e
 have hf : Q0 S.h 0 = some (.cells 4 1 (Qv (List.replicate g.names.length false)) false) := by rw [hS]; rfl
 have hrep : ∀ x, (List.replicate g.names.length false).getD x false = false := fun x => by
  simp only [List.getD, List.getElem?_replicate]; split <;> rfl
 have run := Qf3 (k := k) (A := 0) (base := fun _ => False) hC hs hok (List.replicate g.names.length false) S hb (by rw [hS]; exact Nat.le_refl _) (by rw [hS]; exact Nat.zero_lt_one) hf (by simp) (fun s _ h => by rw [hrep] at h; cases h) (fun s h => h.elim)
 obtain ⟨⟨v, st1⟩, r1, r2, B, r3, r4, r5⟩ := run
 simp only at r2 r3
 subst r2
 refine ⟨.list true 1 (Qv B), B, ?_, ⟨.inr ⟨_, rfl⟩⟩, r4, r5⟩
 subst e0
 simp [C.f58, hln, hmk, hn, r1, Qb, results, Q9, Qt, Q0c, Q7k r3 r4]
theorem Qiz {n : Nat} {g : Q7} {m : Nat} (hm : m <= g.names.length) (hn : g.names.length <= 1000) {A : Nat} (st : St) (hb : HB st) (hlo : st.lo <= A) (hf : Q0 st.h A = some (.cells 4 1 (Qv (List.replicate g.names.length false)) false)) (a0 : AV)
  (ts0 : TS) (z0 : ts0.get 0 = a0) (z3 : ts0.get 3 = .sobj A 0 g.names.length (some g.names.length)) (z14 : ts0.get 14 = .int .i64 (m : Int)) (z15 : ts0.get 15 = .int .i64 ((0 : Nat) : Int)) :
  (Q0l (Qn E (Q6 E n) C.f63L0) E.k ts0 st).to fun x => x.1 = .exit 0 /\ x.2.1.get 0 = a0 /\ x.2.1.get 3 = .sobj A 0 g.names.length (some g.names.length) /\ HB x.2.2 /\ x.2.2.lo = st.lo /\ x.2.2.c = st.c /\ ∃ B, Q0 x.2.2.h A = some (.cells 4 1 (Qv B) false) /\ B.length = g.names.length /\ ∀ x, B.getD x false = decide (x < m) := by
 refine Qs (fun (i : Nat) ts st' => i <= m /\ ts.get 0 = a0 /\ ts.get 3 = .sobj A 0 g.names.length (some g.names.length) /\ ts.get 14 = .int .i64 (m : Int) /\ ts.get 15 = .int .i64 (i : Int) /\ HB st' /\ st'.lo = st.lo /\ st'.c = st.c /\ ∃ B, Q0 st'.h A = some (.cells 4 1 (Qv B) false) /\ B.length = g.names.length /\ ∀ x, B.getD x false = decide (x < i))
  (fun i => m - i) (fun e ts st' => e = .exit 0 /\ ts.get 0 = a0 /\ ts.get 3 = .sobj A 0 g.names.length (some g.names.length) /\ HB st' /\ st'.lo = st.lo /\ st'.c = st.c /\ ∃ B, Q0 st'.h A = some (.cells 4 1 (Qv B) false) /\ B.length = g.names.length /\ ∀ x, B.getD x false = decide (x < m)) ?_ _ 0 _ _ ?_ ?_
 ·rintro i ts st' ⟨hi, z0, z3, z14, z15, hb', hl', hc', B, hB, hBl, hBd⟩
  by_cases hlt : i < m
  ·have ix := Q1h (st := st') (n := g.names.length) (cap := some g.names.length) hB (show i < g.names.length by omega)
   have s1 := Q07 (st := st') (off := i) (v := .bool true) hB (by rw [hl']; exact hlo) (by simp; omega) rfl rfl
   rw [Q5q] at s1
   simp [-List.getD_eq_getElem?_getD, C.f63L0, z0, z3, z14, z15, hlt, ix, s1, wrap64 (n := (i : Int) + 1) (by omega) (by omega)]
   refine ⟨i + 1, by omega, by omega, by simp, HB.hset hb', hl', hc', B.set i true, ?_, by simpa using hBl, fun x => ?_⟩
   ·show Q0 (hset st'.h A _) A = _
    rw [Q8 hB, if_pos rfl]
   ·rw [Q19 (by omega), hBd]
    by_cases e : x = i
    ·rw [if_pos e]; symm; rw [decide_eq_true_eq]; omega
    ·rw [if_neg e, decide_eq_decide]; omega
  ·have : i = m := by omega
   subst this
   simp [-List.getD_eq_getElem?_getD, C.f63L0, z0, z3, z14, z15]
   exact ⟨hb', hl', hc', B, hB, hBl, hBd⟩
 ·show m - 0 < 1000000; omega
 ·refine ⟨by omega, z0, z3, z14, z15, hb, rfl, rfl, List.replicate g.names.length false, hf, by simp, fun x => ?_⟩
  rw [show decide (x < 0) = false by simp]
  simp only [List.getD, List.getElem?_replicate]; split <;> rfl
theorem Qcu {g : Q7} (hok : g.Ok) {s : Str} (h : s ∈ g.names) : g.ix s < g.kinds.length ↔ s ∈ g.kinds := by
 obtain ⟨h1, h2⟩ := Q2a h
 constructor
 ·intro hlt
  rw [← h2]
  have : g.names[Q22 s g.names]'h1 = g.kinds[Q22 s g.names]'hlt := List.getElem_append_left hlt
  rw [this]; exact List.getElem_mem _
 ·intro hk
  obtain ⟨i, hi, rfl⟩ := List.getElem_of_mem hk
  have hin : i < g.names.length := by unfold Q7.names; rw [List.length_append]; omega
  have e : g.names[i]'hin = g.kinds[i] := List.getElem_append_left hi
  have := Qaf (Q7.names_nodup hok) hin
  rw [e] at this
  show Q22 g.kinds[i] g.names < _
  rw [this]; exact hi
theorem Qf6 {k : Nat} {cv : AV} {g : Q7} {st : St} (hC : Q2g cv g) (hs : g.Small) (hok : g.Ok) :
  ∃ w B, Q6 E (k + 7) 63 [cv] st = .ret (w, st) /\ Qr w 1 (Qv B) /\ B.length = g.names.length /\ ∀ s, s ∈ g.names -> (B.getD (g.ix s) false = true ↔ Qb4 g s) := by
 have hold := hC.oldB 0
 have hnl := Q7.names_length hs
 obtain ⟨nv, rv, ov, lr, lo', e0, h1, _⟩ := hC.out
 rw [Q0b (fn := C.f63) rfl rfl rfl (by simp [AV.olds, hold]), Qg (by simp)]
 have hln : ∀ S' : St, Qw .slice nv S' = some (.int .i64 (g.names.length : Int), S') := fun S' => by have := h1.len (st := S'); simpa using this
 have hmk := Q81 (o := 0) (n := g.names.length) (by omega)
 obtain ⟨S, hS⟩ : ∃ S : St, S = ⟨[(0, .cells 4 1 (Qv (List.replicate g.names.length false)) false)], 1, 0⟩ := ⟨_, rfl⟩
 have hn : newObj 0 (.cells 4 1 (Qv (List.replicate g.names.length false)) false) ⟨[], 1, 0⟩ = some S := by rw [hS]; rfl
 have hb : HB S := by
  subst hS
  intro p x hp
  rcases List.mem_cons.1 hp with e | e
  ·cases e; exact Nat.zero_lt_one
  ·cases e
 have hf : Q0 S.h 0 = some (.cells 4 1 (Qv (List.replicate g.names.length false)) false) := by rw [hS]; rfl
 have hSc : S.c = 1 := by rw [hS]
 have hSl : S.lo = 0 := by rw [hS]
 have hkn : g.kinds.length <= g.names.length := by unfold Q7.names; rw [List.length_append]; omega
 have goal : ((Qn E (Q6 E (k + 6)) C.f63.body (TS.ofArgs [cv] 0 .nil) ⟨[], 0, 0⟩).bind (Qb C.f63.results)).to fun x => x.1 = .sobj 0 0 g.names.length (some g.names.length) /\ ∃ B, Q0 x.2.h 0 = some (.cells 4 1 (Qv B) false) /\ B.length = g.names.length /\ ∀ s, s ∈ g.names -> (B.getD (g.ix s) false = true ↔ Qb4 g s) := by
  have e0' := e0
  subst e0'
  simp [-List.getD_eq_getElem?_getD, C.f63, hln, hmk, hn]
  refine M.to_bind (Qiz (n := k + 6) (m := g.kinds.length) hkn (by omega) S hb (by rw [hSl]; exact Nat.le_refl _) hf _ _ (by simp; rfl) (by simp) (by simp) (by simp)) fun x hx => ?_
  obtain ⟨e, ts1, st1⟩ := x
  obtain ⟨ee, g0, g3, hb1, hl1, hc1, B0, f1, f2, f3⟩ := hx
  simp only at ee g0 g3 hb1 hl1 hc1 f1
  subst ee
  have run := Qf3 (k := k) (A := 0) (base := (· ∈ g.kinds)) hC hs hok B0 st1 hb1 (by rw [hl1, hSl]; exact Nat.le_refl _) (by rw [hc1, hSc]; exact Nat.zero_lt_one) f1 f2 (fun s hs h => by
   rw [f3, decide_eq_true_eq] at h; exact (Qcu hok hs).1 h) (fun s h => by
   rw [f3, decide_eq_true_eq]; exact (Qcu hok (List.mem_append.2 (.inl h))).2 h)
  simp [-List.getD_eq_getElem?_getD, g0, g3]
  refine M.to_bind run fun x hx => ?_
  obtain ⟨v, st2⟩ := x
  obtain ⟨r2, B, r3, r4, r5⟩ := hx
  simp only at r2 r3
  subst r2
  simp [-List.getD_eq_getElem?_getD, Qb, results, Q9]
  exact ⟨B, r3, r4, r5⟩
 obtain ⟨⟨v, st1⟩, r1, r2, B, r3, r4, r5⟩ := goal
 simp only at r2 r3
 subst r2
 refine ⟨.list true 1 (Qv B), B, ?_, ⟨.inr ⟨_, rfl⟩⟩, r4, r5⟩
 rw [r1]
 simp [Qt, Q0c, Q7k r3 r4]
end Go.Am
end
section
namespace Go.Am
open Go
def Qhr (k f n : Nat) (a b : List AV) (st0 : St) (p : Nat -> Bool) : Prop := ∀ st x, x < n -> Q0r st0 st -> Q6 E k f (a ++ ([.int .i64 ((x : Nat) : Int)] ++ b)) st = .ret (.bool (p x), st)
theorem Qsf {g : Q7} (hok : g.Ok) {j : Nat} (hj : j < g.lefts.length) : g.ix g.lefts[j] = g.kinds.length + j := by
 have hin : g.kinds.length + j < g.names.length := by unfold Q7.names; rw [List.length_append]; omega
 have e : g.names[g.kinds.length + j]'hin = g.lefts[j] := by
  have : g.names[g.kinds.length + j]'hin = (g.kinds ++ g.lefts)[g.kinds.length + j]'(by rw [List.length_append]; omega) := rfl
  rw [this, List.getElem_append_right (by omega)]; simp
 have := Qaf (Q7.names_nodup hok) hin
 rw [e] at this; exact this
theorem Qoq {g : Q7} {j : Nat} (hj : j < g.lefts.length) (hin : g.kinds.length + j < g.names.length) : g.names[g.kinds.length + j] = g.lefts[j] := by
 have : g.names[g.kinds.length + j]'hin = (g.kinds ++ g.lefts)[g.kinds.length + j]'(by rw [List.length_append]; omega) := rfl
 rw [this, List.getElem_append_right (by omega)]; simp
theorem SSl.thaw0 {h : Qc} {w : AV} {L : List Str} {c : Nat} (H : SSl h w L) (hc : ∀ p, Qh w = some p -> c <= p) : ∃ w', Qr w' 1 (strs L) /\ ∀ n, 2 <= n -> thaw c h n w = some w' := by
 have key : ∀ (id : Nat) (cap : Option Nat) (ext : Bool), c <= id -> Q0 h id = some (.cells 9 1 (strs L) ext) -> ∃ w', Qr w' 1 (strs L) /\ ∀ n, 2 <= n -> thaw c h n (.sobj id 0 L.length cap) = some w' := fun id cap ext hid hf => by
  refine ⟨.list (match cap with | some c => Nat.beq c L.length | none => false) 1 (strs L), ⟨.inr ⟨_, rfl⟩⟩, fun n hn => ?_⟩
  obtain ⟨m, rfl⟩ : ∃ m, n = m + 2 := ⟨n - 2, by omega⟩
  have hl : (strs L).length = L.length := Q1r L
  have ht : thaws (Am.thaw c h (m + 1)) (((strs L).drop 0).take (L.length * 1)) = some (strs L) := by
   rw [List.drop_zero, Nat.mul_one, ← hl, List.take_length]; exact Q1u (Q20 c L)
  rw [Q3g hid hf (by omega) (by omega) ht, ← hl, Q5k]
  cases cap <;> rfl
 cases H with
 | nl => exact ⟨.snil, ⟨.inl ⟨rfl, rfl⟩⟩, fun n hn => by obtain ⟨m, rfl⟩ : ∃ m, n = m + 1 := ⟨n - 1, by omega⟩; exact Q13 rfl⟩
 | ob id _ h0 hf => exact key id _ _ (hc id rfl) hf
 | lit id _ h0 hf => exact key id _ _ (hc id rfl) hf
def pick (g : Q7) (p : Nat -> Bool) (j : Nat) : List Str := (g.lefts.take j).filter fun s => p (g.ix s)
theorem Qkc (g : Q7) (p : Nat -> Bool) (j : Nat) : (pick g p j).length <= j := by
 unfold pick
 have := List.length_filter_le (fun s => p (g.ix s)) (g.lefts.take j)
 rw [List.length_take] at this; omega
set_option maxHeartbeats 1000000 in
theorem Qf8 {k f : Nat} {a b : List AV} {cv : AV} {g : Q7} {st : St} {p : Nat -> Bool} (hC : Q2g cv g) (hs : g.Small) (hok : g.Ok) (hb : HB st) (hlo : st.lo <= st.c) (HP : Qhr k f g.names.length a b st p) :
  ∃ w, Q6 E (k + 1) 59 [cv, .fn (.func f) a b] st = .ret (w, st) /\ Qr w 1 (strs (g.lefts.filter fun s => p (g.ix s))) := by
 have hnl := Q7.names_length hs
 have hll := g.lefts_length
 have hmany := hs.many
 have hkn := hs.kinds
 have hnm : g.names.length = g.kinds.length + g.lefts.length := by unfold Q7.names; simp
 obtain ⟨nv, rv, ov, lr, lo', e0, h1, _⟩ := hC.out
 rw [Q0e (fn := C.f59) rfl rfl rfl, Qg (by simp)]
 have goal : ((Qn E (Q6 E k) C.f59.body (TS.ofArgs [cv, .fn (.func f) a b] 0 .nil) { st with lo := st.c }).bind (Qb C.f59.results)).to fun x => SSl x.2.h x.1 (pick g p g.lefts.length) /\ ∀ q, Qh x.1 = some q -> st.c <= q := by
  have hln : ∀ S' : St, Qw .slice nv S' = some (.int .i64 (g.names.length : Int), S') := fun S' => by have := h1.len (st := S'); simpa using this
  have e0' := e0
  simp [C.f59, e0']
  refine M.to_bind (Qs (fun (j : Nat) ts st1 => j <= g.lefts.length /\ ts.get 0 = cv /\ ts.get 1 = .fn (.func f) a b /\ ts.get 6 = .int .i64 ((g.kinds.length + j : Nat) : Int) /\ ∃ (w : AV), ts.get 5 = w /\ Add ⟨st.h, st.c, st.c⟩ .snil st1 w (pick g p j))
   (fun j => g.lefts.length - j) (fun e ts st1 => e = .exit 0 /\ ∃ (w : AV), ts.get 5 = w /\ Add ⟨st.h, st.c, st.c⟩ .snil st1 w (pick g p g.lefts.length)) ?step _ 0 _ _ ?_ ?_) ?_
  case step =>
   rintro j ts st1 ⟨hj, z0, z1, z6, w, z5, A⟩
   rw [e0] at z0
   by_cases hlt : j < g.lefts.length
   ·obtain ⟨h, c, lo⟩ := st1
    have hin : g.kinds.length + j < g.names.length := by omega
    obtain ⟨t, ht⟩ : ∃ t, t = g.kinds.length + j := ⟨_, rfl⟩
    rw [← ht] at z6
    have htn : t < g.names.length := by omega
    have htI : (t : Int) < (g.names.length : Int) := by omega
    have hX : Q0r st ⟨h, c, lo⟩ := ⟨A.c, A.hb, fun q hq => A.fr q hq (by simp [Qh])⟩
    have hc := HP ⟨h, c, lo⟩ t htn hX
    simp only [List.singleton_append] at hc
    have hix := Qsf hok hlt
    have hLl := Qkc g p j
    have htk : pick g p (j + 1) = pick g p j ++ (if p t then [g.lefts[j]] else []) := by
     unfold pick
     rw [List.take_succ_eq_append_getElem hlt, List.filter_append]
     congr 1
     rw [ht, ← hix]
     cases hp : p (g.ix g.lefts[j]) <;> simp [hp]
    have hcast : ((t : Int) + 1) = ((g.kinds.length + (j + 1) : Nat) : Int) := by omega
    cases hp : p t with
    | false =>
     rw [hp] at hc htk
     simp [C.f59L0, z0, z1, z5, z6, hln, htI, hc, htn, wrap64 (n := (t : Int) + 1) (by omega) (by omega)]
     exact ⟨j + 1, by omega, by omega, e0.symm, hcast, by rw [htk]; simpa using A⟩
    | true =>
     rw [hp] at hc htk
     obtain ⟨n1, h2, p1, A2⟩ := A.push (Nat.le_refl _) (by omega) g.names[t]
     have ixn := h1.idxS (st := ⟨h, c + 2, lo⟩) htn
     have hnt : g.names[t] = g.lefts[j] := by simp only [ht]; exact Qoq hlt hin
     simp [C.f59L0, z0, z1, z5, z6, hln, htI, hc, htn, ixn, Qjj, n1, p1, wrap64 (n := (t : Int) + 1) (by omega) (by omega)]
     refine ⟨j + 1, by omega, by omega, e0.symm, hcast, ?_⟩
     rw [htk, ← hnt]; simpa using A2
   ·have : j = g.lefts.length := by omega
    subst this
    have hge : ¬ ((g.kinds.length + g.lefts.length : Nat) : Int) < (g.names.length : Int) := by omega
    rw [← hnm] at z6
    simp [C.f59L0, z0, z1, z5, z6, hln]
    exact A
  ·show g.lefts.length - 0 < 1000000; omega
  ·refine ⟨by omega, by simp [e0], by simp, by simp, .snil, by simp, by simpa [pick] using (Add.start (st := ⟨st.h, st.c, st.c⟩) hb .nl (fun q h => by cases h))⟩
  ·rintro ⟨e, ts, st1⟩ ⟨e1, w, g5, A⟩
   simp only at e1 g5 A
   subst e1
   simp [g5, Qb, results, Q9]
   exact ⟨A.sl, fun q hq => by
    rcases (A.own q hq).2.2 with h | h
    ·cases h
    ·exact h⟩
 obtain ⟨⟨w, st'⟩, r1, hS, hc⟩ := goal
 obtain ⟨w', g1, g2⟩ := hS.thaw0 hc
 have e : pick g p g.lefts.length = g.lefts.filter fun s => p (g.ix s) := by unfold pick; rw [List.take_length]
 rw [e] at g1
 exact ⟨w', by rw [r1]; simp only [M.ret_bind, Qt, Q0c, g2 64 (by omega)], g1⟩
theorem Qht {f : Nat} {fn : AFn} (hh : E.hook f = none) (hc : E.code f = some fn) (hp : fn.pol = .pure) (hr : fn.results = [.tmp 3]) (hbd : fn.body = C.f60.body)
  {k n q : Nat} {w : AV} {B : List Bool} {st0 : St} (hw : Qr w 1 (Qv B)) (hl : B.length = n) (hq : q < st0.c) (hf : Q0 st0.h q = some (.cells 79 1 [w] false)) : Qhr (k + 1) f n [] [.pobj q 0] st0 fun x => B.getD x false := by
 intro st x hx hst
 rw [Q0e hh hc hp, Qg (by simp), hbd, hr]
 have r : Q5 st.h (.pobj q 0) = some w := by rw [Q4 ((hst.fr q hq).trans hf)]; rfl
 have ix : Qj 1 w (.int .i64 (x : Int)) ⟨st.h, st.c, st.c⟩ = some (.pval [.bool (B.getD x false)], ⟨st.h, st.c, st.c⟩) := by
  rw [hw.idx (by simp; omega)]; simp [Qv, AV.cells, List.getD, show x < B.length by omega]
 show _ = M.ret (AV.bool (B.getD x false), st)
 generalize B.getD x false = b at ix
 simp [C.f60, r, ix, Qb, results, Q9]
theorem Qlm {f : Nat} {fn : AFn} (hh : E.hook f = none) (hc : E.code f = some fn) (hp : fn.pol = .pure) (hr : fn.results = [.tmp 3]) (hbd : fn.body = C.f64.body)
  {k n q : Nat} {w : AV} {B : List Bool} {st0 : St} (hw : Qr w 1 (Qv B)) (hl : B.length = n) (hq : q < st0.c) (hf : Q0 st0.h q = some (.cells 79 1 [w] false)) : Qhr (k + 1) f n [] [.pobj q 0] st0 fun x => !B.getD x false := by
 intro st x hx hst
 rw [Q0e hh hc hp, Qg (by simp), hbd, hr]
 have r : Q5 st.h (.pobj q 0) = some w := by rw [Q4 ((hst.fr q hq).trans hf)]; rfl
 have ix : Qj 1 w (.int .i64 (x : Int)) ⟨st.h, st.c, st.c⟩ = some (.pval [.bool (B.getD x false)], ⟨st.h, st.c, st.c⟩) := by
  rw [hw.idx (by simp; omega)]; simp [Qv, AV.cells, List.getD, show x < B.length by omega]
 show _ = M.ret (AV.bool (!B.getD x false), st)
 generalize B.getD x false = b at ix
 simp [C.f64, r, ix, Qb, results, Q9]
def Q6n (k f : Nat) (v : AV) (g : Q7) (L : List Str) : Prop := ∀ st, (g.fault ≠ 0 -> Q6 E k f [v] st = .ret (.tuple [.snil, .int .i64 g.fault], st)) /\ (g.fault = 0 -> ∃ w, Q6 E k f [v] st = .ret (.tuple [w, .int .i64 0], st) /\ Qr w 1 (strs L))
def Qdw (fa fb : Nat) : Qd := C.S (C.R 1 [C.o 1 (.box 0 29 3) [C.t 0], C.o 2 .move [.val (.snil)], C.o 3 .move [C.i 0]]) (C.S (C.S (C.R 0 [C.o 7 (.load (some 3)) [C.t 1], C.o 8 (.call 19) [C.t 7], C.m 4 8]) (C.S (C.R 0 [C.m 9 4, C.o 10 (.bin .neq) [C.t 9, C.i 0]]) (C.C (C.t 10) (C.S (C.R 0 [C.m 11 4, C.o 2 .move [.val (.snil)], C.m 3 11]) .ret) .skip))) (C.S (C.R 0 [C.o 12 (.load (some 3)) [C.t 1], C.o 13 (.call 57) [C.t 12], C.m 5 13]) (C.S (C.R 1 [C.m 14 5, C.o 15 (.call fa) [C.t 14], C.o 6 (.alloc 0 79 1 [.snil]) [], C.v (.store 1) [C.t 6, C.t 15]]) (C.S (C.R 0 [C.m 16 5, C.o 17 (.mkFn (.func fb) 0) [C.t 6], C.o 18 (.call 59) [C.t 16, C.t 17], C.m 2 18, C.o 3 .move [C.i 0]]) .ret))))
theorem Qww {ts : TS} {st : St} {a b : AV} (h2 : ts.get 2 = a) (h3 : ts.get 3 = b) : Qb [.tmp 2, .tmp 3] (.ret, ts, st) = .ret (.tuple [a, b], st) := by simp [Qb, results, Q9, h2, h3]
theorem Qdv {f fa fb : Nat} {fn : AFn} (hh : E.hook f = none) (hc : E.code f = some fn) (hp : fn.pol = .sealed) (hr : fn.results = [.tmp 2, .tmp 3]) (hbd : fn.body = Qdw fa fb)
  {k : Nat} {v : AV} {g : Q7} {L : List Str} (hg : Q02 v g) (hs : g.Small)
  (HA : ∀ cv st, Q2g cv g -> g.Ok -> ∃ w B, Q6 E (k + 7) fa [cv] st = .ret (w, st) /\ Qr w 1 (Qv B) /\ ∃ p, (∀ (st0 : St) (q : Nat), q < st0.c -> Q0 st0.h q = some (.cells 79 1 [w] false) -> Qhr (k + 6) fb g.names.length [] [.pobj q 0] st0 p) /\ g.lefts.filter (fun s => p (g.ix s)) = L) :
  Q6n (k + 8) f v g L := by
 intro st
 have hold := hg.oldB 0
 have hg' := hg
 obtain ⟨kv, rv0, l, rfl, hk, hr', hrs⟩ := hg'
 rw [Q0b hh hc hp (by simp [AV.olds, hold]), Qg (by simp), hbd, hr]
 have hbx : Q0z 0 29 3 (.agg [kv, .str g.start, rv0]) = some (.pobj 0 0, .cells 29 3 [kv, .str g.start, rv0] false) := rfl
 have n1 := Q3a (c' := 1) (lo := 0) (ty := 29) (n := 3) (cs := [kv, .str g.start, rv0]) HB.nil
 obtain ⟨h1, hh1⟩ : ∃ h1 : Qc, h1 = [(0, Qe.cells 29 3 [kv, .str g.start, rv0] false)] := ⟨_, rfl⟩
 rw [← hh1] at n1
 have X1 : Q0r ⟨[], 0, 0⟩ ⟨h1, 1, 0⟩ := by rw [hh1]; exact (Q0r.refl HB.nil).cons (lo := 0) (by omega)
 have fg : Q0 h1 0 = some (.cells 29 3 [kv, .str g.start, rv0] false) := by rw [hh1, Q3, if_pos rfl]
 have rg : Ql h1 (.pobj 0 0) 3 = some [kv, .str g.start, rv0] := Qq fg rfl
 have hck := Q8v (k := k + 1) (st := ⟨h1, 1, 0⟩) hg hs
 refine ⟨fun hne => ?_, fun hz => ?_⟩
 ·have hb : (g.fault != 0) = true := by simpa using hne
  have hth : thaw 0 h1 64 (.tuple [.snil, .int .i64 g.fault]) = some (.tuple [.snil, .int .i64 g.fault]) := Q13 (n := 63) rfl
  simp [Qdw, hbx, n1, rg, hck, hb, hne, Qb, results, Q9, Qt, Q0c, hth]
 ·have hok := Q7.ok hz
  rw [hz] at hck
  obtain ⟨cv, e1, hC⟩ := Qln (k := k) (st := ⟨h1, 1, 0⟩) hg hs hok
  obtain ⟨w1, B, e2, e3, p, e4, e5⟩ := HA cv ⟨h1, 2, 0⟩ hC hok
  have n2 : newObj 1 (.cells 79 1 [.snil] false) ⟨h1, 2, 0⟩ = some ⟨(1, .cells 79 1 [.snil] false) :: h1, 2, 0⟩ := Qf X1.hb
  obtain ⟨h2, hh2⟩ : ∃ h2 : Qc, h2 = (1, Qe.cells 79 1 [w1] false) :: h1 := ⟨_, rfl⟩
  have hone : w1.isTuple = false /\ w1.cells = [w1] := by rcases e3.out with ⟨rfl, _⟩ | ⟨t, rfl⟩ <;> exact ⟨rfl, rfl⟩
  have s2 : Q0n 1 (.pobj 1 0) w1 ⟨(1, .cells 79 1 [.snil] false) :: h1, 2, 0⟩ = some (.undef, ⟨h2, 2, 0⟩) := by
   rw [Q07 (cs := [.snil]) (ty := 79) (sz := 1) (ext := false) (by rw [Q3, if_pos rfl]) (by show 0 <= 1; omega) (by simp) hone.1 hone.2, hh2]
   simp [hset]
  have hb2 : HB ⟨h2, 2, 0⟩ := by rw [hh2]; exact HB.cons (h := h1) (c := 1) (lo := 0) X1.hb (by omega) (by omega)
  have f3 : Q0 h2 1 = some (.cells 79 1 [w1] false) := by rw [hh2, Q3, if_pos rfl]
  obtain ⟨w, e6, e7⟩ := Qf8 (k := k + 6) (st := ⟨h2, 2, 0⟩) hC hs hok hb2 (by show 0 <= 2; omega) (e4 ⟨h2, 2, 0⟩ 1 (by show 1 < 2; omega) f3)
  have hth : thaw 0 h2 64 (.tuple [w, .int .i64 0]) = some (.tuple [w, .int .i64 0]) := Q13 (n := 63) (by
   have := e7.oldB 0
   simp [AV.old, AV.olds, this])
  refine ⟨w, ?_, by rw [← e5]; exact e7⟩
  simp [Qdw, hbx, n1, rg, hck, e1, e2, n2, s2, e6, Qb, results, Q9, Qt, Q0c, hth]
theorem Qi6 {k : Nat} {v : AV} {g : Q7} (hg : Q02 v g) (hs : g.Small) (q : Str -> Bool) (hq : ∀ s, q s = true ↔ Q3x g s) : Q6n (k + 8) 10 v g (g.lefts.filter q) := by
 refine Qdv (fn := C.f10) rfl rfl rfl rfl rfl (fa := 58) (fb := 60) hg hs fun cv st hC hok => ?_
 obtain ⟨w, B, e1, e2, e3, e4⟩ := Q85 (k := k) (st := st) hC hs hok
 refine ⟨w, B, e1, e2, fun x => B.getD x false, fun st0 qq hqq hf => Qht (fn := C.f60) rfl rfl rfl rfl rfl e2 e3 hqq hf, List.filter_congr fun s hs' => ?_⟩
 show B.getD (g.ix s) false = q s
 rw [Bool.eq_iff_iff, hq, e4 s (List.mem_append.2 (.inr hs'))]
theorem Qnk {k : Nat} {v : AV} {g : Q7} (hg : Q02 v g) (hs : g.Small) (q : Str -> Bool) (hq : ∀ s, q s = true ↔ Qb4 g s) : Q6n (k + 8) 12 v g (g.lefts.filter fun s => !q s) := by
 refine Qdv (fn := C.f12) rfl rfl rfl rfl rfl (fa := 63) (fb := 64) hg hs fun cv st hC hok => ?_
 obtain ⟨w, B, e1, e2, e3, e4⟩ := Qf6 (k := k) (st := st) hC hs hok
 refine ⟨w, B, e1, e2, fun x => !B.getD x false, fun st0 qq hqq hf => Qlm (fn := C.f64) rfl rfl rfl rfl rfl e2 e3 hqq hf, List.filter_congr fun s hs' => ?_⟩
 show (!B.getD (g.ix s) false) = !q s
 rw [show B.getD (g.ix s) false = q s by rw [Bool.eq_iff_iff, hq, e4 s (List.mem_append.2 (.inr hs'))]]
theorem Qow {k : Nat} {v : AV} {g : Q7} (hg : Q02 v g) (hs : g.Small) : Q6n (k + 8) 8 v g g.lefts := by
 intro st
 have hold := hg.oldB 0
 have hg' := hg
 obtain ⟨kv, rv0, l, rfl, hk, hr', hrs⟩ := hg'
 rw [Q0b (fn := C.f8) rfl rfl rfl (by simp [AV.olds, hold]), Qg (by simp)]
 have hbx : Q0z 0 29 3 (.agg [kv, .str g.start, rv0]) = some (.pobj 0 0, .cells 29 3 [kv, .str g.start, rv0] false) := rfl
 have n1 := Q3a (c' := 1) (lo := 0) (ty := 29) (n := 3) (cs := [kv, .str g.start, rv0]) HB.nil
 obtain ⟨h1, hh1⟩ : ∃ h1 : Qc, h1 = [(0, Qe.cells 29 3 [kv, .str g.start, rv0] false)] := ⟨_, rfl⟩
 rw [← hh1] at n1
 have fg : Q0 h1 0 = some (.cells 29 3 [kv, .str g.start, rv0] false) := by rw [hh1, Q3, if_pos rfl]
 have rg : Ql h1 (.pobj 0 0) 3 = some [kv, .str g.start, rv0] := Qq fg rfl
 have hck := Q8v (k := k + 1) (st := ⟨h1, 1, 0⟩) hg hs
 refine ⟨fun hne => ?_, fun hz => ?_⟩
 ·have hb : (g.fault != 0) = true := by simpa using hne
  have hth : thaw 0 h1 64 (.tuple [.snil, .int .i64 g.fault]) = some (.tuple [.snil, .int .i64 g.fault]) := Q13 (n := 63) rfl
  simp [C.f8, hbx, n1, rg, hck, hb, hne, Qb, results, Q9, Qt, Q0c, hth]
 ·have hok := Q7.ok hz
  rw [hz] at hck
  obtain ⟨w, e1, e2⟩ := Qb7 (k := k + 1) (st := ⟨h1, 1, 0⟩) hg hs (Q7.ne_rules hok)
  have hth : thaw 0 h1 64 (.tuple [w, .int .i64 0]) = some (.tuple [w, .int .i64 0]) := Q13 (n := 63) (by
   have := e2.oldB 0
   simp [AV.old, AV.olds, this])
  refine ⟨w, ?_, e2⟩
  simp [C.f8, hbx, n1, rg, hck, e1, Qb, results, Q9, Qt, Q0c, hth]
end Go.Am
end
section
namespace Go.Am
open Go
inductive Stk (h : Qc) : AV -> List Nat -> Prop
 | nl : Stk h .snil []
 | ob (id : Nat) (L : List Nat) (rest : List AV) (ext : Bool) (cap : Option Nat) (hf : Q0 h id = some (.cells 3 1 (ints L ++ rest) ext)) (hc : (cap = none /\ ext = true) ∨ cap = some (L.length + rest.length)) : Stk h (.sobj id 0 L.length cap) L
theorem Stk.len {h : Qc} {w : AV} {L : List Nat} (H : Stk h w L) : Q0k w = some L.length := by cases H <;> rfl
theorem Stk.heap {h h' : Qc} {w : AV} {L : List Nat} (H : Stk h w L) (e : ∀ o, Qh w = some o -> Q0 h' o = Q0 h o) : Stk h' w L := by
 cases H with
 | nl => exact .nl
 | ob id _ rest ext cap hf hc => exact .ob id _ rest ext cap ((e id rfl).trans hf) hc
theorem Stk.ofM {h : Qc} {w : AV} {L : List Nat} (H : MSl h 3 1 w (ints L)) : Stk h w L := by
 generalize hx : ints L = xs at H
 cases H with
 | nl =>
  have : L = [] := Q3o.1 hx
  subst this; exact .nl
 | mt id ext hf =>
  have : L = [] := Q3o.1 hx
  subst this; exact .ob id [] [] ext (some 0) hf (.inr rfl)
 | ob id _ h0 hc hf =>
  subst hx
  rw [Q73] at hf
  rw [Q6q]
  exact .ob id L [] true none (by simpa using hf) (.inl ⟨rfl, rfl⟩)
theorem Stk.top {h : Qc} {w : AV} {L : List Nat} {x : Nat} (H : Stk h w (L ++ [x])) {st : St} (hs : st.h = h) :
  ∃ q, Qj 1 w (.int .i64 (L.length : Nat)) st = some (q, st) /\ Q5 h q = some (.int .i64 (x : Nat)) := by
 generalize hL : L ++ [x] = LL at H
 cases H with
 | nl => simp at hL
 | ob id _ rest ext cap hf hc =>
  subst hs hL
  refine ⟨_, Q1h hf (by simp), ?_⟩
  rw [Q4 hf, List.getElem?_append_left (by simp)]
  simp [ints]
theorem Stk.pop {h : Qc} {w : AV} {L : List Nat} {x : Nat} (H : Stk h w (L ++ [x])) {st : St} (hs : st.h = h) :
  ∃ w', Q0o 1 false true false [w, .int .i64 (L.length : Nat)] st = some (w', st) /\ Stk h w' L /\ ∀ p, Qh w' = some p -> Qh w = some p := by
 generalize hL : L ++ [x] = LL at H
 cases H with
 | nl => simp at hL
 | ob id _ rest ext cap hf hc =>
  subst hs hL
  have hf' : Q0 st.h id = some (.cells 3 1 (ints L ++ (.int .i64 (x : Nat) :: rest)) ext) := by rw [hf]; simp [ints]
  refine ⟨.sobj id 0 L.length cap, ?_, .ob id L (.int .i64 (x : Nat) :: rest) ext cap hf' ?_, fun p hp => hp⟩
  ·have d1 : decide (L.length <= (ints (L ++ [x])).length + rest.length) = true := decide_eq_true (by simp; omega)
   have d2 : decide (L.length <= L.length + 1 + rest.length) = true := decide_eq_true (by omega)
   rcases hc with ⟨rfl, _⟩ | rfl
   ·simp [Q0o, Q1a, Q0a, Q17, hf, beq_eq, Qm, Q26, Qi, d1, d2]
   ·simp [Q0o, Q1a, Q0a, Q17, hf, beq_eq, Qm, Q26, Qi, d1, d2]
  ·rcases hc with h | h
   ·exact .inl h
   ·refine .inr ?_
    rw [h]; simp; omega
theorem Stk.push {h : Qc} {c lo o : Nat} {w : AV} {L : List Nat} (N : List Nat) (hS : Stk h w L) (hb : HB ⟨h, c, lo⟩) (hn : ∀ p x, (p, x) ∈ h -> p ≠ o) (ho : o < c) (hw : ∀ p, Qh w = some p -> lo <= p /\ p ≠ o) (hl : L.length + N.length <= 100000) :
  ∃ w' h', Q08 o 3 1 8 w N.length (ints N) ⟨h, c, lo⟩ = some (w', ⟨h', c, lo⟩) /\ HB ⟨h', c, lo⟩ /\ Stk h' w' (L ++ N) /\ (∀ p, Qh w' = some p -> p = o ∨ Qh w = some p) /\ ∀ p, p ≠ o -> Qh w ≠ some p -> Q0 h' p = Q0 h p := by
 have hroom : (L.length + N.length) * 8 <= room /\ L.length + N.length <= room := by unfold room; constructor <;> omega
 by_cases hN : N.length = 0
 ·have : N = [] := List.eq_nil_of_length_eq_zero hN
  subst this
  cases hS with
  | nl => exact ⟨.snil, h, by simp [Q08, beq_eq], hb, .nl, fun p hp => .inr hp, fun _ _ _ => rfl⟩
  | ob id _ rest ext cap hf hc => exact ⟨_, h, by simp [Q08, beq_eq], hb, by rw [List.append_nil]; exact .ob id L rest ext cap hf hc, fun p hp => .inr hp, fun _ _ _ => rfl⟩
 ·have happ : ints L ++ ints N = ints (L ++ N) := by simp [ints]
  cases hS with
  | nl =>
   obtain ⟨h2, p1, p2, p3, p4⟩ := Q42 (y := .cells 3 1 (ints N) true) hn hb ho
   simp only [List.length_nil, Nat.zero_add] at hroom
   refine ⟨.sobj o 0 N.length none, h2, by simp [Q08, beq_eq, hN, grow, Qi, hroom.1, hroom.2, p1], p3, .ob o N [] true none (by rw [p2, if_pos rfl]; simp) (.inl ⟨rfl, rfl⟩), fun p hp => ?_, fun p hp _ => by rw [p2, if_neg (Ne.symm hp)]⟩
   simp only [Qh, Option.some.injEq] at hp; exact .inl hp.symm
  | ob id _ rest ext cap hf hc =>
   have hid := hw id rfl
   have hcl : (ints L ++ rest).length = L.length + rest.length := by simp
   have htk : (ints L ++ rest).take L.length = ints L := by rw [List.take_append_of_le_length (by simp), List.take_of_length_le (by simp)]
   have hbl : Nat.blt id lo = false := by rw [Qm]; simp; omega
   have lenLN : (L ++ N).length = L.length + N.length := by simp
   have inplace : L.length + N.length <= L.length + rest.length -> ∃ h', Q0m ⟨h, c, lo⟩ id L.length (ints N) = some ⟨h', c, lo⟩ /\ HB ⟨h', c, lo⟩ /\ Q0 h' id = some (.cells 3 1 (ints (L ++ N) ++ rest.drop N.length) ext) /\ ∀ p, p ≠ id -> Q0 h' p = Q0 h p := fun hle => by
    refine ⟨hset h id (.cells 3 1 (ints (L ++ N) ++ rest.drop N.length) ext), ?_, HB.hset (st := ⟨h, c, lo⟩) hb, by rw [Q8 hf, if_pos rfl], fun p hp => by rw [Q8 hf, if_neg (Ne.symm hp)]⟩
    have hsp : splice (ints L ++ rest) L.length (ints N) = ints (L ++ N) ++ rest.drop N.length := by
     unfold splice
     rw [htk, Q6q, ← happ, List.append_assoc]
     congr 2
     rw [List.drop_append]; simp
    have hle' : N.length <= rest.length := by omega
    simp [Q0m, hbl, hf, Qi, hle', hsp]
   have grown : ∀ h1 : Qc, (∀ p x, (p, x) ∈ h1 -> (p, x) ∈ h) -> ∃ h', grow o 3 1 8 L.length N.length (ints (L ++ N)) ⟨h1, c, lo⟩ = some (.sobj o 0 (L.length + N.length) none, ⟨h', c, lo⟩) /\ HB ⟨h', c, lo⟩ /\ Q0 h' o = some (.cells 3 1 (ints (L ++ N)) true) /\ ∀ p, p ≠ o -> Q0 h' p = Q0 h1 p := fun h1 hsub => by
    obtain ⟨h2, p1, p2, p3, p4⟩ := Q42 (y := .cells 3 1 (ints (L ++ N)) true) (h := h1) (c := c) (lo := lo) (o := o) (fun p x hm => hn p x (hsub p x hm)) (fun p x hm => hb p x (hsub p x hm)) ho
    exact ⟨h2, by simp [grow, Qi, hroom.1, hroom.2, p1], p3, by rw [p2, if_pos rfl], fun p hp => by rw [p2, if_neg (Ne.symm hp)]⟩
   have obN : ∀ {h' : Qc}, Q0 h' o = some (.cells 3 1 (ints (L ++ N)) true) -> Stk h' (.sobj o 0 (L.length + N.length) none) (L ++ N) := fun hf' => by
    have := Stk.ob (h := _) o (L ++ N) [] true none (by rw [hf', List.append_nil]) (.inl ⟨rfl, rfl⟩)
    rwa [lenLN] at this
   rcases hc with ⟨rfl, rfl⟩ | rfl
   ·by_cases hle : L.length + N.length <= L.length + rest.length
    ·obtain ⟨h', w1, w2, w3, w4⟩ := inplace hle
     refine ⟨.sobj id 0 (L.length + N.length) none, h', ?_, w2, ?_, fun p hp => .inr hp, fun p _ hne => w4 p fun e => hne (by rw [e]; rfl)⟩
     ·have hle' : N.length <= rest.length := by omega
      simp [Q08, beq_eq, hN, Q16, hf, Qi, hle', w1]
     ·have := Stk.ob (h := h') id (L ++ N) (rest.drop N.length) true none w3 (.inl ⟨rfl, rfl⟩)
      rwa [lenLN] at this
    ·obtain ⟨h', w1, w2, w3, w4⟩ := grown (hdel h id) fun p x hm => Q4r hm
     have hle' : ¬ N.length <= rest.length := by omega
     refine ⟨.sobj o 0 (L.length + N.length) none, h', ?_, w2, obN w3, fun p hp => ?_, fun p hp hne => ?_⟩
     ·simp [Q08, beq_eq, hN, Q16, hf, Qi, hle', hid.1, htk, happ, w1]
     ·simp only [Qh, Option.some.injEq] at hp; exact .inl hp.symm
     ·rw [w4 p hp, Q2e, if_neg fun e => hne (by rw [e]; rfl)]
   ·by_cases hle : L.length + N.length <= L.length + rest.length
    ·obtain ⟨h', w1, w2, w3, w4⟩ := inplace hle
     refine ⟨.sobj id 0 (L.length + N.length) (some (L.length + rest.length)), h', ?_, w2, ?_, fun p hp => .inr hp, fun p _ hne => w4 p fun e => hne (by rw [e]; rfl)⟩
     ·have hle' : N.length <= rest.length := by omega
      simp [Q08, beq_eq, hN, Q16, hf, Qi, hle', w1]
     ·have := Stk.ob (h := h') id (L ++ N) (rest.drop N.length) ext (some (L.length + rest.length)) w3 (.inr (by congr 1; simp; omega))
      rwa [lenLN] at this
    ·obtain ⟨h', w1, w2, w3, w4⟩ := grown h fun p x hm => hm
     have hle' : ¬ N.length <= rest.length := by omega
     refine ⟨.sobj o 0 (L.length + N.length) none, h', ?_, w2, obN w3, fun p hp => ?_, fun p hp hne => w4 p hp⟩
     ·simp [Q08, beq_eq, hN, Q16, hf, Qi, hle', htk, happ, w1]
     ·simp only [Qh, Option.some.injEq] at hp; exact .inl hp.symm
theorem Qco {o : Nat} {w y : AV} {st : St} {N : List Nat} (h1 : lenOf y = some N.length) (h2 : Q01 st.h 1 N.length y = some (ints N)) : Q0f o 3 1 8 w y st = Q08 o 3 1 8 w N.length (ints N) st := by
 cases y <;> simp_all [Q0f]
 all_goals simp [Q01] at h2
end Go.Am
end
section
namespace Go.Am
open Go
def unm (n : Nat) (B : List Bool) : Nat := (List.range n).countP fun x => !B.getD x false
theorem Qlj {n x : Nat} {B : List Bool} (hx : x < n) (hl : B.length = n) (h : B.getD x false = false) : unm n (B.set x true) < unm n B :=
 Qck (fun y _ hy => by
  rw [Q19 (by omega)] at hy
  split at hy
  ·cases hy
  ·exact hy) (List.mem_range.2 hx) (by rw [Q19 (by omega), if_pos rfl]; rfl) (by rw [h]; rfl)
theorem Qnx (n : Nat) (B : List Bool) : unm n B <= n := by
 have := List.countP_le_length (p := fun x => !B.getD x false) (l := List.range n)
 simpa [unm] using this
structure RC (A n : Nat) (B : List Bool) (w : AV) (L : List Nat) (st : St) : Prop where
 hb : HB st
 lo : st.lo = 0
 a : Q0 st.h A = some (.cells 4 1 (Qv B) false)
 len : B.length = n
 ac : A < st.c
 sk : Stk st.h w L
 own : ∀ p, Qh w = some p -> p < st.c /\ p ≠ A
theorem RC.put {A n : Nat} {B : List Bool} {w : AV} {L : List Nat} {h : Qc} {c : Nat} (H : RC A n B w L ⟨h, c, 0⟩) {x : Nat} (hx : x < n) (hL : L.length <= 4000) :
  Q0n 1 (.pobj A x) (.bool true) ⟨h, c, 0⟩ = some (.undef, ⟨hset h A (.cells 4 1 (Qv (B.set x true)) false), c, 0⟩) /\
  newObj c (.cells 3 1 [.int .i64 (x : Nat)] false) ⟨hset h A (.cells 4 1 (Qv (B.set x true)) false), c + 2, 0⟩ = some ⟨(c, .cells 3 1 [.int .i64 (x : Nat)] false) :: hset h A (.cells 4 1 (Qv (B.set x true)) false), c + 2, 0⟩ /\
  ∃ w' h', Q0f (c + 1) 3 1 8 w (.sobj c 0 1 (some 1)) ⟨(c, .cells 3 1 [.int .i64 (x : Nat)] false) :: hset h A (.cells 4 1 (Qv (B.set x true)) false), c + 2, 0⟩ = some (w', ⟨h', c + 2, 0⟩) /\ RC A n (B.set x true) w' (L ++ [x]) ⟨h', c + 2, 0⟩ /\ ∀ p, p < c -> p ≠ A -> Qh w ≠ some p -> Q0 h' p = Q0 h p := by
 have hac : A < c := H.ac
 have hlen := H.len
 have hown : ∀ p, Qh w = some p -> p < c /\ p ≠ A := H.own
 have s1 := Q07 (st := ⟨h, c, 0⟩) (off := x) (v := .bool true) H.a (Nat.zero_le _) (by simp; omega) rfl rfl
 rw [Q5q] at s1
 obtain ⟨h1, hh1⟩ : ∃ h1, h1 = hset h A (.cells 4 1 (Qv (B.set x true)) false) := ⟨_, rfl⟩
 have hb1 : HB ⟨h1, c, 0⟩ := hh1 ▸ HB.hset (st := ⟨h, c, 0⟩) H.hb
 have F1 : ∀ p, p ≠ A -> Q0 h1 p = Q0 h p := fun p hp => by rw [hh1, Q8 H.a, if_neg (Ne.symm hp)]
 have a1 : Q0 h1 A = some (.cells 4 1 (Qv (B.set x true)) false) := by rw [hh1, Q8 H.a, if_pos rfl]
 refine ⟨s1, Qf (hh1 ▸ hb1), ?_⟩
 rw [← hh1]
 obtain ⟨h2, hh2⟩ : ∃ h2 : Qc, h2 = (c, Qe.cells 3 1 [.int .i64 (x : Nat)] false) :: h1 := ⟨_, rfl⟩
 rw [← hh2]
 have hb2 : HB ⟨h2, c + 1, 0⟩ := hh2 ▸ HB.cons (h := h1) (c := c) (lo := 0) hb1 (by omega) (by omega)
 have S2 : Stk h2 w L := H.sk.heap fun o ho => by rw [hh2, Qu (hown o ho).1]; exact F1 o (hown o ho).2
 have hcs : Q01 h2 1 1 (.sobj c 0 1 (some 1)) = some [.int .i64 (x : Nat)] := by
  have : Q0 h2 c = some (.cells 3 1 [.int .i64 (x : Nat)] false) := by rw [hh2, Q3, if_pos rfl]
  simp [Q01, this, beq_eq, Qi]
 obtain ⟨w', h', p1, p2, p3, p4, p5⟩ := S2.push [x] (o := c + 1) (c := c + 2) (lo := 0) (hb2.up (by omega)) (fun p y hm e => by have : p < c + 1 := hb2 p y hm; omega) (by omega) (fun p hp => ⟨Nat.zero_le _, by have := (hown p hp).1; omega⟩) (by simp; omega)
 refine ⟨w', h', ?_, ⟨p2, rfl, ?_, by simpa using hlen, by show A < c + 2; omega, p3, fun p hp => ?_⟩, fun p hp hA hne => ?_⟩
 ·rw [Qco (N := [x]) rfl (by simpa [ints] using hcs)]; exact p1
 ·show Q0 h' A = _
  rw [p5 A (by omega) fun e => (hown A e).2 rfl, hh2, Qu hac]; exact a1
 ·rcases p4 p hp with e | e
  ·subst e; exact ⟨by show c + 1 < c + 2; omega, by omega⟩
  ·have := hown p e
   exact ⟨by show p < c + 2; omega, this.2⟩
 ·rw [p5 p (by omega) hne, hh2, Qu hp]; exact F1 p hA
structure RI (g : Q7) (Z : Nat -> Prop) (B : List Bool) (L : List Nat) : Prop where
 sound : ∀ s, s ∈ g.names -> B.getD (g.ix s) false = true -> Reach g s
 stk : ∀ x ∈ L, x < g.names.length /\ B.getD x false = true
 cl : ∀ r ∈ g.rules, B.getD (g.ix r.left) false = true -> g.ix r.left ∈ L ∨ Z (g.ix r.left) ∨ ∀ y ∈ r.right, B.getD (g.ix y) false = true
 start : B.getD (g.ix g.start) false = true
theorem RI.mark {g : Q7} {Z : Nat -> Prop} {B : List Bool} {L : List Nat} (H : RI g Z B L) (hl : B.length = g.names.length) {y : Str} (hy : y ∈ g.names) (hr : Reach g y) : RI g Z (B.set (g.ix y) true) (L ++ [g.ix y]) := by
 have hyl : g.ix y < B.length := by rw [hl]; exact ixN hy
 have mono : ∀ x, B.getD x false = true -> (B.set (g.ix y) true).getD x false = true := fun x hx => by
  rw [Q19 hyl]; split
  ·rfl
  ·exact hx
 refine ⟨fun s hs h => ?_, fun x hx => ?_, fun r hrr h => ?_, mono _ H.start⟩
 ·rw [Q19 hyl] at h
  split at h
  ·rename_i e
   have : s = y := by
    obtain ⟨q1, q2⟩ := Q2a hs
    obtain ⟨q3, q4⟩ := Q2a hy
    have e' : Q22 s g.names = Q22 y g.names := e
    rw [← q2, ← q4]; simp only [e']
   rw [this]; exact hr
  ·exact H.sound s hs h
 ·rcases List.mem_append.1 hx with h | h
  ·exact ⟨(H.stk x h).1, mono _ (H.stk x h).2⟩
  ·simp only [List.mem_singleton] at h
   subst h
   exact ⟨ixN hy, by rw [Q19 hyl, if_pos rfl]⟩
 ·rw [Q19 hyl] at h
  split at h
  ·rename_i e
   exact .inl (List.mem_append.2 (.inr (by rw [e]; simp)))
  ·rcases H.cl r hrr h with h | h | h
   ·exact .inl (List.mem_append.2 (.inl h))
   ·exact .inr (.inl h)
   ·exact .inr (.inr fun y hy => mono _ (h y hy))
section
variable {cv : AV} {g : Q7} {A : Nat} {n : Nat}
set_option maxHeartbeats 1000000 in
theorem Qmf (hs : g.Small) {r : Q0h} {w1 : AV} (hok : g.Ok) (hr : r ∈ g.rules) (e2 : Qr w1 1 (ints (r.right.map g.ix))) (hR : Reach g r.left) (Z : Nat -> Prop) (μ : Nat) (hμ : μ <= 1000) (a0 a5 a47 a48 a49 : AV) (st : St) {B0 : List Bool} {w0 : AV} {L0 : List Nat} (H0 : RC A g.names.length B0 w0 L0 st) (I0 : RI g Z B0 L0) (hM0 : 2 * unm g.names.length B0 + L0.length <= μ)
  (ts0 : TS) (z0 : ts0.get 0 = a0) (z3 : ts0.get 3 = .sobj A 0 g.names.length (some g.names.length)) (z4 : ts0.get 4 = w0) (z5 : ts0.get 5 = a5) (z47 : ts0.get 47 = a47) (z48 : ts0.get 48 = a48) (z49 : ts0.get 49 = a49) (z60 : ts0.get 60 = w1) (z61 : ts0.get 61 = .int .i64 (r.right.length : Int)) (z62 : ts0.get 62 = .int .i64 ((0 : Nat) : Int)) :
  (Q0l (Qn E (Q6 E n) C.f67L2) E.k ts0 st).to fun x => x.1 = .exit 4 /\ x.2.1.get 0 = a0 /\ x.2.1.get 3 = .sobj A 0 g.names.length (some g.names.length) /\ x.2.1.get 5 = a5 /\ x.2.1.get 47 = a47 /\ x.2.1.get 48 = a48 /\ x.2.1.get 49 = a49 /\ ∃ B w L, x.2.1.get 4 = w /\ RC A g.names.length B w L x.2.2 /\ RI g Z B L /\ 2 * unm g.names.length B + L.length <= μ /\ (∀ x, B0.getD x false = true -> B.getD x false = true) /\ ∀ y ∈ r.right, B.getD (g.ix y) false = true := by
 have hsr := (hs.rules r hr).right
 refine Qs (fun (i : Nat) ts st => i <= r.right.length /\ ts.get 0 = a0 /\ ts.get 3 = .sobj A 0 g.names.length (some g.names.length) /\ ts.get 5 = a5 /\ ts.get 47 = a47 /\ ts.get 48 = a48 /\ ts.get 49 = a49 /\ ts.get 60 = w1 /\ ts.get 61 = .int .i64 (r.right.length : Int) /\ ts.get 62 = .int .i64 (i : Int) /\ ∃ B w L, ts.get 4 = w /\ RC A g.names.length B w L st /\ RI g Z B L /\ 2 * unm g.names.length B + L.length <= μ /\ (∀ x, B0.getD x false = true -> B.getD x false = true) /\ ∀ j (hj : j < r.right.length), j < i -> B.getD (g.ix r.right[j]) false = true)
  (fun i => r.right.length - i) (fun e ts st => e = .exit 4 /\ ts.get 0 = a0 /\ ts.get 3 = .sobj A 0 g.names.length (some g.names.length) /\ ts.get 5 = a5 /\ ts.get 47 = a47 /\ ts.get 48 = a48 /\ ts.get 49 = a49 /\ ∃ B w L, ts.get 4 = w /\ RC A g.names.length B w L st /\ RI g Z B L /\ 2 * unm g.names.length B + L.length <= μ /\ (∀ x, B0.getD x false = true -> B.getD x false = true) /\ ∀ y ∈ r.right, B.getD (g.ix y) false = true) ?_ _ 0 _ _ ?_ ?_
 ·rintro i ts st ⟨hi, z0, z3, z5, z47, z48, z49, z60, z61, z62, B, w, L, z4, H, I, hM, hBB, hall⟩
  by_cases hlt : i < r.right.length
  ·obtain ⟨h, c, lo⟩ := st
   have hlo : lo = 0 := H.lo
   subst hlo
   have hym : r.right[i] ∈ g.names := Q7.sym_mem hok hr (List.getElem_mem hlt)
   obtain ⟨x, hx⟩ : ∃ x, g.ix r.right[i] = x := ⟨_, rfl⟩
   have hxn : x < g.names.length := hx ▸ ixN hym
   have ix1 := e2.idxI (st := ⟨h, c, 0⟩) (i := i) (by simpa using hlt)
   rw [List.getElem_map, hx] at ix1
   have hlen := H.len
   have ixA := Q1h (st := ⟨h, c, 0⟩) (n := g.names.length) (cap := some g.names.length) H.a hxn
   have rA : Q5 h (.pobj A x) = some (.bool (B.getD x false)) := by rw [Q4 H.a, bools_get? _ _ (by omega)]
   have hnext : ∀ B' : List Bool, (∀ x, B.getD x false = true -> B'.getD x false = true) -> B'.getD x false = true -> ∀ j (hj : j < r.right.length), j < i + 1 -> B'.getD (g.ix r.right[j]) false = true := fun B' h1 h2 j hj hji => by
    rcases Nat.lt_or_ge j i with h | h
    ·exact h1 _ (hall j hj h)
    ·have : j = i := by omega
     subst this; rw [hx]; exact h2
   cases hb : B.getD x false with
   | true =>
    rw [hb] at rA
    simp [-List.getD_eq_getElem?_getD, C.f67L2, z0, z3, z4, z5, z47, z48, z49, z60, z61, z62, hlt, ix1, ixA, rA, wrap64 (n := (i : Int) + 1) (by omega) (by omega)]
    exact ⟨i + 1, by omega, by omega, by simp, B, L, H, I, hM, hBB, hnext B (fun _ h => h) hb⟩
   | false =>
    rw [hb] at rA
    have hLl : L.length <= 4000 := by omega
    obtain ⟨s1, n1, w', h', p1, RC', _⟩ := H.put hxn hLl
    simp [-List.getD_eq_getElem?_getD, C.f67L2, z0, z3, z4, z5, z47, z48, z49, z60, z61, z62, hlt, ix1, ixA, rA, s1, Qji, n1, p1, wrap64 (n := (i : Int) + 1) (by omega) (by omega)]
    have hu := Qlj hxn hlen hb
    have mono : ∀ q, B.getD q false = true -> (B.set x true).getD q false = true := fun q hq => by
     rw [Q19 (by omega)]; split
     ·rfl
     ·exact hq
    have I' := I.mark hlen hym (.step hr hR (List.getElem_mem hlt))
    rw [hx] at I'
    exact ⟨i + 1, by omega, by omega, by simp, B.set x true, L ++ [x], RC', I', by rw [List.length_append, List.length_singleton]; omega, fun q hq => mono q (hBB q hq), hnext _ mono (by rw [Q19 (by omega), if_pos rfl])⟩
  ·have : i = r.right.length := by omega
   subst this
   simp [-List.getD_eq_getElem?_getD, C.f67L2, z0, z3, z4, z5, z47, z48, z49, z60, z61, z62]
   refine ⟨B, L, H, I, hM, hBB, fun y hy => ?_⟩
   obtain ⟨j, hj, rfl⟩ := List.getElem_of_mem hy
   exact hall j hj hj
 ·show r.right.length - 0 < 1000000; omega
 ·exact ⟨by omega, z0, z3, z5, z47, z48, z49, z60, z61, z62, B0, w0, L0, z4, H0, I0, hM0, fun _ h => h, fun j _ h => by omega⟩
end
end Go.Am
end
section
namespace Go.Am
open Go
theorem Qqr {g : Q7} {i s j : Nat} : j ∈ Q4p g i s ↔ j < i /\ g.ix (g.rules.getD j default).left = s := by
 unfold Q4p; simp
theorem RI.closed {g : Q7} {B : List Bool} (hok : g.Ok) (H : RI g (fun _ => False) B []) {s : Str} (h : Reach g s) : B.getD (g.ix s) false = true := by
 induction h with
 | start => exact H.start
 | step hr _ hx ih =>
  rcases H.cl _ hr ih with h | h | h
  ·cases h
  ·exact h.elim
  ·exact h _ hx
section
variable {cv : AV} {g : Q7} {A : Nat} {n : Nat}
set_option maxHeartbeats 1000000 in
theorem Qmg (hs : g.Small) (hok : g.Ok) {nv rv ov : AV} {lr : List AV} {mv m1 m2 : AV} (h3 : Qr rv 3 lr) (h4 : lr.length = g.rules.length) (h5 : ∀ j (hj : j < g.rules.length), ∃ w, lr[j]? = some (.agg [.int .i64 (g.ix g.rules[j].left : Nat), w, .int .i64 g.rules[j].level]) /\ Qr w 1 (ints (g.rules[j].right.map g.ix)))
  (s : Nat) {wS : AV} (hS : Qr wS 1 (ints (Q4p g g.rules.length s))) (hsr : ∀ r ∈ g.rules, g.ix r.left = s -> Reach g r.left) (μ : Nat) (hμ : μ <= 1000) (a5 : AV) (st : St) {B0 : List Bool} {w0 : AV} {L0 : List Nat} (H0 : RC A g.names.length B0 w0 L0 st) (I0 : RI g (· = s) B0 L0) (hM0 : 2 * unm g.names.length B0 + L0.length <= μ)
  (ts0 : TS) (z0 : ts0.get 0 = .pval [nv, m1, m2, rv, ov, mv]) (z3 : ts0.get 3 = .sobj A 0 g.names.length (some g.names.length)) (z4 : ts0.get 4 = w0) (z47 : ts0.get 47 = wS) (z48 : ts0.get 48 = .int .i64 ((Q4p g g.rules.length s).length : Int)) (z49 : ts0.get 49 = .int .i64 ((0 : Nat) : Int)) :
  (Q0l (Qn E (Q6 E n) C.f67L1) E.k ts0 st).to fun x => x.1 = .exit 2 /\ x.2.1.get 0 = .pval [nv, m1, m2, rv, ov, mv] /\ x.2.1.get 3 = .sobj A 0 g.names.length (some g.names.length) /\ ∃ B w L, x.2.1.get 4 = w /\ RC A g.names.length B w L x.2.2 /\ RI g (fun _ => False) B L /\ 2 * unm g.names.length B + L.length <= μ := by
 have hmany := hs.many
 have hofl := Qdj g g.rules.length s
 obtain ⟨N, hN⟩ : ∃ N, N = Q4p g g.rules.length s := ⟨_, rfl⟩
 rw [← hN] at hS z48 hofl
 have hNm : ∀ j, j ∈ N ↔ j < g.rules.length /\ g.ix (g.rules.getD j default).left = s := fun j => by rw [hN]; exact Qqr
 refine Qs (fun (i : Nat) ts st => i <= N.length /\ ts.get 0 = .pval [nv, m1, m2, rv, ov, mv] /\ ts.get 3 = .sobj A 0 g.names.length (some g.names.length) /\ ts.get 47 = wS /\ ts.get 48 = .int .i64 (N.length : Int) /\ ts.get 49 = .int .i64 (i : Int) /\ ∃ B w L, ts.get 4 = w /\ RC A g.names.length B w L st /\ RI g (· = s) B L /\ 2 * unm g.names.length B + L.length <= μ /\ ∀ j ∈ N.take i, ∀ y ∈ (g.rules.getD j default).right, B.getD (g.ix y) false = true)
  (fun i => N.length - i) (fun e ts st => e = .exit 2 /\ ts.get 0 = .pval [nv, m1, m2, rv, ov, mv] /\ ts.get 3 = .sobj A 0 g.names.length (some g.names.length) /\ ∃ B w L, ts.get 4 = w /\ RC A g.names.length B w L st /\ RI g (fun _ => False) B L /\ 2 * unm g.names.length B + L.length <= μ) ?_ _ 0 _ _ ?_ ?_
 ·rintro i ts st ⟨hi, z0, z3, z47, z48, z49, B, w, L, z4, H, I, hM, hall⟩
  by_cases hlt : i < N.length
  ·have hjm := (hNm N[i]).1 (List.getElem_mem hlt)
   obtain ⟨j, hj⟩ : ∃ j, N[i] = j := ⟨_, rfl⟩
   rw [hj] at hjm
   obtain ⟨hjr, hjs⟩ := hjm
   have hg : g.rules.getD j default = g.rules[j] := by simp [List.getD, hjr]
   rw [hg] at hjs
   have hmem := List.getElem_mem hjr
   have ixN := hS.idxI (st := st) hlt
   rw [hj] at ixN
   obtain ⟨w1, e1, e2⟩ := h5 j hjr
   have hjl : j < lr.length := by omega
   rw [List.getElem?_eq_getElem hjl, Option.some.injEq] at e1
   have ixr : Qj 3 rv (.int .i64 (j : Int)) st = some (.pval [.int .i64 (g.ix g.rules[j].left : Nat), w1, .int .i64 g.rules[j].level], st) := by rw [h3.idx hjl, e1]; rfl
   have hlr : Qw .slice w1 st = some (.int .i64 (g.rules[j].right.length : Int), st) := by have := e2.len (st := st); simpa using this
   have loop := Qmf (A := A) (n := n) (r := g.rules[j]) hs hok hmem e2 (hsr _ hmem hjs) (· = s) μ hμ (.pval [nv, m1, m2, rv, ov, mv])
   simp [-List.getD_eq_getElem?_getD, C.f67L1, z0, z3, z4, z47, z48, z49, hlt, ixN, ixr, hlr]
   refine M.to_bind (loop _ _ _ _ st H I hM _ (by simp [z0]) (by simp [z3]) (by simp [z4]) (by simp; rfl) (by simp [z47]; rfl) (by simp [z48]; rfl) (by simp [z49]; rfl) (by simp) (by simp) (by simp)) fun x hx => ?_
   obtain ⟨e, ts1, st1⟩ := x
   obtain ⟨ee, g0, g3, g5, g47, g48, g49, B', w', L', g4, H', I', hM', hBB, hy⟩ := hx
   simp only at ee g0 g3 g5 g47 g48 g49 g4 H'
   subst ee
   simp [-List.getD_eq_getElem?_getD, g0, g3, g4, g5, g47, g48, g49, wrap64 (n := (i : Int) + 1) (by omega) (by omega)]
   refine ⟨i + 1, by omega, by omega, by simp, B', L', H', I', hM', fun q hq y hyq => ?_⟩
   rw [List.take_succ_eq_append_getElem hlt, List.mem_append, List.mem_singleton, hj] at hq
   rcases hq with hq | hq
   ·exact hBB _ (hall q hq y hyq)
   ·subst hq; rw [hg] at hyq; exact hy y hyq
  ·have : i = N.length := by omega
   subst this
   rw [List.take_length] at hall
   simp [-List.getD_eq_getElem?_getD, C.f67L1, z0, z3, z4, z47, z48, z49]
   refine ⟨B, L, H, ⟨I.sound, I.stk, fun r hr hb => ?_, I.start⟩, hM⟩
   rcases I.cl r hr hb with h | h | h
   ·exact .inl h
   ·refine .inr (.inr fun y hy => ?_)
    obtain ⟨j, hj, rfl⟩ := List.getElem_of_mem hr
    have hg : g.rules.getD j default = g.rules[j] := by simp [List.getD, hj]
    exact hall j ((hNm j).2 ⟨hj, by rw [hg]; exact h⟩) y (by rw [hg]; exact hy)
   ·exact .inr (.inr h)
 ·show N.length - 0 < 1000000; omega
 ·exact ⟨by omega, z0, z3, z47, z48, z49, B0, w0, L0, z4, H0, I0, hM0, fun j h => by simp at h⟩
set_option maxHeartbeats 1000000 in
theorem Qmh (hC : Q2g cv g) (hs : g.Small) (hok : g.Ok) (st : St) {B0 : List Bool} {w0 : AV} {L0 : List Nat} (H0 : RC A g.names.length B0 w0 L0 st) (I0 : RI g (fun _ => False) B0 L0) (hM0 : L0.length <= 1)
  (ts0 : TS) (z0 : ts0.get 0 = cv) (z3 : ts0.get 3 = .sobj A 0 g.names.length (some g.names.length)) (z4 : ts0.get 4 = w0) :
  (Q0l (Qn E (Q6 E n) C.f67L0) E.k ts0 st).to fun x => x.1 = .exit 0 /\ x.2.1.get 3 = .sobj A 0 g.names.length (some g.names.length) /\ ∃ B, Q0 x.2.2.h A = some (.cells 4 1 (Qv B) false) /\ B.length = g.names.length /\ ∀ s, s ∈ g.names -> (B.getD (g.ix s) false = true ↔ Reach g s) := by
 have hnl := Q7.names_length hs
 have hul := Qnx g.names.length B0
 obtain ⟨nv, rv, ov, lr, lo, e0, h1, h3, h4, h5, h6, h7, h8⟩ := hC.out
 refine Qs (fun (m : Nat) ts st => m <= 1000 /\ ts.get 0 = cv /\ ts.get 3 = .sobj A 0 g.names.length (some g.names.length) /\ ∃ B w L, ts.get 4 = w /\ RC A g.names.length B w L st /\ RI g (fun _ => False) B L /\ 2 * unm g.names.length B + L.length <= m)
  (fun m => m) (fun e ts st => e = .exit 0 /\ ts.get 3 = .sobj A 0 g.names.length (some g.names.length) /\ ∃ B, Q0 st.h A = some (.cells 4 1 (Qv B) false) /\ B.length = g.names.length /\ ∀ s, s ∈ g.names -> (B.getD (g.ix s) false = true ↔ Reach g s)) ?_ _ 100 _ _ ?_ ?_
 ·rintro m ts st ⟨hm, z0, z3, B, w, L, z4, H, I, hM⟩
  have hlen : ∀ S : St, Qw .slice w S = some (.int .i64 (L.length : Int), S) := fun S => by simp [Qw, H.sk.len]
  rcases List.eq_nil_or_concat L with rfl | ⟨L', s, rfl⟩
  ·simp [-List.getD_eq_getElem?_getD, C.f67L0, z0, z3, z4, hlen]
   exact ⟨B, H.a, H.len, fun s hs => ⟨I.sound s hs, I.closed hok⟩⟩
  ·simp only [List.concat_eq_append] at *
   obtain ⟨q, t1, t2⟩ := H.sk.top (st := st) rfl
   obtain ⟨w', p1, p2, p3⟩ := H.sk.pop (st := st) rfl
   have hLl : (L' ++ [s]).length = L'.length + 1 := by simp
   rw [hLl] at hlen hM
   have hpos : (0 : Int) < ((L'.length + 1 : Nat) : Int) := by omega
   have hcast : ((L'.length + 1 : Nat) : Int) - 1 = (L'.length : Int) := by omega
   obtain ⟨hsn, hsb⟩ := I.stk s (by simp)
   obtain ⟨wS, o1, o2⟩ := h8 s hsn
   have hsl : s < lo.length := by omega
   rw [List.getElem?_eq_getElem hsl, Option.some.injEq] at o1
   have hwone : wS.cells = [wS] := by rcases o2.out with ⟨rfl, _⟩ | ⟨t, rfl⟩ <;> rfl
   have ixo : Qj 1 ov (.int .i64 (s : Int)) st = some (.pval [wS], st) := by rw [h6.idx hsl, o1, hwone]
   have hlS : Qw .slice wS st = some (.int .i64 ((Q4p g g.rules.length s).length : Int), st) := by have := o2.len (st := st); simpa using this
   rw [e0] at z0
   have H' : RC A g.names.length B w' L' st := ⟨H.hb, H.lo, H.a, H.len, H.ac, p2, fun p hp => H.own p (p3 p hp)⟩
   have I' : RI g (· = s) B L' := ⟨I.sound, fun x hx => I.stk x (by simp [hx]), fun r hr hb => by
    rcases I.cl r hr hb with h | h | h
    ·rcases List.mem_append.1 h with h | h
     ·exact .inl h
     ·exact .inr (.inl (by simpa using h))
    ·exact h.elim
    ·exact .inr (.inr h), I.start⟩
   have loop := Qmg (n := n) (A := A) (nv := nv) (ov := ov) (m1 := .int .i64 (g.kinds.length : Nat)) (m2 := .int .i64 (g.ix g.start : Nat)) (mv := .mval (strs g.names) (ints (List.range g.names.length))) hs hok h3 h4 h5 s o2 (fun r hr he => I.sound _ (Q7.left_names hr) (by rw [he]; exact hsb)) (m - 1) (by omega) (.int .i64 (s : Nat)) st H' I' (by omega)
   simp [-List.getD_eq_getElem?_getD, C.f67L0, z0, z3, z4, hlen, hpos, hcast, wrap64 (n := (L'.length : Int)) (by omega) (by omega), t1, t2, p1, ixo, hlS]
   refine M.to_bind (loop _ (by simp [z0]) (by simp [z3]) (by simp) (by simp) (by simp) (by simp)) fun x hx => ?_
   obtain ⟨e, ts1, st1⟩ := x
   obtain ⟨ee, g0, g3, B', w'', L'', g4, H'', I'', hM''⟩ := hx
   simp only at ee g0 g3 g4 H''
   subst ee
   simp [-List.getD_eq_getElem?_getD, g0, g3, g4]
   exact ⟨m - 1, by omega, by omega, e0.symm, B', L'', H'', I'', hM''⟩
 ·show 100 < 1000000; omega
 ·exact ⟨by omega, z0, z3, B0, w0, L0, z4, H0, I0, by omega⟩
end
theorem Qf5 {k : Nat} {cv : AV} {g : Q7} {st : St} (hC : Q2g cv g) (hs : g.Small) (hok : g.Ok) :
  ∃ w B, Q6 E (k + 7) 67 [cv] st = .ret (w, st) /\ Qr w 1 (Qv B) /\ B.length = g.names.length /\ ∀ s, s ∈ g.names -> (B.getD (g.ix s) false = true ↔ Reach g s) := by
 have hold := hC.oldB 0
 have hnl := Q7.names_length hs
 obtain ⟨nv, rv, ov, lr, lo', e0, h1, _⟩ := hC.out
 rw [Q0b (fn := C.f67) rfl rfl rfl (by simp [AV.olds, hold]), Qg (by simp)]
 have hsm : g.start ∈ g.names := List.mem_append.2 (.inr hok.start)
 obtain ⟨x0, hx0⟩ : ∃ x, x = g.ix g.start := ⟨_, rfl⟩
 have hxn : x0 < g.names.length := hx0 ▸ ixN hsm
 have hln : ∀ S' : St, Qw .slice nv S' = some (.int .i64 (g.names.length : Int), S') := fun S' => by have := h1.len (st := S'); simpa using this
 have hmk := Q81 (o := 0) (n := g.names.length) (by omega)
 obtain ⟨h, hh⟩ : ∃ h : Qc, h = [(0, .cells 4 1 (Qv (List.replicate g.names.length false)) false)] := ⟨_, rfl⟩
 have hn : newObj 0 (.cells 4 1 (Qv (List.replicate g.names.length false)) false) ⟨[], 1, 0⟩ = some ⟨h, 1, 0⟩ := by rw [hh]; rfl
 have hb : HB ⟨h, 1, 0⟩ := by
  subst hh
  intro p x hp
  rcases List.mem_cons.1 hp with e | e
  ·cases e; exact Nat.zero_lt_one
  ·cases e
 have hf : Q0 h 0 = some (.cells 4 1 (Qv (List.replicate g.names.length false)) false) := by rw [hh]; rfl
 have ixA := Q1h (st := ⟨h, 1, 0⟩) (n := g.names.length) (cap := some g.names.length) hf hxn
 have s1 := Q07 (st := ⟨h, 1, 0⟩) (off := x0) (v := .bool true) hf (Nat.zero_le _) (by simp; omega) rfl rfl
 rw [Q5q] at s1
 obtain ⟨B0, hB0⟩ : ∃ B, B = (List.replicate g.names.length false).set x0 true := ⟨_, rfl⟩
 rw [← hB0] at s1
 obtain ⟨h2, hh2⟩ : ∃ h2, h2 = hset h 0 (.cells 4 1 (Qv B0) false) := ⟨_, rfl⟩
 have hb2 : HB ⟨h2, 1, 0⟩ := hh2 ▸ HB.hset (st := ⟨h, 1, 0⟩) hb
 have f2 : Q0 h2 0 = some (.cells 4 1 (Qv B0) false) := by rw [hh2, Q8 hf, if_pos rfl]
 rw [← hh2] at s1
 obtain ⟨h3, hh3⟩ : ∃ h3 : Qc, h3 = (1, Qe.cells 3 1 [.int .i64 (x0 : Nat)] false) :: h2 := ⟨_, rfl⟩
 have n3 : newObj 1 (.cells 3 1 [.int .i64 (x0 : Nat)] false) ⟨h2, 2, 0⟩ = some ⟨h3, 2, 0⟩ := by rw [hh3]; exact Qf hb2
 have hb3 : HB ⟨h3, 2, 0⟩ := hh3 ▸ HB.cons (h := h2) (c := 1) (lo := 0) hb2 (by omega) (by omega)
 have hB0l : B0.length = g.names.length := by rw [hB0]; simp
 have hB0d : ∀ q, B0.getD q false = decide (q = x0) := fun q => by
  rw [hB0, Q19 (by simpa using hxn)]
  by_cases e : q = x0
  ·simp [e]
  ·rw [if_neg e]
   simp only [List.getD, List.getElem?_replicate]
   split <;> simp [e]
 have R0 : RC 0 g.names.length B0 (.sobj 1 0 1 (some 1)) [x0] ⟨h3, 2, 0⟩ := ⟨hb3, rfl, by show Q0 h3 0 = _; rw [hh3, Qu (by omega)]; exact f2, hB0l, by show 0 < 2; omega, .ob 1 [x0] [] false (some 1) (by show Q0 h3 1 = _; rw [hh3, Q3, if_pos rfl]; rfl) (.inr rfl), fun p hp => by
  simp only [Qh, Option.some.injEq] at hp
  subst hp
  exact ⟨by show 1 < 2; omega, by omega⟩⟩
 have I0 : RI g (fun _ => False) B0 [x0] := by
  refine ⟨fun s hs h => ?_, fun x hx => ?_, fun r hr h => ?_, by rw [hB0d, ← hx0]; simp⟩
  ·rw [hB0d, decide_eq_true_eq] at h
   have : s = g.start := by
    obtain ⟨q1, q2⟩ := Q2a hs
    obtain ⟨q3, q4⟩ := Q2a hsm
    have e' : Q22 s g.names = Q22 g.start g.names := h.trans hx0
    rw [← q2, ← q4]; simp only [e']
   rw [this]; exact .start
  ·simp only [List.mem_singleton] at hx
   subst hx
   exact ⟨hxn, by rw [hB0d]; simp⟩
  ·rw [hB0d, decide_eq_true_eq] at h
   exact .inl (by rw [h]; simp)
 have goal : ((Qn E (Q6 E (k + 6)) C.f67.body (TS.ofArgs [cv] 0 .nil) ⟨[], 0, 0⟩).bind (Qb C.f67.results)).to fun x => x.1 = .sobj 0 0 g.names.length (some g.names.length) /\ ∃ B, Q0 x.2.h 0 = some (.cells 4 1 (Qv B) false) /\ B.length = g.names.length /\ ∀ s, s ∈ g.names -> (B.getD (g.ix s) false = true ↔ Reach g s) := by
  have e0' := e0
  rw [← hx0] at e0'
  simp [-List.getD_eq_getElem?_getD, C.f67, e0', hln, hmk, hn, ixA, s1, Qji, n3]
  refine M.to_bind (Qmh (n := k + 6) (A := 0) hC hs hok _ R0 I0 (by simp) _ (by simp [e0']) (by simp) (by simp)) fun x hx => ?_
  obtain ⟨e, ts1, st1⟩ := x
  obtain ⟨ee, g3, B, f1, f2, f3⟩ := hx
  simp only at ee g3 f1
  subst ee
  simp [-List.getD_eq_getElem?_getD, g3, Qb, results, Q9]
  exact ⟨B, f1, f2, f3⟩
 obtain ⟨⟨v, st1⟩, r1, r2, B, r3, r4, r5⟩ := goal
 simp only at r2 r3
 subst r2
 refine ⟨.list true 1 (Qv B), B, ?_, ⟨.inr ⟨_, rfl⟩⟩, r4, r5⟩
 rw [r1]
 simp [Qt, Q0c, Q7k r3 r4]
theorem Qgv {k : Nat} {v : AV} {g : Q7} (hg : Q02 v g) (hs : g.Small) (q : Str -> Bool) (hq : ∀ s, q s = true ↔ Reach g s) : Q6n (k + 8) 14 v g (g.lefts.filter fun s => !q s) := by
 refine Qdv (fn := C.f14) rfl rfl rfl rfl rfl (fa := 67) (fb := 68) hg hs fun cv st hC hok => ?_
 obtain ⟨w, B, e1, e2, e3, e4⟩ := Qf5 (k := k) (st := st) hC hs hok
 refine ⟨w, B, e1, e2, fun x => !B.getD x false, fun st0 qq hqq hf => Qlm (fn := C.f68) rfl rfl rfl rfl rfl e2 e3 hqq hf, List.filter_congr fun s hs' => ?_⟩
 show (!B.getD (g.ix s) false) = !q s
 rw [show B.getD (g.ix s) false = q s by rw [Bool.eq_iff_iff, hq, e4 s (List.mem_append.2 (.inr hs'))]]
end Go.Am
end
