/- A part of the proof of GrammarsChecked (merged by a program). -/
import Derived.Test.YtehhlchbbdaipaaGreatDoorW6
section
namespace Go.Am
open Go
structure Q0r (st0 st : St) : Prop where
 c : st0.c <= st.c
 hb : HB st
 fr : ∀ p, p < st0.c -> Q0 st.h p = Q0 st0.h p
theorem Q0r.refl {st : St} (hb : HB st) : Q0r st st := ⟨Nat.le_refl _, hb, fun _ _ => rfl⟩
theorem Q0r.trans {a b c : St} (h : Q0r a b) (k : Q0r b c) : Q0r a c := ⟨Nat.le_trans h.c k.c, k.hb, fun p hp => (k.fr p (Nat.lt_of_lt_of_le hp h.c)).trans (h.fr p hp)⟩
theorem Q0r.lo {a b : St} (h : Q0r a b) {l : Nat} : Q0r a { b with lo := l } := ⟨h.c, h.hb, h.fr⟩
theorem Q0r.cons {a : St} {h : Qc} {c c' lo lo' : Nat} {x : Qe} (H : Q0r a ⟨h, c, lo⟩) (hc : c < c') : Q0r a ⟨(c, x) :: h, c', lo'⟩ :=
 ⟨by have : a.c <= c := H.c; show a.c <= c'; omega, HB.cons (h := h) (c := c) (lo := lo) H.hb (by omega) (by omega), fun p hp => by rw [Qu (by have : a.c <= c := H.c; omega)]; exact H.fr p hp⟩
def PredAt (k f : Nat) (a b : List AV) (st0 : St) (p : Str -> Bool) : Prop := ∀ st x, Q0r st0 st -> Q6 E k f (a ++ ([.str x] ++ b)) st = .ret (.bool (p x), st)
theorem PredAt.mono {k f : Nat} {a b : List AV} {st0 st1 : St} {p : Str -> Bool} (H : PredAt k f a b st0 p) (h : Q0r st0 st1) : PredAt k f a b st1 p := fun st x hst => H st x (h.trans hst)
theorem Qe3 {f : Nat} {fn : AFn} (hh : E.hook f = none) (hc : E.code f = some fn) (hp : fn.pol = .pure) (hr : fn.results = [.tmp 3]) (hb : fn.body = C.f138.body)
  {k f' q ty : Nat} {a b : List AV} {st0 : St} {p : Str -> Bool} {ext : Bool} (H : PredAt k f' a b st0 p) (hq : q < st0.c) (hf : Q0 st0.h q = some (.cells ty 1 [.fn (.func f') a b] ext)) :
  PredAt (k + 1) f [] [.pobj q 0] st0 fun x => !p x := by
 intro st x hst
 rw [Q0e hh hc hp, Qg (by simp), hb, hr]
 have r : Q5 st.h (.pobj q 0) = some (.fn (.func f') a b) := by rw [Q4 ((hst.fr q hq).trans hf)]; rfl
 have hc := H ⟨st.h, st.c, st.c⟩ x hst.lo
 simp only [List.singleton_append] at hc
 simp [C.f138, r, hc, Qb, results, Q9]
theorem Q8r {k f : Nat} {w : AV} {r : List Str} {a b : List AV} {st : St} {p : Str -> Bool} (hw : Qr w 1 (strs r)) (hrl : r.length <= 1000) (hb : HB st) (H : PredAt k f a b st p) :
  Q6 E (k + 4) 74 [w, .fn (.func f) a b] st = .ret (.bool (r.all p), st) := by
 rw [Q0e (fn := C.f74) rfl rfl rfl, Qg (by simp)]
 have hb' : ∀ p x, (p, x) ∈ st.h -> p < st.c := hb
 have hbx : Q0z st.c 51 1 (.fn (.func f) a b) = some (.pobj st.c 0, .cells 51 1 [.fn (.func f) a b] false) := rfl
 obtain ⟨S, hS⟩ : ∃ S : St, S = ⟨(st.c, .cells 51 1 [.fn (.func f) a b] false) :: st.h, st.c + 1, st.c⟩ := ⟨_, rfl⟩
 have n1 : newObj st.c (.cells 51 1 [.fn (.func f) a b] false) ⟨st.h, st.c + 1, st.c⟩ = some S := by rw [hS]; exact Qf hb'
 have E1 : Q0r st S := by rw [hS]; exact Q0r.cons (Q0r.refl hb) (by omega)
 have hN : PredAt (k + 1) 138 [] [.pobj st.c 0] S fun x => !p x := Qe3 (fn := C.f138) rfl rfl rfl rfl rfl (H.mono E1) (by rw [hS]; show st.c < st.c + 1; omega) (by rw [hS]; show Q0 ((st.c, _) :: _) _ = _; rw [Q3, if_pos rfl])
 have hc := Q8t (k := k + 1) (n := r.length) (fc := 138) (w := w) (a := []) (b := [.pobj st.c 0]) (el := fun j => r.getD j []) (p := fun j => !p (r.getD j [])) (st := S)
  (by rw [hw.lenS]; simp) (by omega) (fun i hi => ⟨_, hw.idxS hi, by simp [List.getD, hi]⟩) (fun i hi => hN S _ (Q0r.refl E1.hb))
 have e : decide (∃ i, i < r.length /\ (!p (r.getD i [])) = true) = !r.all p := by
  rw [Bool.eq_iff_iff]
  simp only [decide_eq_true_eq, Bool.not_eq_true', List.all_eq_false]
  constructor
  ·rintro ⟨i, hi, h⟩
   exact ⟨r[i], List.getElem_mem hi, by simpa [List.getD, hi] using h⟩
  ·rintro ⟨s, hs, h⟩
   obtain ⟨i, hi, rfl⟩ := List.getElem_of_mem hs
   exact ⟨i, hi, by simpa [List.getD, hi] using h⟩
 rw [e] at hc
 simp [C.f74, hbx, n1, hc, Qb, results, Q9]
def Q0u (K : List Str) : AV := .mval (strs K) (List.replicate K.length (.bool true))
theorem Qqw {K : List Str} {x : Str} {st : St} : Q1w (.one .str) (.bool false) false (Q0u K) (.str x) st = some (.bool (decide (x ∈ K)), st) := by
 rcases Q60 x K with ⟨h1, i, h2, h3⟩ | ⟨h1, h2⟩
 ·simp [Q0u, Q1w, Q2w, Q38, h3, Q3p, h1, List.getElem?_replicate, h2]
 ·simp [Q0u, Q1w, Q2w, Q38, h2, Q3p, h1]
theorem Qlq {k q m : Nat} {K : List Str} {st0 : St} (hq : q < st0.c) (hm : m < st0.c) (hf : Q0 st0.h q = some (.cells 88 1 [.mobj m] false)) (hK : Q0y st0.h m K) :
  PredAt (k + 1) 188 [] [.pobj q 0] st0 fun x => decide (x ∈ K) := by
 intro st x hst
 rw [Q0e (fn := C.f188) rfl rfl rfl, Qg (by simp)]
 have r : Q5 st.h (.pobj q 0) = some (.mobj m) := by rw [Q4 ((hst.fr q hq).trans hf)]; rfl
 have hl := Q0y.look (st := ⟨st.h, st.c, st.c⟩) (hK.frame (hst.fr m hm)) x
 simp [C.f188, r, hl, Qb, results, Q9]
theorem Qcv {k : Nat} {K : List Str} {st0 : St} : PredAt (k + 1) 188 [] [.pval [Q0u K]] st0 fun x => decide (x ∈ K) := by
 intro st x hst
 rw [Q0e (fn := C.f188) rfl rfl rfl, Qg (by simp)]
 simp [C.f188, Qqw, Qb, results, Q9]
theorem Qck {α : Type} {p q : α -> Bool} {l : List α} (h : ∀ x ∈ l, p x = true -> q x = true) {a : α} (ha : a ∈ l) (hp : p a = false) (hq : q a = true) : l.countP p < l.countP q := by
 induction l with
 | nil => cases ha
 | cons x l ih =>
  have hle : l.countP p <= l.countP q := List.countP_mono_left fun y hy => h y (List.mem_cons_of_mem _ hy)
  rcases List.mem_cons.1 ha with e | ha
  ·subst e
   rw [List.countP_cons_of_neg (by simp [hp]), List.countP_cons_of_pos hq]
   omega
  ·have := ih (fun y hy => h y (List.mem_cons_of_mem _ hy)) ha
   rw [List.countP_cons, List.countP_cons]
   have hx := h x (by simp)
   cases h1 : p x with
   | true => rw [hx h1]; omega
   | false => simp; omega
def cnt (g : Q7) (K : List Str) : Nat := g.rules.countP fun r => decide (r.left ∉ K)
theorem cnt_lt {g : Q7} {K K' : List Str} (h : ∀ s, s ∈ K -> s ∈ K') {r : Q0h} (hr : r ∈ g.rules) (h1 : r.left ∉ K) (h2 : r.left ∈ K') : cnt g K' < cnt g K :=
 Qck (fun x _ hx => by
  simp only [decide_eq_true_eq] at hx ⊢
  exact fun hk => hx (h _ hk)) hr (by simp [h2]) (by simp [h1])
def Q7j (b : Str -> Bool) (g : Q7) (s : Str) : Prop := ∃ r ∈ g.rules, r.left = s /\ ∀ x ∈ r.right, Gen (fun x => b x = true) g x
def okR (b : Str -> Bool) (K : List Str) (r : Q0h) : Bool := r.right.all fun s => b s || decide (s ∈ K)
theorem Qx8 {b : Str -> Bool} {K K' : List Str} (h : ∀ s, s ∈ K -> s ∈ K') {r : Q0h} (hr : okR b K r = true) : okR b K' r = true := by
 unfold okR at *
 rw [List.all_eq_true] at *
 intro x hx
 have := hr x hx
 simp only [Bool.or_eq_true, decide_eq_true_eq] at this ⊢
 exact this.imp id (h x)
theorem Qr9 {b : Str -> Bool} {g : Q7} {K : List Str} (hK : ∀ s ∈ K, Q7j b g s) {r : Q0h} (hr : r ∈ g.rules) (h : okR b K r = true) : Q7j b g r.left := by
 refine ⟨r, hr, rfl, fun x hx => ?_⟩
 unfold okR at h
 have := List.all_eq_true.1 h x hx
 simp only [Bool.or_eq_true, decide_eq_true_eq] at this
 rcases this with h | h
 ·exact .base h
 ·obtain ⟨r', h1, h2, h3⟩ := hK x h
  rw [← h2]; exact .rule h1 h3
theorem Qn5 {b : Str -> Bool} {g : Q7} {K : List Str} (hc : ∀ r ∈ g.rules, okR b K r = true -> r.left ∈ K) {s : Str} (h : Q7j b g s) : s ∈ K := by
 have key : ∀ x, Gen (fun x => b x = true) g x -> b x = true ∨ x ∈ K := by
  intro x hx
  induction hx with
  | base h => exact .inl h
  | rule hr _ ih =>
   refine .inr (hc _ hr ?_)
   unfold okR
   rw [List.all_eq_true]
   intro y hy
   simpa using ih y hy
 obtain ⟨r, h1, rfl, h3⟩ := h
 refine hc r h1 ?_
 unfold okR
 rw [List.all_eq_true]
 intro y hy
 simpa using key y (h3 y hy)
end Go.Am
end
section
namespace Go.Am
open Go
def Qcp (k f : Nat) (a b : List AV) (st0 : St) (g : Q7) (bb : Str -> Bool) (q m : Nat) : Prop :=
 ∀ st K i (hi : i < g.rules.length) w, Qr w 1 (strs g.rules[i].right) -> Q0r st0 st -> q < st.c -> m < st.c -> Q0 st.h q = some (.cells 88 1 [.mobj m] false) -> Q0y st.h m K ->
  Q6 E k f (a ++ ([.agg [.str g.rules[i].left, w, .int .i64 g.rules[i].level], .fn (.func 188) [] [.pobj q 0]] ++ b)) st = .ret (.bool (okR bb K g.rules[i]), st)
structure GR (st0 : St) (gs : List AV) (K : List Str) (st : St) : Prop where
 ext : Q0r st0 st
 lo : st.lo = st0.c
 c3 : st0.c + 3 <= st.c
 g0 : Q0 st.h st0.c = some (.cells 29 3 gs false)
 m1 : Q0y st.h (st0.c + 1) K
 k2 : Q0 st.h (st0.c + 2) = some (.cells 88 1 [.mobj (st0.c + 1)] false)
section
variable {k f : Nat} {a b : List AV} {st0 : St} {g : Q7} {bb : Str -> Bool} {kv rv : AV} {l : List AV}
set_option maxHeartbeats 1000000 in
theorem Qku (hr : Qr rv 3 l) (hrs : Q0p l g.rules) (hs : g.Small) (HR : Qcp k f a b st0 g bb (st0.c + 2) (st0.c + 1)) (K0 : List Str) (st : St) (H : GR st0 [kv, .str g.start, rv] K0 st) (hK0 : ∀ s ∈ K0, Q7j bb g s)
  (ts0 : TS) (h1 : ts0.get 1 = .fn (.func f) a b) (h2 : ts0.get 2 = .pobj st0.c 0) (h5 : ts0.get 5 = .pobj (st0.c + 2) 0) (h6 : ts0.get 6 = .fn (.func 188) [] [.pobj (st0.c + 2) 0]) (h7 : ts0.get 7 = .bool false) (h14 : ts0.get 14 = rv) (h15 : ts0.get 15 = .int .i64 (g.rules.length : Int)) (h16 : ts0.get 16 = .int .i64 ((0 : Nat) : Int)) :
  (Q0l (Qn E (Q6 E k) C.f129L1) E.k ts0 st).to fun x => x.1 = .exit 2 /\ x.2.1.get 1 = .fn (.func f) a b /\ x.2.1.get 2 = .pobj st0.c 0 /\ x.2.1.get 5 = .pobj (st0.c + 2) 0 /\ x.2.1.get 6 = .fn (.func 188) [] [.pobj (st0.c + 2) 0] /\ ∃ K more, x.2.1.get 7 = .bool more /\ GR st0 [kv, .str g.start, rv] K x.2.2 /\ (∀ s ∈ K, Q7j bb g s) /\
   ((more = true /\ cnt g K < cnt g K0) ∨ (more = false /\ ∀ r ∈ g.rules, okR bb K r = true -> r.left ∈ K)) := by
 have hln := hrs.length
 have hmany := hs.many
 refine Qs (fun (i : Nat) ts st => i <= g.rules.length /\ ts.get 1 = .fn (.func f) a b /\ ts.get 2 = .pobj st0.c 0 /\ ts.get 5 = .pobj (st0.c + 2) 0 /\ ts.get 6 = .fn (.func 188) [] [.pobj (st0.c + 2) 0] /\ ts.get 14 = rv /\ ts.get 15 = .int .i64 (g.rules.length : Int) /\ ts.get 16 = .int .i64 (i : Int) /\ ∃ K more, ts.get 7 = .bool more /\ GR st0 [kv, .str g.start, rv] K st /\ (∀ s ∈ K, Q7j bb g s) /\
   ((more = true /\ cnt g K < cnt g K0) ∨ (more = false /\ K = K0 /\ ∀ j (hj : j < g.rules.length), j < i -> okR bb K g.rules[j] = true -> g.rules[j].left ∈ K)))
  (fun i => g.rules.length - i) (fun e ts st => e = .exit 2 /\ ts.get 1 = .fn (.func f) a b /\ ts.get 2 = .pobj st0.c 0 /\ ts.get 5 = .pobj (st0.c + 2) 0 /\ ts.get 6 = .fn (.func 188) [] [.pobj (st0.c + 2) 0] /\ ∃ K more, ts.get 7 = .bool more /\ GR st0 [kv, .str g.start, rv] K st /\ (∀ s ∈ K, Q7j bb g s) /\
   ((more = true /\ cnt g K < cnt g K0) ∨ (more = false /\ ∀ r ∈ g.rules, okR bb K r = true -> r.left ∈ K))) ?_ _ 0 _ _ ?_ ?_
 ·rintro i ts st ⟨hi, h1, h2, h5, h6, h14, h15, h16, K, more, h7, H, hK, hM⟩
  by_cases hlt : i < g.rules.length
  ·have hil : i < l.length := by omega
   obtain ⟨w, e1, e2⟩ := (hrs.get i hlt).2
   obtain ⟨h, c, lo⟩ := st
   have hlo : lo = st0.c := H.lo
   subst hlo
   have hb' : ∀ p x, (p, x) ∈ h -> p < c := H.ext.hb
   have hc3 : st0.c + 3 <= c := H.c3
   obtain ⟨rc, hrc⟩ : ∃ rc : List AV, rc = [.str g.rules[i].left, w, .int .i64 g.rules[i].level] := ⟨_, rfl⟩
   obtain ⟨h', hh'⟩ : ∃ h' : Qc, h' = (c, Qe.cells 68 3 rc false) :: h := ⟨_, rfl⟩
   have X1 : Q0r st0 ⟨h', c + 1, st0.c⟩ := by rw [hh']; exact H.ext.cons (by omega)
   have fr : ∀ p, p < c -> Q0 h' p = Q0 h p := fun p hp => by rw [hh', Q3, if_neg (by omega)]
   have hix : Qj 3 rv (.int .i64 (i : Int)) ⟨h, c + 1, st0.c⟩ = some (.pval l[i].cells, ⟨h, c + 1, st0.c⟩) := hr.idx hil
   have hcells : l[i].cells = rc := by rw [e1, hrc]; rfl
   rw [hcells] at hix
   have hn : newObj c (.cells 68 3 [.str [], .snil, .int .i64 0] false) ⟨h, c + 1, st0.c⟩ = some ⟨(c, .cells 68 3 [.str [], .snil, .int .i64 0] false) :: h, c + 1, st0.c⟩ := Qf hb'
   have hst := Q1k (h := h) (c := c) (c' := c + 1) (lo := st0.c) (ty := 68) (n := 3) (zs := [.str [], .snil, .int .i64 0]) (vs := rc) (by omega) (by rw [hrc]; rfl) rfl
   rw [← hh'] at hst
   have hrd3 : Ql h (.pval rc) 3 = some rc := by rw [hrc]; rfl
   have fc : Q0 h' c = some (.cells 68 3 rc false) := by rw [hh', Q3, if_pos rfl]
   have rca : Ql h' (.pobj c 0) 3 = some rc := Qq fc (by rw [hrc]; rfl)
   have rc0 : Q5 h' (.pobj c 0) = some (.str g.rules[i].left) := by rw [Q4 fc, hrc]; rfl
   have k2' := (fr (st0.c + 2) (by omega)).trans H.k2
   have r5 : Q5 h' (.pobj (st0.c + 2) 0) = some (.mobj (st0.c + 1)) := by rw [Q4 k2']; rfl
   have M1 : Q0y (St.mk h' (c + 1) st0.c).h (st0.c + 1) K := H.m1.frame (fr _ (by omega))
   have hlook := M1.look (st := ⟨h', c + 1, st0.c⟩) g.rules[i].left
   have G1 : GR st0 [kv, .str g.start, rv] K ⟨h', c + 1, st0.c⟩ := ⟨X1, rfl, by show st0.c + 3 <= c + 1; omega, (fr _ (by omega)).trans H.g0, M1, k2'⟩
   have hcall := HR ⟨h', c + 1, st0.c⟩ K i hlt w e2 X1 (by show st0.c + 2 < c + 1; omega) (by show st0.c + 1 < c + 1; omega) k2' M1
   rw [← hrc] at hcall
   have hnext : ∀ j (hj : j < g.rules.length), j < i + 1 -> (∀ j (hj : j < g.rules.length), j < i -> okR bb K g.rules[j] = true -> g.rules[j].left ∈ K) -> (okR bb K g.rules[i] = true -> g.rules[i].left ∈ K) -> okR bb K g.rules[j] = true -> g.rules[j].left ∈ K := fun j hj hji hall hthis => by
    rcases Nat.lt_or_ge j i with h | h
    ·exact hall j hj h
    ·have : j = i := by omega
     subst this; exact hthis
   by_cases hin : g.rules[i].left ∈ K
   ·rw [decide_eq_true hin] at hlook
    simp [-Bool.exists_bool, C.f129L1, Q05, Qy, h1, h2, h5, h6, h7, h14, h15, h16, hlt, hix, -Q0i, hrd3, hn, hst, r5, rc0, hlook, wrap64 (n := (i : Int) + 1) (by omega) (by omega)]
    refine ⟨i + 1, by omega, by omega, by simp, K, G1, hK, ?_⟩
    rcases hM with ⟨m1, m2⟩ | ⟨m1, m2, m3⟩
    ·exact .inl ⟨m1, m2⟩
    ·exact .inr ⟨m1, m2, fun j hj hji => hnext j hj hji m3 fun _ => hin⟩
   ·rw [decide_eq_false hin] at hlook
    cases hok : okR bb K g.rules[i] with
    | false =>
     rw [hok] at hcall
     simp only [List.cons_append, List.nil_append] at hcall
     simp [-Bool.exists_bool, C.f129L1, Q05, Qy, h1, h2, h5, h6, h7, h14, h15, h16, hlt, hix, -Q0i, hrd3, hn, hst, r5, rc0, rca, hlook, hcall, wrap64 (n := (i : Int) + 1) (by omega) (by omega)]
     refine ⟨i + 1, by omega, by omega, by simp, K, G1, hK, ?_⟩
     rcases hM with ⟨m1, m2⟩ | ⟨m1, m2, m3⟩
     ·exact .inl ⟨m1, m2⟩
     ·exact .inr ⟨m1, m2, fun j hj hji => hnext j hj hji m3 fun h => by rw [hok] at h; cases h⟩
    | true =>
     rw [hok] at hcall
     simp only [List.cons_append, List.nil_append] at hcall
     obtain ⟨ob, K', p1, p2, p3, p4⟩ := M1.put (st := ⟨h', c + 1, st0.c⟩) (by show st0.c <= st0.c + 1; omega) g.rules[i].left
     simp only at p1 p2 p4
     simp [-Bool.exists_bool, C.f129L1, Q05, Qy, h1, h2, h5, h6, h7, h14, h15, h16, hlt, hix, -Q0i, hrd3, hn, hst, r5, rc0, rca, hlook, hcall, p1, wrap64 (n := (i : Int) + 1) (by omega) (by omega)]
     have hmem : g.rules[i] ∈ g.rules := List.getElem_mem hlt
     have hlt' : cnt g K' < cnt g K := cnt_lt (fun s hs => (p3 s).2 (.inr hs)) hmem hin ((p3 _).2 (.inl rfl))
     refine ⟨i + 1, by omega, by omega, by simp, K', ⟨⟨X1.c, HB.hset (st := ⟨h', c + 1, st0.c⟩) X1.hb, fun p hp => (p4 p (by omega)).trans (X1.fr p hp)⟩, rfl, G1.c3, (p4 _ (by omega)).trans G1.g0, p2, (p4 _ (by omega)).trans G1.k2⟩, fun s hs => ?_, ?_⟩
     ·rcases (p3 s).1 hs with e | h
      ·rw [e]; exact Qr9 hK hmem hok
      ·exact hK s h
     ·rcases hM with ⟨m1, m2⟩ | ⟨m1, m2, m3⟩
      ·omega
      ·rw [← m2]; exact hlt'
  ·have : i = g.rules.length := by omega
   subst this
   simp [-Bool.exists_bool, C.f129L1, h1, h2, h5, h6, h7, h14, h15, h16]
   refine ⟨K, H, hK, ?_⟩
   rcases hM with ⟨m1, m2⟩ | ⟨m1, m2, m3⟩
   ·exact .inl ⟨m1, m2⟩
   ·refine .inr ⟨m1, fun r hr => ?_⟩
    obtain ⟨j, hj, rfl⟩ := List.getElem_of_mem hr
    exact m3 j hj hj
 ·show g.rules.length - 0 < 1000000; omega
 ·exact ⟨by omega, h1, h2, h5, h6, h14, h15, h16, K0, false, h7, H, hK0, .inr ⟨rfl, rfl, fun j _ h => by omega⟩⟩
theorem Qkt (hr : Qr rv 3 l) (hrs : Q0p l g.rules) (hs : g.Small) (HR : Qcp k f a b st0 g bb (st0.c + 2) (st0.c + 1)) (st : St) (H : GR st0 [kv, .str g.start, rv] [] st)
  (ts0 : TS) (h1 : ts0.get 1 = .fn (.func f) a b) (h2 : ts0.get 2 = .pobj st0.c 0) (h5 : ts0.get 5 = .pobj (st0.c + 2) 0) (h6 : ts0.get 6 = .fn (.func 188) [] [.pobj (st0.c + 2) 0]) (h7 : ts0.get 7 = .bool true) :
  (Q0l (Qn E (Q6 E k) C.f129L0) E.k ts0 st).to fun x => x.1 = .exit 0 /\ x.2.1.get 6 = .fn (.func 188) [] [.pobj (st0.c + 2) 0] /\ ∃ K, GR st0 [kv, .str g.start, rv] K x.2.2 /\ ∀ s, s ∈ K ↔ Q7j bb g s := by
 have hln := hrs.length
 have hmany := hs.many
 have hcnt : cnt g [] <= g.rules.length := List.countP_le_length
 refine Qs (fun (n : Nat) ts st => ts.get 1 = .fn (.func f) a b /\ ts.get 2 = .pobj st0.c 0 /\ ts.get 5 = .pobj (st0.c + 2) 0 /\ ts.get 6 = .fn (.func 188) [] [.pobj (st0.c + 2) 0] /\ ∃ K more, ts.get 7 = .bool more /\ GR st0 [kv, .str g.start, rv] K st /\ (∀ s ∈ K, Q7j bb g s) /\
   ((more = true /\ cnt g K < n) ∨ (more = false /\ ∀ r ∈ g.rules, okR bb K r = true -> r.left ∈ K)))
  (fun n => n) (fun e ts st => e = .exit 0 /\ ts.get 6 = .fn (.func 188) [] [.pobj (st0.c + 2) 0] /\ ∃ K, GR st0 [kv, .str g.start, rv] K st /\ ∀ s, s ∈ K ↔ Q7j bb g s) ?_ _ (g.rules.length + 1) _ _ ?_ ?_
 ·rintro n ts st ⟨h1, h2, h5, h6, K, more, h7, H, hK, hM⟩
  rcases hM with ⟨rfl, m2⟩ | ⟨rfl, m2⟩
  ·have r2 : Q5 st.h (.pobj st0.c 2) = some rv := by rw [Q4 H.g0]; rfl
   have hlr : ∀ S' : St, Qw .slice rv S' = some (.int .i64 (g.rules.length : Int), S') := fun S' => by have := hr.len (st := S'); rw [this, hln]
   simp [-Bool.exists_bool, C.f129L0, h1, h2, h5, h6, h7, r2, hlr]
   refine M.to_bind (Qku hr hrs hs HR K st H hK _ (by simp [h1]) (by simp [h2]) (by simp [h5]) (by simp [h6]) (by simp) (by simp) (by simp) (by simp)) fun x hx => ?_
   obtain ⟨e, ts1, st1⟩ := x
   obtain ⟨e1, g1, g2, g5, g6, K', more', g7, H', hK', hM'⟩ := hx
   simp only at e1 g1 g2 g5 g6 g7 H'
   subst e1
   simp [-Bool.exists_bool, g1, g2, g5, g6, g7]
   rcases hM' with ⟨rfl, m3⟩ | ⟨rfl, m3⟩
   ·exact ⟨cnt g K, m2, K', H', hK', .inl ⟨rfl, m3⟩⟩
   ·exact ⟨cnt g K, m2, K', H', hK', .inr ⟨rfl, m3⟩⟩
  ·simp [-Bool.exists_bool, C.f129L0, h1, h2, h5, h6, h7]
   exact ⟨K, H, fun s => ⟨hK s, Qn5 m2⟩⟩
 ·show g.rules.length + 1 < 1000000; omega
 ·exact ⟨h1, h2, h5, h6, [], true, h7, H, (fun s h => by cases h), .inl ⟨rfl, by omega⟩⟩
end
theorem Q7.fill {k f : Nat} {a b : List AV} {v : AV} {g : Q7} {bb : Str -> Bool} {st : St} (hg : Q02 v g) (hs : g.Small) (hb : HB st) (HR : Qcp k f a b st g bb (st.c + 2) (st.c + 1)) :
  ∃ K, Q6 E (k + 1) 129 [v, .fn (.func f) a b] st = .ret (.fn (.func 188) [] [.pval [Q0u K]], st) /\ ∀ s, s ∈ K ↔ Q7j bb g s := by
 obtain ⟨kv, rv, l, rfl, hk, hr, hrs⟩ := hg
 rw [Q0e (fn := C.f129) rfl rfl rfl, Qg (by simp)]
 have goal : ((Qn E (Q6 E k) C.f129.body (TS.ofArgs [.agg [kv, .str g.start, rv], .fn (.func f) a b] 0 .nil) { st with lo := st.c }).bind (Qb C.f129.results)).to fun x => ∃ K, x.1 = .fn (.func 188) [] [.pobj (st.c + 2) 0] /\ GR st [kv, .str g.start, rv] K x.2 /\ ∀ s, s ∈ K ↔ Q7j bb g s := by
  have hb' : ∀ p x, (p, x) ∈ st.h -> p < st.c := hb
  have hbx : Q0z st.c 29 3 (.agg [kv, .str g.start, rv]) = some (.pobj st.c 0, .cells 29 3 [kv, .str g.start, rv] false) := rfl
  obtain ⟨h1, hh1⟩ : ∃ h : Qc, h = (st.c, Qe.cells 29 3 [kv, .str g.start, rv] false) :: st.h := ⟨_, rfl⟩
  have n1 : newObj st.c (.cells 29 3 [kv, .str g.start, rv] false) ⟨st.h, st.c + 1, st.c⟩ = some ⟨h1, st.c + 1, st.c⟩ := by rw [hh1]; exact Qf hb'
  have X1 : Q0r st ⟨h1, st.c + 1, st.c⟩ := by rw [hh1]; exact (Q0r.refl hb).cons (by omega)
  obtain ⟨h2, hh2⟩ : ∃ h : Qc, h = (st.c + 1, Qe.map [] [] [] 0) :: h1 := ⟨_, rfl⟩
  have n2 : newObj (st.c + 1) (.map [] [] [] 0) ⟨h1, st.c + 3, st.c⟩ = some ⟨h2, st.c + 3, st.c⟩ := by rw [hh2]; exact Qf X1.hb
  have X2 : Q0r st ⟨h2, st.c + 2, st.c⟩ := by rw [hh2]; exact X1.cons (by omega)
  obtain ⟨h3, hh3⟩ : ∃ h : Qc, h = (st.c + 2, Qe.cells 88 1 [.mobj (st.c + 1)] false) :: h2 := ⟨_, rfl⟩
  have n3 : newObj (st.c + 2) (.cells 88 1 [.mnil] false) ⟨h2, st.c + 3, st.c⟩ = some ⟨(st.c + 2, .cells 88 1 [.mnil] false) :: h2, st.c + 3, st.c⟩ := Qf X2.hb
  have s3 : Q0n 1 (.pobj (st.c + 2) 0) (.mobj (st.c + 1)) ⟨(st.c + 2, .cells 88 1 [.mnil] false) :: h2, st.c + 3, st.c⟩ = some (.undef, ⟨h3, st.c + 3, st.c⟩) := by
   rw [Q07 (cs := [.mnil]) (ty := 88) (sz := 1) (ext := false) (by rw [Q3, if_pos rfl]) (by show st.c <= st.c + 2; omega) (by simp) rfl rfl, hh3]
   simp [hset]
  have X3 : Q0r st ⟨h3, st.c + 3, st.c⟩ := by rw [hh3]; exact X2.cons (by omega)
  have G0 : GR st [kv, .str g.start, rv] [] ⟨h3, st.c + 3, st.c⟩ := by
   refine ⟨X3, rfl, Nat.le_refl _, ?_, ⟨[], 0, ?_⟩, ?_⟩
   ·show Q0 h3 st.c = _; rw [hh3, Qu (by omega), hh2, Qu (by omega), hh1, Q3, if_pos rfl]
   ·show Q0 h3 (st.c + 1) = _; rw [hh3, Qu (by omega), hh2, Q3, if_pos rfl]; rfl
   ·show Q0 h3 (st.c + 2) = _; rw [hh3, Q3, if_pos rfl]
  simp [C.f129, hbx, n1, n2, n3, s3]
  refine M.to_bind (Qkt hr hrs hs HR _ G0 _ (by simp) (by simp) (by simp) (by simp) (by simp)) fun x hx => ?_
  obtain ⟨e, ts1, st1⟩ := x
  obtain ⟨e1, g6, K, H, hK⟩ := hx
  simp only at e1 g6 H
  subst e1
  simp [Qb, results, Q9, g6]
  exact ⟨K, H, hK⟩
 obtain ⟨⟨v, st'⟩, h1, K, h2, H, hK⟩ := goal
 simp only at h2 H
 subst h2
 refine ⟨K, ?_, hK⟩
 rw [h1]
 obtain ⟨bs, clock, hm⟩ := H.m1
 have hold2 : AV.old st.c (.fn (.func 188) [] [.pobj (st.c + 2) 0]) = false := by simp [AV.old, AV.olds, Qm]
 have hth : thaw st.c st'.h 64 (.fn (.func 188) [] [.pobj (st.c + 2) 0]) = some (.fn (.func 188) [] [.pval [Q0u K]]) := by
  have t1 : thaw st.c st'.h 62 (.mobj (st.c + 1)) = some (Q0u K) := by
   have ho : AV.old st.c (.mobj (st.c + 1)) = false := by simp [AV.old, Qm]
   unfold thaw
   rw [ho]
   simp only [cond_false, hm]
   have hk : thaws (thaw st.c st'.h 61) (strs K) = some (strs K) := Q1u (n := 60) (Q20 _ _)
   have hv : thaws (thaw st.c st'.h 61) (List.replicate K.length (.bool true)) = some (List.replicate K.length (.bool true)) := Q1u (n := 60) (by
    generalize K.length = n
    induction n with
    | zero => rfl
    | succ n ih => simp [List.replicate_succ, AV.olds, AV.old, ih])
   simp only [hk, hv, Q0u]
  have t2 : thaw st.c st'.h 63 (.pobj (st.c + 2) 0) = some (.pval [Q0u K]) := by
   have ho : AV.old st.c (.pobj (st.c + 2) 0) = false := by simp [AV.old, Qm]
   unfold thaw
   rw [ho]
   simp only [cond_false, H.k2, Qi, List.drop_zero, thaws, t1]
   simp
  unfold thaw
  rw [hold2]
  simp only [cond_false, thaws, t2]
 simp only [M.ret_bind, Qt, Q0c, hth]
end Go.Am
end
section
namespace Go.Am
open Go
theorem PredAt.more {k f : Nat} {a b : List AV} {st0 : St} {p : Str -> Bool} (H : PredAt k f a b st0 p) (j : Nat) : PredAt (k + j) f a b st0 p := fun st x hst => Qff (H st x hst) j
theorem Qfr {k n fc : Nat} {w : AV} {a b : List AV} {el : Nat -> Str} {p : Nat -> Bool} {st : St} (hlen : Q0k w = some n) (hn : n < 1000000)
  (hat : ∀ i, i < n -> ∃ q, Qj 1 w (.int .i64 (i : Int)) st = some (q, st) /\ Q5 st.h q = some (.str (el i)))
  (hcall : ∀ i, i < n -> Q6 E k fc (a ++ ([.str (el i)] ++ b)) st = .ret (.bool (p i), st)) :
  (Q6 E (k + 1) 91 [w, .fn (.func fc) a b] st = .ret (.int .i64 (-1), st) /\ ∀ j, j < n -> p j = false) ∨ ∃ i : Nat, i < n /\ p i = true /\ (∀ j, j < i -> p j = false) /\ Q6 E (k + 1) 91 [w, .fn (.func fc) a b] st = .ret (.int .i64 (i : Int), st) := by
 have main : (Q12 E (Q6 E k) C.f91 [w, .fn (.func fc) a b] st).to fun x => (x = (.int .i64 (-1), st) /\ ∀ j, j < n -> p j = false) ∨ ∃ i : Nat, i < n /\ p i = true /\ (∀ j, j < i -> p j = false) /\ x = (.int .i64 (i : Int), st) := by
  rw [Qg (by simp)]
  simp [C.f91, Qw, hlen]
  refine M.to_bind (Qs (fun (i : Nat) ts st' => st' = st /\ i <= n /\ ts.get 0 = w /\ ts.get 1 = .fn (.func fc) a b /\ ts.get 7 = .int .i64 (n : Int) /\ ts.get 8 = .int .i64 (i : Int) /\ ∀ j, j < i -> p j = false)
   (fun i => n - i) (fun e ts st' => st' = st /\ ((e = .exit 0 /\ ∀ j, j < n -> p j = false) ∨ (e = .ret /\ ∃ i : Nat, i < n /\ p i = true /\ (∀ j, j < i -> p j = false) /\ ts.get 4 = .int .i64 (i : Int)))) ?step _ 0 _ _ ?_ ?_) ?_
  case step =>
   rintro i ts st' ⟨rfl, hi, h0, h1, h7, h8, hj⟩
   by_cases hlt : i < n
   ·obtain ⟨q, a1, b1⟩ := hat i hlt
    have hc := hcall i hlt
    simp only [List.singleton_append] at hc
    cases hp : p i with
    | true =>
     rw [hp] at hc
     simp [C.f91L0, h0, h1, h7, h8, hlt, a1, b1, hc]
     exact ⟨i, hlt, hp, hj, rfl⟩
    | false =>
     rw [hp] at hc
     simp [C.f91L0, h0, h1, h7, h8, hlt, a1, b1, hc, wrap64 (n := (i : Int) + 1) (by omega) (by omega)]
     refine ⟨i + 1, by omega, by omega, by simp, fun j hji => ?_⟩
     by_cases e : j = i
     ·subst e; exact hp
     ·exact hj j (by omega)
   ·have : i = n := by omega
    subst this
    simp [C.f91L0, h0, h1, h7, h8]
    exact hj
  ·show n - 0 < 1000000; omega
  ·simp
  ·rintro ⟨e, ts, st'⟩ ⟨rfl, h⟩
   rcases h with ⟨rfl, h⟩ | ⟨rfl, i, hi, hp, hj, h4⟩
   ·simp [Qb, results, Q9]
    exact h
   ·simp [h4, Qb, results, Q9]
    exact ⟨i, hi, hp, hj, rfl⟩
 rw [Qp (fn := C.f91) rfl rfl rfl]
 obtain ⟨x, h1, ⟨rfl, h2⟩ | ⟨i, hi, hp, hj, rfl⟩⟩ := main
 ·exact .inl ⟨h1, h2⟩
 ·exact .inr ⟨i, hi, hp, hj, h1⟩
theorem Qpk {st : St} {id k m : Nat} {cs : List AV} {ext : Bool} (hf : Q0 st.h id = some (.cells 9 1 cs ext)) (hlo : st.lo <= id) (hk : k + m <= cs.length) :
  ∃ rest, (Q28 [.str []] (.sobj id k m none) st = some (.tuple [], { st with h := hset st.h id (.cells 9 1 (cs.take k ++ rest) ext) })) ∨ (Q28 [.str []] (.sobj id k m none) st = some (.tuple [], st) /\ cs = cs.take k ++ rest) := by
 by_cases h0 : m = 0
 ·exact ⟨cs.drop k, .inr ⟨by simp [Q28, h0, beq_eq], by simp⟩⟩
 ·have hl := Qaa [.str []] m
  simp only [List.length_cons, List.length_nil] at hl
  have hb : Nat.blt id st.lo = false := by rw [Qm]; simp; omega
  refine ⟨Q0x [.str []] m ++ cs.drop (k + (Q0x [.str []] m).length), .inl ?_⟩
  simp [Q28, beq_eq, h0, hf, Q0m, hb, Qi, hl, splice, hk]
section
variable {id : Nat} {ext : Bool} {U : List Str} {rest : List AV} {st0 : St} {p : Str -> Bool}
structure Del (id : Nat) (ext : Bool) (U : List Str) (rest : List AV) (p : Str -> Bool) (st0 : St) (i j : Nat) (D : List Str) (st : St) : Prop where
 at_ : Q0 st.h id = some (.cells 9 1 (strs D ++ rest) ext)
 len : D.length = U.length
 only : Q7h id st0 st
 ij : i < j
 jn : j <= U.length
 front : D.take i = (U.take j).filter fun s => !p s
 same : ∀ q, j <= q -> D.getD q [] = U.getD q []
theorem Qsu {k f : Nat} {a b : List AV} {s0 : St} (hX : Q0r s0 st0) (hid : s0.c <= id) (HP : PredAt k f a b s0 p) (hf : Q0 st0.h id = some (.cells 9 1 (strs U ++ rest) ext)) (hlo : st0.lo <= id) (hn : U.length <= 1000) :
  (Q6 E (k + 2) 127 [.sobj id 0 U.length none, .fn (.func f) a b] st0).to fun x => Q7h id st0 x.2 /\ Got x.2.h id x.1 (U.filter fun s => !p s) := by
 rw [Qp (fn := C.f127) rfl rfl rfl, Qg (by simp)]
 have rd : ∀ {st : St} {D : List Str} {q : Nat}, Q0 st.h id = some (.cells 9 1 (strs D ++ rest) ext) -> q < D.length -> Q5 st.h (.pobj id q) = some (.str (D.getD q [])) := fun hf hq => by
  rw [Q4 hf, List.getElem?_append_left (by simpa using hq), strs_get? _ _ hq]
 have hidx := Qfr (k := k) (n := U.length) (fc := f) (w := .sobj id 0 U.length none) (a := a) (b := b) (el := fun i => U.getD i []) (p := fun i => p (U.getD i [])) (st := st0) rfl (by omega) (fun i hi => ⟨_, Q1h hf hi, rd hf hi⟩) (fun i hi => HP st0 _ hX)
 rcases hidx with ⟨h1, hall⟩ | ⟨i0, hi0, hp0, hj0, h1⟩
 ·simp [C.f127, h1, Qb, results, Q9]
  have : U.filter (fun s => !p s) = U := List.filter_eq_self.2 fun s hs => by
   obtain ⟨i, hi, rfl⟩ := List.getElem_of_mem hs
   have := hall i hi
   simpa [List.getD, hi] using this
  rw [this]
  exact ⟨.refl, rest, ext, rfl, hf⟩
 ·have hne : ((i0 : Int) == -1) = false := by simp only [beq_eq_false_iff_ne, ne_eq]; omega
  have D0 : Del id ext U rest p st0 i0 (i0 + 1) U st0 := by
   refine ⟨hf, rfl, .refl, by omega, by omega, ?_, fun _ _ => rfl⟩
   rw [List.take_succ_eq_append_getElem hi0, List.filter_append]
   have e0 : U.getD i0 [] = U[i0] := by simp [List.getD, hi0]
   rw [e0] at hp0
   have : (U.take i0).filter (fun s => !p s) = U.take i0 := List.filter_eq_self.2 fun s hs => by
    obtain ⟨i, hi, rfl⟩ := List.getElem_of_mem hs
    rw [List.length_take] at hi
    have := hj0 i (by omega)
    have e : U.getD i [] = U[i]'(by omega) := by simp [List.getD, show i < U.length by omega]
    rw [e] at this
    simpa using this
   rw [this]; simp [hp0]
  simp [C.f127, h1, hne, wrap64 (n := (i0 : Int) + 1) (by omega) (by omega)]
  refine M.to_bind (Qs (fun (j : Nat) ts st => ts.get 0 = .sobj id 0 U.length none /\ ts.get 1 = .fn (.func f) a b /\ ts.get 6 = .int .i64 (j : Int) /\ ∃ (i : Nat) (D : List Str), ts.get 5 = .int .i64 (i : Int) /\ Del id ext U rest p st0 i j D st)
   (fun j => U.length - j) (fun e ts st => e = .exit 0 /\ ts.get 0 = .sobj id 0 U.length none /\ ∃ (i : Nat) (D : List Str), ts.get 5 = .int .i64 (i : Int) /\ Del id ext U rest p st0 i U.length D st) ?step _ (i0 + 1) _ _ ?_ ?_) ?_
  case step =>
   rintro j ts st ⟨h0, h1, h6, i, D, h5, H⟩
   have hlen := H.len
   have hij := H.ij
   have hjn := H.jn
   have hlenS : ∀ S : St, Qw .slice (.sobj id 0 U.length none) S = some (.int .i64 (U.length : Int), S) := fun S => rfl
   by_cases hlt : j < U.length
   ·obtain ⟨x, hx⟩ : ∃ x, U.getD j [] = x := ⟨_, rfl⟩
    have rdx := rd H.at_ (show j < D.length by omega)
    rw [H.same j (by omega), hx] at rdx
    have hX' : Q0r s0 st := ⟨by rw [H.only.c]; exact hX.c, H.only.hb hX.hb, fun q hq => (H.only.fr q (by omega)).trans (hX.fr q hq)⟩
    have hc := HP.more 1 st x hX'
    simp only [List.singleton_append] at hc
    have htk : (U.take (j + 1)).filter (fun s => !p s) = (U.take j).filter (fun s => !p s) ++ (if p x then [] else [x]) := by
     have e : U.getD j [] = U[j] := by simp [List.getD, hlt]
     rw [List.take_succ_eq_append_getElem hlt, List.filter_append, ← e, hx]
     cases hp : p x <;> simp [hp]
    cases hp : p x with
    | true =>
     rw [hp] at hc htk
     simp [C.f127L0, h0, h1, h5, h6, hlenS, hlt, Q1h H.at_ hlt, rdx, hc, wrap64 (n := (j : Int) + 1) (by omega) (by omega)]
     exact ⟨j + 1, by omega, by simp, i, rfl, D, H.at_, H.len, H.only, by omega, by omega, by rw [htk, H.front]; simp, fun q hq => H.same q (by omega)⟩
    | false =>
     rw [hp] at hc htk
     have s1 := Q07 (st := st) (off := i) (v := .str x) H.at_ (by rw [H.only.lo]; exact hlo) (by simp; omega) rfl rfl
     rw [List.set_append_left _ _ (by simp; omega), Qa3] at s1
     simp [C.f127L0, h0, h1, h5, h6, hlenS, hlt, Q1h H.at_ hlt, rdx, hc, Q1h H.at_ (show i < U.length by omega), s1, wrap64 (n := (j : Int) + 1) (by omega) (by omega), wrap64 (n := (i : Int) + 1) (by omega) (by omega)]
     refine ⟨j + 1, by omega, by simp, i + 1, by simp, D.set i x, ?_, by simpa using H.len, H.only.hset H.at_, by omega, by omega, ?_, fun q hq => ?_⟩
     ·show Q0 (hset _ _ _) _ = _
      rw [Q8 H.at_, if_pos rfl]
     ·rw [htk, List.take_succ_eq_append_getElem (by simp; omega), List.take_set_of_le (Nat.le_refl i), H.front]; simp
     ·rw [Q3i (by omega), if_neg (by omega)]; exact H.same q (by omega)
   ·have : j = U.length := by omega
    subst this
    simp [C.f127L0, h0, h1, h5, h6, hlenS]
    exact ⟨i, rfl, D, H⟩
  ·show U.length - (i0 + 1) < 1000000; omega
  ·exact ⟨by simp, by simp, by simp, i0, U, by simp, D0⟩
  ·rintro ⟨e, ts, st1⟩ ⟨e1, g0, i, D, g5, H⟩
   simp only at e1 g0 g5 H
   subst e1
   have hlen := H.len
   have hij := H.ij
   have sf := Qa8 (st := st1) (k := i) (n := U.length) (off := 0) H.at_ (by omega) (by simp; omega)
   rw [Nat.zero_add] at sf
   have hfr : D.take i = U.filter fun s => !p s := by have := H.front; rwa [List.take_length] at this
   have hli : (U.filter fun s => !p s).length = i := by rw [← hfr, List.length_take]; omega
   obtain ⟨rest', hcl | ⟨hcl, hcs⟩⟩ := Qpk (st := st1) (k := i) (m := U.length - i) H.at_ (by rw [H.only.lo]; exact hlo) (by simp; omega)
   ·have htk : (strs D ++ rest).take i = strs (U.filter fun s => !p s) := by
     rw [List.take_append_of_le_length (by simp; omega), ← hfr]; simp [strs, List.map_take]
    rw [htk] at hcl
    have f1 : Q0 (hset st1.h id (.cells 9 1 (strs (U.filter fun s => !p s) ++ rest') ext)) id = some (.cells 9 1 (strs (U.filter fun s => !p s) ++ rest') ext) := by rw [Q8 H.at_, if_pos rfl]
    have st2 := Qa7 (st := { st1 with h := hset st1.h id (.cells 9 1 (strs (U.filter fun s => !p s) ++ rest') ext) }) (k := i) (n := U.length) (off := 0) f1 (by simp; omega)
    simp [g0, g5, sf, hcl, st2, Qb, results, Q9]
    exact ⟨H.only.hset H.at_, rest', ext, by rw [hli], f1⟩
   ·have htk : (strs D ++ rest).take i = strs (U.filter fun s => !p s) := by
     rw [List.take_append_of_le_length (by simp; omega), ← hfr]; simp [strs, List.map_take]
    rw [htk] at hcs
    have st2 := Qa7 (st := st1) (k := i) (n := U.length) (off := 0) H.at_ (by simp; omega)
    simp [g0, g5, sf, hcl, st2, Qb, results, Q9]
    exact ⟨H.only, rest', ext, by rw [hli], by rw [← hcs]; exact H.at_⟩
end
theorem Q8d {k f : Nat} {a b : List AV} {v : AV} {g : Q7} {st : St} {p : Str -> Bool} (hg : Q02 v g) (hs : g.Small) (h0 : 0 < g.rules.length) (hb : HB st) (HP : PredAt (k + 3) f a b st p) :
  ∃ w, Q6 E (k + 7) 61 [v, .fn (.func f) a b] st = .ret (w, st) /\ Qr w 1 (strs (g.lefts.filter p)) := by
 have hg' := hg
 obtain ⟨kv, rv, l, rfl, hk, hr, hrs⟩ := hg'
 rw [Q0e (fn := C.f61) rfl rfl rfl, Qg (by simp)]
 have goal : ((Qn E (Q6 E (k + 6)) C.f61.body (TS.ofArgs [.agg [kv, .str g.start, rv], .fn (.func f) a b] 0 .nil) { st with lo := st.c }).bind (Qb C.f61.results)).to fun x => ∃ id, st.c <= id /\ Got x.2.h id x.1 (g.lefts.filter p) := by
  have hb' : ∀ p x, (p, x) ∈ st.h -> p < st.c := hb
  have hbx : Q0z st.c 29 3 (.agg [kv, .str g.start, rv]) = some (.pobj st.c 0, .cells 29 3 [kv, .str g.start, rv] false) := rfl
  have hbx2 : Q0z (st.c + 1) 51 1 (.fn (.func f) a b) = some (.pobj (st.c + 1) 0, .cells 51 1 [.fn (.func f) a b] false) := rfl
  obtain ⟨h1, hh1⟩ : ∃ h : Qc, h = (st.c, Qe.cells 29 3 [kv, .str g.start, rv] false) :: st.h := ⟨_, rfl⟩
  have n1 : newObj st.c (.cells 29 3 [kv, .str g.start, rv] false) ⟨st.h, st.c + 2, st.c⟩ = some ⟨h1, st.c + 2, st.c⟩ := by rw [hh1]; exact Qf hb'
  have X1 : Q0r st ⟨h1, st.c + 1, st.c⟩ := by rw [hh1]; exact (Q0r.refl hb).cons (by omega)
  obtain ⟨h2, hh2⟩ : ∃ h : Qc, h = (st.c + 1, Qe.cells 51 1 [.fn (.func f) a b] false) :: h1 := ⟨_, rfl⟩
  have n2 : newObj (st.c + 1) (.cells 51 1 [.fn (.func f) a b] false) ⟨h1, st.c + 2, st.c⟩ = some ⟨h2, st.c + 2, st.c⟩ := by rw [hh2]; exact Qf X1.hb
  have X2 : Q0r st ⟨h2, st.c + 2, st.c⟩ := by rw [hh2]; exact X1.cons (by omega)
  have f0 : Q0 h2 st.c = some (.cells 29 3 [kv, .str g.start, rv] false) := by rw [hh2, Qu (by omega), hh1, Q3, if_pos rfl]
  have f1 : Q0 h2 (st.c + 1) = some (.cells 51 1 [.fn (.func f) a b] false) := by rw [hh2, Q3, if_pos rfl]
  have rg : Ql h2 (.pobj st.c 0) 3 = some [kv, .str g.start, rv] := Qq f0 rfl
  have hN : PredAt (k + 3 + 1) 128 [] [.pobj (st.c + 1) 0] ⟨h2, st.c + 2, st.c⟩ fun x => !p x := Qe3 (fn := C.f128) rfl rfl rfl rfl rfl (HP.mono X2) (by show st.c + 1 < st.c + 2; omega) f1
  have hL := Qdl (k := k) (st := ⟨h2, st.c + 2, st.c⟩) hg hs h0 X2.hb (by show st.c <= st.c + 2; omega)
  simp [C.f61, hbx, hbx2, n1, n2, rg]
  refine M.to_bind hL fun x hx => ?_
  obtain ⟨w1, st1⟩ := x
  obtain ⟨O, id, hid, hid2, rest, ext, rfl, hf⟩ := hx
  simp only at O hid2 hf
  have hid' : st.c + 2 <= id := hid
  have hX1 : Q0r ⟨h2, st.c + 2, st.c⟩ st1 := ⟨O.c, O.hb, O.fr⟩
  have hln : g.lefts.length <= 1000 := by
   have hm := hs.many
   have h1 : g.lefts.length <= g.rules.length := by
    unfold Q7.lefts
    rw [← List.length_map (f := fun r : Q0h => r.left)]
    generalize g.rules.map (fun r => r.left) = L
    induction L with
    | nil => simp [Q49]
    | cons x L ih =>
     show (Q4j x (Q49 L)).length <= L.length + 1
     have : ∀ M : List Str, (Q4j x M).length <= M.length + 1 := by
      intro M
      induction M with
      | nil => simp [Q4j]
      | cons y M ih => unfold Q4j; split <;> simp_all <;> split <;> simp_all
     have := this (Q49 L); omega
   omega
  have hD := Qsu (k := k + 4) (p := fun x => !p x) hX1 hid' hN hf (by rw [O.lo]; show st.c <= id; omega) hln
  simp
  refine M.to_bind hD fun x hx => ?_
  obtain ⟨w2, st2⟩ := x
  obtain ⟨On, G⟩ := hx
  simp only at On G
  simp [Qb, results, Q9]
  have e : (fun s => !!p s) = p := by funext s; simp
  rw [e] at G
  exact ⟨id, by omega, G⟩
 obtain ⟨⟨w, st'⟩, h1, id, hid, G⟩ := goal
 obtain ⟨w', g1, g2⟩ := G.thaw (c := st.c) hid
 exact ⟨w', by rw [h1]; simp only [M.ret_bind, Qt, Q0c, g2 64 (by omega)], g1⟩
end Go.Am
end
section
namespace Go.Am
open Go
theorem Q3a {h : Qc} {c c' lo ty n : Nat} {cs : List AV} (hb : HB ⟨h, c, lo⟩) : newObj c (.cells ty n cs false) ⟨h, c', lo⟩ = some ⟨(c, .cells ty n cs false) :: h, c', lo⟩ := Qf hb
theorem Ql2 {k : Nat} {st0 : St} {g : Q7} (hs : g.Small) (q m : Nat) : Qcp (k + 6) 130 [] [] st0 g (fun _ => false) q m := by
 intro st K i hi w hw hX hq hm hf hK
 have hsr := (hs.rules _ (List.getElem_mem hi)).right
 rw [Q0e (fn := C.f130) rfl rfl rfl, Qg (by simp)]
 obtain ⟨h, c, lo⟩ := st
 have hb : HB ⟨h, c, lo⟩ := hX.hb
 have hbx : Q0z c 68 3 (.agg [.str g.rules[i].left, w, .int .i64 g.rules[i].level]) = some (.pobj c 0, .cells 68 3 [.str g.rules[i].left, w, .int .i64 g.rules[i].level] false) := rfl
 have n1 := Q3a (c' := c + 1) (lo := c) (ty := 68) (n := 3) (cs := [.str g.rules[i].left, w, .int .i64 g.rules[i].level]) hb
 obtain ⟨h1, hh1⟩ : ∃ h1 : Qc, h1 = (c, Qe.cells 68 3 [.str g.rules[i].left, w, .int .i64 g.rules[i].level] false) :: h := ⟨_, rfl⟩
 rw [← hh1] at n1
 have X1 : Q0r ⟨h, c, lo⟩ ⟨h1, c + 1, c⟩ := by rw [hh1]; exact (Q0r.refl hb).cons (lo := lo) (by omega)
 have r1 : Q5 h1 (.pobj c 1) = some w := by rw [hh1, Q4 (by rw [Q3, if_pos rfl])]; rfl
 have hP := Qlq (k := k) (st0 := ⟨h1, c + 1, c⟩) (q := q) (m := m) (by have : q < c := hq; show q < c + 1; omega) (by have : m < c := hm; show m < c + 1; omega) ((X1.fr q hq).trans hf) (hK.frame (X1.fr m hm))
 have he := Q8r (k := k + 1) (st := ⟨h1, c + 1, c⟩) hw (by omega) X1.hb hP
 have e : (g.rules[i].right.all fun x => decide (x ∈ K)) = okR (fun _ => false) K g.rules[i] := by unfold okR; simp
 rw [e] at he
 simp [C.f130, hbx, n1, r1, he, Qb, results, Q9]
theorem Qgb {f : Nat} {fn : AFn} (hh : E.hook f = none) (hc : E.code f = some fn) (hp : fn.pol = .pure) (hr : fn.results = [.tmp 4]) (hbd : fn.body = C.f133.body)
  {k f' : Nat} {gp hp' : AV} {cs a b : List AV} {g : Q7} {st0 : St} {p : Str -> Bool} (hg : Q02 (.agg cs) g) (hs : g.Small) (hG : ∀ st, Q0r st0 st -> Ql st.h gp 3 = some cs) (hH : ∀ st, Q0r st0 st -> Q5 st.h hp' = some (.fn (.func f') a b)) (H : PredAt (k + 3) f' a b st0 p) :
  PredAt (k + 4) f [] [gp, hp'] st0 fun s => decide (s ∈ g.kinds) || p s := by
 intro st x hst
 rw [Q0e hh hc hp, Qg (by simp), hbd, hr]
 have r1 := hG st hst
 have r2 := hH st hst
 have hk := Qe5 (k := k) (x := x) (st := ⟨st.h, st.c, st.c⟩) hg hs hst.hb
 have hc := H ⟨st.h, st.c, st.c⟩ x hst.lo
 simp only [List.singleton_append] at hc
 cases hx : decide (x ∈ g.kinds) with
 | true =>
  have hx' : x ∈ g.kinds := by simpa using hx
  rw [hx] at hk; simp [C.f133, Q05, Qy, r1, r2, hk, Qb, results, Q9, hx']
 | false =>
  have hx' : x ∉ g.kinds := by simpa using hx
  rw [hx] at hk; simp [C.f133, Q05, Qy, r1, r2, hk, hc, Qb, results, Q9, hx']
theorem Qix {k gp : Nat} {cs : List AV} {st0 : St} {g : Q7} (hg : Q02 (.agg cs) g) (hs : g.Small) (hgp : gp < st0.c) (hgf : Q0 st0.h gp = some (.cells 29 3 cs false)) (hl3 : cs.length = 3) (q m : Nat) : Qcp (k + 9) 131 [] [.pobj gp 0] st0 g (fun s => decide (s ∈ g.kinds)) q m := by
 intro st K i hi w hw hX hq hm hf hK
 have hsr := (hs.rules _ (List.getElem_mem hi)).right
 rw [Q0e (fn := C.f131) rfl rfl rfl, Qg (by simp)]
 obtain ⟨h, c, lo⟩ := st
 have hb : HB ⟨h, c, lo⟩ := hX.hb
 have hXc : st0.c <= c := hX.c
 have hbx : Q0z c 68 3 (.agg [.str g.rules[i].left, w, .int .i64 g.rules[i].level]) = some (.pobj c 0, .cells 68 3 [.str g.rules[i].left, w, .int .i64 g.rules[i].level] false) := rfl
 have hbx2 : Q0z (c + 1) 51 1 (.fn (.func 188) [] [.pobj q 0]) = some (.pobj (c + 1) 0, .cells 51 1 [.fn (.func 188) [] [.pobj q 0]] false) := rfl
 have n1 := Q3a (c' := c + 2) (lo := c) (ty := 68) (n := 3) (cs := [.str g.rules[i].left, w, .int .i64 g.rules[i].level]) hb
 obtain ⟨h1, hh1⟩ : ∃ h1 : Qc, h1 = (c, Qe.cells 68 3 [.str g.rules[i].left, w, .int .i64 g.rules[i].level] false) :: h := ⟨_, rfl⟩
 rw [← hh1] at n1
 have X1 : Q0r ⟨h, c, lo⟩ ⟨h1, c + 1, c⟩ := by rw [hh1]; exact (Q0r.refl hb).cons (lo := lo) (by omega)
 have n2 := Q3a (c' := c + 2) (lo := c) (ty := 51) (n := 1) (cs := [.fn (.func 188) [] [.pobj q 0]]) X1.hb
 obtain ⟨h2, hh2⟩ : ∃ h2 : Qc, h2 = (c + 1, Qe.cells 51 1 [.fn (.func 188) [] [.pobj q 0]] false) :: h1 := ⟨_, rfl⟩
 rw [← hh2] at n2
 have X2 : Q0r ⟨h, c, lo⟩ ⟨h2, c + 2, c⟩ := by rw [hh2]; exact X1.cons (by omega)
 have r1 : Q5 h2 (.pobj c 1) = some w := by rw [hh2, Q4 (by rw [Qu (by omega), hh1, Q3, if_pos rfl])]; rfl
 have fh : Q0 h2 (c + 1) = some (.cells 51 1 [.fn (.func 188) [] [.pobj q 0]] false) := by rw [hh2, Q3, if_pos rfl]
 have hgf2 : Q0 h2 gp = some (.cells 29 3 cs false) := (X2.fr gp (by show gp < c; omega)).trans ((hX.fr gp hgp).trans hgf)
 have hP := Qlq (k := k + 2) (st0 := ⟨h2, c + 2, c⟩) (q := q) (m := m) (by have : q < c := hq; show q < c + 2; omega) (by have : m < c := hm; show m < c + 2; omega) ((X2.fr q hq).trans hf) (hK.frame (X2.fr m hm))
 have hQ := Qgb (fn := C.f132) (f := 132) rfl rfl rfl rfl rfl (k := k) (gp := .pobj gp 0) (hp' := .pobj (c + 1) 0) (st0 := ⟨h2, c + 2, c⟩) hg hs (fun st hst => Qq ((hst.fr gp (by show gp < c + 2; omega)).trans hgf2) hl3)
  (fun st hst => by rw [Q4 ((hst.fr (c + 1) (by show c + 1 < c + 2; omega)).trans fh)]; rfl) hP
 have he := Q8r (k := k + 4) (st := ⟨h2, c + 2, c⟩) hw (by omega) X2.hb hQ
 have e : (g.rules[i].right.all fun x => decide (x ∈ g.kinds) || decide (x ∈ K)) = okR (fun s => decide (s ∈ g.kinds)) K g.rules[i] := rfl
 rw [e] at he
 simp [C.f131, hbx, hbx2, n1, n2, r1, he, Qb, results, Q9]
theorem Qdr {k : Nat} {v : AV} {g : Q7} {st : St} (hg : Q02 v g) (hs : g.Small) :
  ∃ K, Q6 E (k + 8) 62 [v] st = .ret (.fn (.func 188) [] [.pval [Q0u K]], st) /\ ∀ s, s ∈ K ↔ Q3x g s := by
 have hold := hg.oldB 0
 have hg' := hg
 obtain ⟨kv, rv, l, rfl, hk, hr, hrs⟩ := hg'
 rw [Q0b (fn := C.f62) rfl rfl rfl (by simp [AV.olds, hold]), Qg (by simp)]
 have hbx : Q0z 0 29 3 (.agg [kv, .str g.start, rv]) = some (.pobj 0 0, .cells 29 3 [kv, .str g.start, rv] false) := rfl
 have n1 := Q3a (c' := 1) (lo := 0) (ty := 29) (n := 3) (cs := [kv, .str g.start, rv]) HB.nil
 obtain ⟨h1, hh1⟩ : ∃ h1 : Qc, h1 = [(0, Qe.cells 29 3 [kv, .str g.start, rv] false)] := ⟨_, rfl⟩
 rw [← hh1] at n1
 have X1 : Q0r ⟨[], 0, 0⟩ ⟨h1, 1, 0⟩ := by rw [hh1]; exact (Q0r.refl HB.nil).cons (lo := 0) (by omega)
 have rg : Ql h1 (.pobj 0 0) 3 = some [kv, .str g.start, rv] := by rw [hh1]; exact Qq (by rw [Q3, if_pos rfl]) rfl
 obtain ⟨K, e1, e2⟩ := Q7.fill (k := k + 6) (st := ⟨h1, 1, 0⟩) (bb := fun _ => false) hg hs X1.hb (Ql2 hs _ _)
 have hth : thaw 0 h1 64 (.fn (.func 188) [] [.pval [Q0u K]]) = some (.fn (.func 188) [] [.pval [Q0u K]]) := Q13 (n := 63) (by
  have h1 := Q20 0 K
  have h2 : AV.olds 0 (List.replicate K.length (.bool true)) = true := by
   generalize K.length = n
   induction n with
   | zero => rfl
   | succ n ih => simp [List.replicate_succ, AV.olds, AV.old, ih]
  simp [AV.old, AV.olds, Q0u, h1, h2])
 refine ⟨K, ?_, fun s => ?_⟩
 ·simp [C.f62, hbx, n1, rg, e1, Qb, results, Q9, Qt, Q0c, hth]
 ·rw [e2]
  unfold Q3x
  have hF : (fun x : Str => (fun _ => false) x = true) = fun _ => False := by funext x; simp
  constructor
  ·rintro ⟨r, h1, rfl, h3⟩
   exact .rule h1 (by rw [hF] at h3; exact h3)
  ·intro h
   cases h with
   | base h => exact h.elim
   | rule h1 h2 => exact ⟨_, h1, rfl, by rw [hF]; exact h2⟩
theorem Qiw {k : Nat} {v : AV} {g : Q7} {st : St} (hg : Q02 v g) (hs : g.Small) :
  ∃ b, Q6 E (k + 12) 65 [v] st = .ret (.fn (.func 133) [] b, st) /\ ∃ p : Str -> Bool, (∀ s, p s = true ↔ Qb4 g s) /\ ∀ st0, PredAt (k + 4) 133 [] b st0 p := by
 have hold := hg.oldB 0
 have hg' := hg
 obtain ⟨kv, rv, l, rfl, hk, hr, hrs⟩ := hg'
 rw [Q0b (fn := C.f65) rfl rfl rfl (by simp [AV.olds, hold]), Qg (by simp)]
 have hbx : Q0z 0 29 3 (.agg [kv, .str g.start, rv]) = some (.pobj 0 0, .cells 29 3 [kv, .str g.start, rv] false) := rfl
 have n1 := Q3a (c' := 1) (lo := 0) (ty := 29) (n := 3) (cs := [kv, .str g.start, rv]) HB.nil
 obtain ⟨h1, hh1⟩ : ∃ h1 : Qc, h1 = [(0, Qe.cells 29 3 [kv, .str g.start, rv] false)] := ⟨_, rfl⟩
 rw [← hh1] at n1
 have X1 : Q0r ⟨[], 0, 0⟩ ⟨h1, 1, 0⟩ := by rw [hh1]; exact (Q0r.refl HB.nil).cons (lo := 0) (by omega)
 have hb2 : HB ⟨h1, 2, 0⟩ := X1.hb.up (by omega)
 have fg : Q0 h1 0 = some (.cells 29 3 [kv, .str g.start, rv] false) := by rw [hh1, Q3, if_pos rfl]
 have rg : Ql h1 (.pobj 0 0) 3 = some [kv, .str g.start, rv] := Qq fg rfl
 obtain ⟨K, e1, e2⟩ := Q7.fill (k := k + 9 + 1) (st := ⟨h1, 2, 0⟩) (bb := fun s => decide (s ∈ g.kinds)) hg hs hb2 (Qix (k := k + 1) (gp := 0) hg hs (by show 0 < 2; omega) fg rfl _ _)
 have n2 : newObj 1 (.cells 51 1 [.fnil] false) ⟨h1, 2, 0⟩ = some ⟨(1, .cells 51 1 [.fnil] false) :: h1, 2, 0⟩ := Qf X1.hb
 obtain ⟨h2, hh2⟩ : ∃ h2 : Qc, h2 = (1, Qe.cells 51 1 [.fn (.func 188) [] [.pval [Q0u K]]] false) :: h1 := ⟨_, rfl⟩
 have s2 : Q0n 1 (.pobj 1 0) (.fn (.func 188) [] [.pval [Q0u K]]) ⟨(1, .cells 51 1 [.fnil] false) :: h1, 2, 0⟩ = some (.undef, ⟨h2, 2, 0⟩) := by
  rw [Q07 (cs := [.fnil]) (ty := 51) (sz := 1) (ext := false) (by rw [Q3, if_pos rfl]) (by show 0 <= 1; omega) (by simp) rfl rfl, hh2]
  simp [hset]
 have f2 : Q0 h2 0 = some (.cells 29 3 [kv, .str g.start, rv] false) := by rw [hh2, Qu (by omega)]; exact fg
 have f3 : Q0 h2 1 = some (.cells 51 1 [.fn (.func 188) [] [.pval [Q0u K]]] false) := by rw [hh2, Q3, if_pos rfl]
 have holdK : AV.old 0 (.fn (.func 188) [] [.pval [Q0u K]]) = true := by
  have h1 := Q20 0 K
  have h2 : AV.olds 0 (List.replicate K.length (.bool true)) = true := by
   generalize K.length = n
   induction n with
   | zero => rfl
   | succ n ih => simp [List.replicate_succ, AV.olds, AV.old, ih]
  simp [AV.old, AV.olds, Q0u, h1, h2]
 have holds : AV.olds 0 [kv, .str g.start, rv] = true := by simpa [AV.old] using hold
 have t0 : thaw 0 h2 63 (.pobj 0 0) = some (.pval [kv, .str g.start, rv]) := by
  have ho : AV.old 0 (.pobj 0 0) = false := by simp [AV.old, Qm]
  unfold thaw
  rw [ho]
  simp only [cond_false, f2, Qi, List.drop_zero, Q1u (n := 61) holds]
  simp
 have t1 : thaw 0 h2 63 (.pobj 1 0) = some (.pval [.fn (.func 188) [] [.pval [Q0u K]]]) := by
  have ho : AV.old 0 (.pobj 1 0) = false := by simp [AV.old, Qm]
  unfold thaw
  rw [ho]
  simp only [cond_false, f3, Qi, List.drop_zero, Q1u (n := 61) (show AV.olds 0 [.fn (.func 188) [] [.pval [Q0u K]]] = true by simp [AV.olds, holdK])]
  simp
 have hth : thaw 0 h2 64 (.fn (.func 133) [] [.pobj 0 0, .pobj 1 0]) = some (.fn (.func 133) [] [.pval [kv, .str g.start, rv], .pval [.fn (.func 188) [] [.pval [Q0u K]]]]) := by
  have ho : AV.old 0 (.fn (.func 133) [] [.pobj 0 0, .pobj 1 0]) = false := by simp [AV.old, AV.olds, Qm]
  unfold thaw
  rw [ho]
  simp only [cond_false, thaws, t0, t1]
 refine ⟨[.pval [kv, .str g.start, rv], .pval [.fn (.func 188) [] [.pval [Q0u K]]]], ?_, fun s => decide (s ∈ g.kinds) || decide (s ∈ K), fun s => ?_, fun st0 => ?_⟩
 ·simp [C.f65, hbx, n1, rg, e1, n2, s2, Qb, results, Q9, Qt, Q0c, hth]
 ·simp only [Bool.or_eq_true, decide_eq_true_eq, e2]
  unfold Qb4
  have hF : (fun x : Str => (fun s => decide (s ∈ g.kinds)) x = true) = (· ∈ g.kinds) := by funext x; simp
  constructor
  ·rintro (h | ⟨r, h1, rfl, h3⟩)
   ·exact .base h
   ·exact .rule h1 (by rw [hF] at h3; exact h3)
  ·intro h
   cases h with
   | base h => exact .inl h
   | rule h1 h2 => exact .inr ⟨_, h1, rfl, by rw [hF]; exact h2⟩
 ·exact Qgb (fn := C.f133) rfl rfl rfl rfl rfl (k := k) hg hs (fun st _ => by simp) (fun st _ => rfl) (Qcv (k := k + 2))
theorem Qfq {k : Nat} {v : AV} {g : Q7} {st : St} (hg : Q02 v g) (hs : g.Small) (h0 : 0 < g.rules.length) :
  ∃ w, ∃ p : Str -> Bool, Q6 E (k + 9) 11 [v] st = .ret (w, st) /\ Qr w 1 (strs (g.lefts.filter p)) /\ ∀ s, p s = true ↔ Q3x g s := by
 have hold := hg.oldB 0
 have hg' := hg
 obtain ⟨kv, rv, l, rfl, hk, hr, hrs⟩ := hg'
 rw [Q0b (fn := C.f11) rfl rfl rfl (by simp [AV.olds, hold]), Qg (by simp)]
 have hbx : Q0z 0 29 3 (.agg [kv, .str g.start, rv]) = some (.pobj 0 0, .cells 29 3 [kv, .str g.start, rv] false) := rfl
 have n1 := Q3a (c' := 1) (lo := 0) (ty := 29) (n := 3) (cs := [kv, .str g.start, rv]) HB.nil
 obtain ⟨h1, hh1⟩ : ∃ h1 : Qc, h1 = [(0, Qe.cells 29 3 [kv, .str g.start, rv] false)] := ⟨_, rfl⟩
 rw [← hh1] at n1
 have X1 : Q0r ⟨[], 0, 0⟩ ⟨h1, 1, 0⟩ := by rw [hh1]; exact (Q0r.refl HB.nil).cons (lo := 0) (by omega)
 have rg : Ql h1 (.pobj 0 0) 3 = some [kv, .str g.start, rv] := by rw [hh1]; exact Qq (by rw [Q3, if_pos rfl]) rfl
 obtain ⟨K, e1, e2⟩ := Qdr (k := k) (st := ⟨h1, 1, 0⟩) hg hs
 obtain ⟨w, e3, e4⟩ := Q8d (k := k + 1) (st := ⟨h1, 1, 0⟩) hg hs h0 X1.hb (Qcv (k := k + 3) (K := K))
 have hth : thaw 0 h1 64 w = some w := Q13 (n := 63) (e4.oldB 0)
 refine ⟨w, fun s => decide (s ∈ K), ?_, e4, fun s => by rw [decide_eq_true_eq]; exact e2 s⟩
 simp [C.f11, hbx, n1, Q2o, Q1m, Q1d, Q1z, beq_eq, AV.beq_same, rg, e1, e3, Qb, results, Q9, Qt, Q0c, hth]
theorem Qjk {k : Nat} {v : AV} {g : Q7} {st : St} (hg : Q02 v g) (hs : g.Small) (h0 : 0 < g.rules.length) :
  ∃ w, ∃ p : Str -> Bool, Q6 E (k + 13) 13 [v] st = .ret (w, st) /\ Qr w 1 (strs (g.lefts.filter fun s => !p s)) /\ ∀ s, p s = true ↔ Qb4 g s := by
 have hold := hg.oldB 0
 have hg' := hg
 obtain ⟨kv, rv, l, rfl, hk, hr, hrs⟩ := hg'
 rw [Q0b (fn := C.f13) rfl rfl rfl (by simp [AV.olds, hold]), Qg (by simp)]
 have hbx : Q0z 0 29 3 (.agg [kv, .str g.start, rv]) = some (.pobj 0 0, .cells 29 3 [kv, .str g.start, rv] false) := rfl
 have n1 := Q3a (c' := 1) (lo := 0) (ty := 29) (n := 3) (cs := [kv, .str g.start, rv]) HB.nil
 obtain ⟨h1, hh1⟩ : ∃ h1 : Qc, h1 = [(0, Qe.cells 29 3 [kv, .str g.start, rv] false)] := ⟨_, rfl⟩
 rw [← hh1] at n1
 have X1 : Q0r ⟨[], 0, 0⟩ ⟨h1, 1, 0⟩ := by rw [hh1]; exact (Q0r.refl HB.nil).cons (lo := 0) (by omega)
 have fg : Q0 h1 0 = some (.cells 29 3 [kv, .str g.start, rv] false) := by rw [hh1, Q3, if_pos rfl]
 have rg : Ql h1 (.pobj 0 0) 3 = some [kv, .str g.start, rv] := Qq fg rfl
 obtain ⟨b, e1, p, e2, e3⟩ := Qiw (k := k) (st := ⟨h1, 2, 0⟩) hg hs
 have n2 : newObj 1 (.cells 51 1 [.fnil] false) ⟨h1, 2, 0⟩ = some ⟨(1, .cells 51 1 [.fnil] false) :: h1, 2, 0⟩ := Qf X1.hb
 obtain ⟨h2, hh2⟩ : ∃ h2 : Qc, h2 = (1, Qe.cells 51 1 [.fn (.func 133) [] b] false) :: h1 := ⟨_, rfl⟩
 have s2 : Q0n 1 (.pobj 1 0) (.fn (.func 133) [] b) ⟨(1, .cells 51 1 [.fnil] false) :: h1, 2, 0⟩ = some (.undef, ⟨h2, 2, 0⟩) := by
  rw [Q07 (cs := [.fnil]) (ty := 51) (sz := 1) (ext := false) (by rw [Q3, if_pos rfl]) (by show 0 <= 1; omega) (by simp) rfl rfl, hh2]
  simp [hset]
 have hb2 : HB ⟨h2, 2, 0⟩ := by rw [hh2]; exact HB.cons (h := h1) (c := 1) (lo := 0) X1.hb (by omega) (by omega)
 have rg2 : Ql h2 (.pobj 0 0) 3 = some [kv, .str g.start, rv] := Qq (by rw [hh2, Qu (by omega)]; exact fg) rfl
 have f3 : Q0 h2 1 = some (.cells 51 1 [.fn (.func 133) [] b] false) := by rw [hh2, Q3, if_pos rfl]
 have hN : PredAt (k + 4 + 1) 66 [] [.pobj 1 0] ⟨h2, 2, 0⟩ fun x => !p x := Qe3 (fn := C.f66) rfl rfl rfl rfl rfl (e3 _) (by show 1 < 2; omega) f3
 obtain ⟨w, e5, e6⟩ := Q8d (k := k + 5) (st := ⟨h2, 2, 0⟩) hg hs h0 hb2 (hN.more 3)
 have hth : thaw 0 h2 64 w = some w := Q13 (n := 63) (e6.oldB 0)
 refine ⟨w, p, ?_, e6, e2⟩
 simp [C.f13, hbx, n1, rg, e1, n2, s2, rg2, e5, Qb, results, Q9, Qt, Q0c, hth]
end Go.Am
end
section
namespace Go.Am
open Go
inductive SSl (h : Qc) : AV -> List Str -> Prop
 | nl : SSl h .snil []
 | ob (id : Nat) (L : List Str) (h0 : L ≠ []) (hf : Q0 h id = some (.cells 9 1 (strs L) true)) : SSl h (.sobj id 0 L.length none) L
 | lit (id : Nat) (L : List Str) (h0 : L ≠ []) (hf : Q0 h id = some (.cells 9 1 (strs L) false)) : SSl h (.sobj id 0 L.length (some L.length)) L
theorem SSl.heap {h h' : Qc} {w : AV} {L : List Str} (H : SSl h w L) (e : ∀ o, Qh w = some o -> Q0 h' o = Q0 h o) : SSl h' w L := by
 cases H with
 | nl => exact .nl
 | ob id _ h0 hf => exact .ob id _ h0 ((e id rfl).trans hf)
 | lit id _ h0 hf => exact .lit id _ h0 ((e id rfl).trans hf)
theorem SSl.len {h : Qc} {w : AV} {L : List Str} (H : SSl h w L) : Q0k w = some L.length := by cases H <;> rfl
theorem SSl.reads {h : Qc} {w : AV} {L : List Str} (H : SSl h w L) : Reads h w L where
 len := H.len
 at_ := fun i hi st hs => by
  subst hs
  cases H with
  | nl => simp at hi
  | ob id _ h0 hf => exact ⟨_, Q1h hf hi, by rw [Q4 hf, strs_get? _ _ hi]; simp [List.getD, hi]⟩
  | lit id _ h0 hf => exact ⟨_, Q1h hf hi, by rw [Q4 hf, strs_get? _ _ hi]; simp [List.getD, hi]⟩
theorem Qvt {h : Qc} {c lo : Nat} {w : AV} {L : List Str} (x : Str) (hb : HB ⟨h, c, lo⟩) (H : SSl h w L) (hw : ∀ p, Qh w = some p -> lo <= p /\ p < c) (hl : L.length <= 1000) :
  ∃ h2, Q0f (c + 1) 9 1 16 w (.sobj c 0 1 (some 1)) ⟨(c, .cells 9 1 [.str x] false) :: h, c + 2, lo⟩ = some (.sobj (c + 1) 0 (L.length + 1) none, ⟨h2, c + 2, lo⟩) /\ HB ⟨h2, c + 2, lo⟩ /\
   Q0 h2 (c + 1) = some (.cells 9 1 (strs (L ++ [x])) true) /\ ∀ p, p < c -> Qh w ≠ some p -> Q0 h2 p = Q0 h p := by
 have hsx : strs L ++ [.str x] = strs (L ++ [x]) := by simp [strs]
 have hcell : ∀ x ∈ strs L, x.cells.length = 1 := fun y hy => by
  simp only [strs, List.mem_map] at hy
  obtain ⟨s, _, rfl⟩ := hy; rfl
 have viaM : ∀ {M : MSl h 9 1 w (strs L)}, _ := fun {M} => Qhl (bytes := 16) (x := .str x) hb M hw (by omega) (by omega) (by simpa using hl) rfl
 cases H with
 | nl =>
  obtain ⟨h2, p1, p2, p3, p4⟩ := viaM (M := .nl)
  exact ⟨h2, p1, p2, by rw [p3, hsx, Q2r], p4⟩
 | ob id _ h0 hf =>
  have M : MSl h 9 1 (.sobj id 0 L.length none) (strs L) := by
   have := MSl.ob (h := h) (ty := 9) (sz := 1) id (strs L) (by simpa [strs] using h0) hcell (by rw [Q2r]; exact hf)
   rwa [Q1r] at this
  obtain ⟨h2, p1, p2, p3, p4⟩ := viaM (M := M)
  rw [Q1r] at p1
  exact ⟨h2, p1, p2, by rw [p3, hsx, Q2r], p4⟩
 | lit id _ h0 hf =>
  have hb1 : HB ⟨(c, Qe.cells 9 1 [.str x] false) :: h, c + 1, lo⟩ := HB.cons (h := h) (c := c) (lo := lo) hb (by omega) (by omega)
  have hid := hw id rfl
  have hf' : Q0 ((c, Qe.cells 9 1 [.str x] false) :: h) id = some (.cells 9 1 (strs L) false) := by rw [Qu hid.2]; exact hf
  have he : Q0 ((c, Qe.cells 9 1 [.str x] false) :: h) c = some (.cells 9 1 [.str x] false) := by rw [Q3, if_pos rfl]
  refine ⟨(c + 1, .cells 9 1 (strs (L ++ [x])) true) :: (c, .cells 9 1 [.str x] false) :: h, ?_, HB.cons (h := (c, Qe.cells 9 1 [.str x] false) :: h) (c := c + 1) (lo := lo) hb1 (by omega) (by omega), by rw [Q3, if_pos rfl], fun p hp _ => by rw [Qu (by omega), Qu hp]⟩
  have hcs : Q01 ((c, Qe.cells 9 1 [.str x] false) :: h) 1 1 (.sobj c 0 1 (some 1)) = some [.str x] := by simp [Q01, he, beq_eq, Qi]
  have hroom : (L.length + 1) * 16 <= room /\ L.length + 1 <= room := by unfold room; constructor <;> omega
  have htk : (strs L).take (L.length * 1) = strs L := List.take_of_length_le (by simp)
  have hb1' : ∀ p y, (p, y) ∈ (c, Qe.cells 9 1 [.str x] false) :: h -> p < c + 1 := hb1
  have hd : decide (L.length + 1 <= L.length) = false := decide_eq_false (by omega)
  simp only [Q0f, lenOf, hcs, Q08]
  simp [hd, beq_eq, Q16, hf', Qi, grow, hroom.1, hroom.2, Qf hb1', htk, hsx]
  try rw [← hsx, List.take_of_length_le (by simp)]
theorem Qkq {n : Nat} {v : AV} {l : List Str} {x : Str} {st : St} (h : Reads st.h v l) (hl : l.length < 1000000) :
  Q6 E (n + 1) 92 [v, .str x] st = .ret (.int .i64 (idxOf l x), st) := by
 rw [Qp (fn := C.f92) rfl rfl rfl, Qg (by simp)]
 apply M.to_eq
 simp [C.f92, Qw, h.len]
 refine M.to_bind (Qs (fun (i : Nat) ts st' => st' = st /\ i <= l.length /\ ts.get 0 = v /\ ts.get 1 = .str x /\ ts.get 7 = .int .i64 l.length /\ ts.get 8 = .int .i64 i /\ ∀ j (h : j < l.length), j < i -> ¬ l[j] = x)
  (fun i => l.length - i) (fun e ts st' => st' = st /\ ((e = .exit 0 /\ idxOf l x = -1) ∨ (e = .ret /\ ts.get 4 = .int .i64 (idxOf l x)))) ?step _ 0 _ _ ?_ ?_) ?_
 case step =>
  rintro i ts st' ⟨rfl, hi, h0, h1, h7, h8, hj⟩
  by_cases hlt : i < l.length
  ·obtain ⟨q, a1, b1⟩ := h.at_ i hlt st' rfl
   by_cases he : x = l[i]
   ·have : idxOf l x = i := by
     have : l.findIdx? (· == x) = some i := by
      rw [List.findIdx?_eq_some_iff_getElem]
      exact ⟨hlt, by simp [he], fun j hji => by simpa using hj j (by omega) hji⟩
     simp [idxOf, this]
    simp [C.f92L0, h0, h1, h7, h8, hlt, a1, b1, he]
    rw [← he, this]
   ·simp [C.f92L0, h0, h1, h7, h8, hlt, a1, b1, beq_false_of_ne he, wrap64 (n := (i : Int) + 1) (by omega) (by omega)]
    refine ⟨i + 1, by omega, by omega, by simp, fun j hjl hji => ?_⟩
    by_cases e : j = i
    ·subst e; exact fun h => he h.symm
    ·exact hj j hjl (by omega)
  ·simp [C.f92L0, h0, h1, h7, h8, hlt]
   have : l.findIdx? (· == x) = none := by
    rw [List.findIdx?_eq_none_iff]
    intro y hy
    obtain ⟨j, hjl, rfl⟩ := List.getElem_of_mem hy
    simpa using hj j hjl (by omega)
   simp [idxOf, this]
 ·show _ < 1000000; omega
 ·simp
 ·rintro ⟨e, ts, st'⟩ ⟨rfl, hh⟩
  rcases hh with ⟨rfl, hh⟩ | ⟨rfl, hh⟩
  ·simp [Qb, results, Q9, hh]
  ·simp [Qb, results, Q9, hh]
theorem Q6i {k : Nat} {v : AV} {l : List Str} {x : Str} {st : St} (h : Reads st.h v l) (hl : l.length < 1000000) :
  Q6 E (k + 2) 30 [v, .str x] st = .ret (.bool (decide (x ∈ l)), st) := by
 rw [Qp (fn := C.f30) rfl rfl rfl, Qg (by simp)]
 have e := Qgc (l := l) (x := x)
 simp [C.f30, Qkq h hl, Qb, results, Q9]
 simpa using e
structure Add (st0 : St) (w0 : AV) (st : St) (w : AV) (L : List Str) : Prop where
 c : st0.c <= st.c
 lo : st.lo = st0.lo
 hb : HB st
 sl : SSl st.h w L
 own : ∀ p, Qh w = some p -> p < st.c /\ st.lo <= p /\ (Qh w0 = some p ∨ st0.c <= p)
 fr : ∀ p, p < st0.c -> Qh w0 ≠ some p -> Q0 st.h p = Q0 st0.h p
theorem Add.start {st : St} {w : AV} {L : List Str} (hb : HB st) (H : SSl st.h w L) (hw : ∀ p, Qh w = some p -> p < st.c /\ st.lo <= p) : Add st w st w L :=
 ⟨Nat.le_refl _, rfl, hb, H, fun p hp => ⟨(hw p hp).1, (hw p hp).2, .inl hp⟩, fun _ _ _ => rfl⟩
theorem Add.trans {a b c : St} {wa wb wc : AV} {L L' : List Str} (A : Add a wa b wb L) (B : Add b wb c wc L') : Add a wa c wc L' where
 c := Nat.le_trans A.c B.c
 lo := B.lo.trans A.lo
 hb := B.hb
 sl := B.sl
 own := fun p hp => by
  obtain ⟨h1, h2, h3⟩ := B.own p hp
  refine ⟨h1, h2, ?_⟩
  rcases h3 with h3 | h3
  ·exact (A.own p h3).2.2
  ·exact .inr (Nat.le_trans A.c h3)
 fr := fun p hp hne => (B.fr p (Nat.lt_of_lt_of_le hp A.c) fun e => (A.own p e).2.2.elim hne fun h => by omega).trans (A.fr p hp hne)
theorem Add.push {st0 : St} {w0 : AV} {h : Qc} {c lo : Nat} {w : AV} {L : List Str} (A : Add st0 w0 ⟨h, c, lo⟩ w L) (hlo : st0.lo <= st0.c) (hl : L.length <= 1000) (x : Str) :
  newObj c (.cells 9 1 [.str x] false) ⟨h, c + 2, lo⟩ = some ⟨(c, .cells 9 1 [.str x] false) :: h, c + 2, lo⟩ /\
  ∃ h2, Q0f (c + 1) 9 1 16 w (.sobj c 0 1 (some 1)) ⟨(c, .cells 9 1 [.str x] false) :: h, c + 2, lo⟩ = some (.sobj (c + 1) 0 (L.length + 1) none, ⟨h2, c + 2, lo⟩) /\ Add st0 w0 ⟨h2, c + 2, lo⟩ (.sobj (c + 1) 0 (L.length + 1) none) (L ++ [x]) := by
 refine ⟨Qf A.hb, ?_⟩
 have hcc : st0.c <= c := A.c
 have hll : lo = st0.lo := A.lo
 have hown : ∀ p, Qh w = some p -> p < c /\ lo <= p /\ (Qh w0 = some p ∨ st0.c <= p) := A.own
 obtain ⟨h2, p1, p2, p3, p4⟩ := Qvt x A.hb A.sl (fun p hp => ⟨(hown p hp).2.1, (hown p hp).1⟩) hl
 have hS : SSl h2 (.sobj (c + 1) 0 (L.length + 1) none) (L ++ [x]) := by
  have := SSl.ob (h := h2) (c + 1) (L ++ [x]) (by simp) p3
  rwa [List.length_append] at this
 refine ⟨h2, p1, by show st0.c <= c + 2; omega, hll, p2, hS, fun p hp => ?_, fun p hp hne => ?_⟩
 ·simp only [Qh, Option.some.injEq] at hp
  subst hp
  exact ⟨by show c + 1 < c + 2; omega, by show lo <= c + 1; omega, .inr (by omega)⟩
 ·have hfr : Q0 h p = Q0 st0.h p := A.fr p hp hne
  rw [← hfr]
  exact p4 p (by omega) fun e => (hown p e).2.2.elim hne fun h => by omega
theorem Qjj (c : Nat) (x : Str) : Qz c 9 1 1 [.str []] [0] [.str x] = some (.sobj c 0 1 (some 1), .cells 9 1 [.str x] false) := by simp [Qz, Qm, beq_eq, Qi, Q00, splice, AV.isTuple, AV.cells]
theorem Q70 : ∀ {a b : List Str}, a.Nodup -> (∀ s ∈ a, s ∈ b) -> a.length <= b.length
 | [], _, _, _ => by simp
 | x :: a, b, h, hs => by
  obtain ⟨h1, h2⟩ := List.nodup_cons.1 h
  have hx := hs x (by simp)
  have := Q70 (a := a) (b := b.erase x) h2 fun s hsa => by
   rw [List.mem_erase_of_ne (fun e => h1 (by subst e; exact hsa))]
   exact hs s (List.mem_cons_of_mem _ hsa)
  rw [List.length_erase_of_mem hx] at this
  have := List.length_pos_of_mem hx
  simp only [List.length_cons]; omega
end Go.Am
end
section
namespace Go.Am
open Go
theorem Qka {k : Nat} {base w : AV} {M L U : List Str} {st : St} (hbase : ∀ h : Qc, (∀ o, Qh base = some o -> Q0 h o = Q0 st.h o) -> Reads h base M) (hbo : ∀ o, Qh base = some o -> o < st.c /\ Qh w ≠ some o) (hM : M.length <= 1000)
  (hU : ∀ s ∈ M, s ∈ U) (hUl : U.length <= 900) (H : Add st w st w L) (hlo : st.lo <= st.c) (hN : L.Nodup) (hLU : ∀ s ∈ L, s ∈ U) (a2 a6 a20 a21 a22 : AV)
  (ts0 : TS) (z2 : ts0.get 2 = a2) (z6 : ts0.get 6 = a6) (z20 : ts0.get 20 = a20) (z21 : ts0.get 21 = a21) (z22 : ts0.get 22 = a22) (h5 : ts0.get 5 = w) (h34 : ts0.get 34 = base) (h35 : ts0.get 35 = .int .i64 (M.length : Int)) (h36 : ts0.get 36 = .int .i64 ((0 : Nat) : Int)) :
  (Q0l (Qn E (Q6 E (k + 2)) C.f69L2) E.k ts0 st).to fun x => x.1 = .exit 4 /\ x.2.1.get 2 = a2 /\ x.2.1.get 6 = a6 /\ x.2.1.get 20 = a20 /\ x.2.1.get 21 = a21 /\ x.2.1.get 22 = a22 /\ ∃ (w' : AV) (L' : List Str), x.2.1.get 5 = w' /\ Add st w x.2.2 w' L' /\ L'.Nodup /\ (∃ T, L' = L ++ T) /\ ∀ s, s ∈ L' ↔ s ∈ L ∨ s ∈ M := by
 refine Qs (fun (i : Nat) ts st' => i <= M.length /\ ts.get 2 = a2 /\ ts.get 6 = a6 /\ ts.get 20 = a20 /\ ts.get 21 = a21 /\ ts.get 22 = a22 /\ ts.get 34 = base /\ ts.get 35 = .int .i64 (M.length : Int) /\ ts.get 36 = .int .i64 (i : Int) /\ ∃ (w' : AV) (L' : List Str), ts.get 5 = w' /\ Add st w st' w' L' /\ L'.Nodup /\ (∃ T, L' = L ++ T) /\ ∀ s, s ∈ L' ↔ s ∈ L ∨ s ∈ M.take i)
  (fun i => M.length - i) (fun e ts st' => e = .exit 4 /\ ts.get 2 = a2 /\ ts.get 6 = a6 /\ ts.get 20 = a20 /\ ts.get 21 = a21 /\ ts.get 22 = a22 /\ ∃ (w' : AV) (L' : List Str), ts.get 5 = w' /\ Add st w st' w' L' /\ L'.Nodup /\ (∃ T, L' = L ++ T) /\ ∀ s, s ∈ L' ↔ s ∈ L ∨ s ∈ M) ?_ _ 0 _ _ ?_ ?_
 ·rintro i ts st' ⟨hi, z2, z6, z20, z21, z22, h34, h35, h36, w', L', h5, A, hN', ⟨T, hT⟩, hm⟩
  by_cases hlt : i < M.length
  ·obtain ⟨h, c, lo⟩ := st'
   have hbr := hbase h fun o ho => A.fr o (hbo o ho).1 (hbo o ho).2
   obtain ⟨q, a1, b1⟩ := hbr.at_ i hlt ⟨h, c, lo⟩ rfl
   have hsub : ∀ s ∈ L', s ∈ U := fun s hs => by
    rcases (hm s).1 hs with h | h
    ·exact hLU s h
    ·exact hU s (List.mem_of_mem_take h)
   have hL'l := Q70 hN' hsub
   have hcon := Q6i (k := k) (x := M[i]) (st := ⟨h, c, lo⟩) A.sl.reads (by omega)
   by_cases hin : M[i] ∈ L'
   ·rw [decide_eq_true hin] at hcon
    simp [C.f69L2, z2, z6, z20, z21, z22, h34, h35, h36, h5, hlt, a1, b1, hcon, wrap64 (n := (i : Int) + 1) (by omega) (by omega)]
    refine ⟨i + 1, by omega, by omega, by simp, L', A, hN', ⟨T, hT⟩, fun s => ?_⟩
    rw [hm, List.take_succ_eq_append_getElem hlt, List.mem_append, List.mem_singleton]
    constructor
    ·rintro (h | h)
     ·exact .inl h
     ·exact .inr (.inl h)
    ·rintro (h | h | h)
     ·exact .inl h
     ·exact .inr h
     ·subst h; exact (hm _).1 hin
   ·rw [decide_eq_false hin] at hcon
    obtain ⟨n1, h2, p1, A2⟩ := A.push hlo (by omega) M[i]
    simp [C.f69L2, z2, z6, z20, z21, z22, h34, h35, h36, h5, hlt, a1, b1, hcon, Qjj, n1, p1, wrap64 (n := (i : Int) + 1) (by omega) (by omega)]
    refine ⟨i + 1, by omega, by omega, by simp, L' ++ [M[i]], A2, ?_, ⟨T ++ [M[i]], by rw [hT, List.append_assoc]⟩, fun s => ?_⟩
    ·rw [List.nodup_append]
     exact ⟨hN', by simp, fun a ha b hb => by
      simp only [List.mem_singleton] at hb
      subst hb; intro e; subst e; exact hin ha⟩
    ·rw [List.mem_append, hm, List.take_succ_eq_append_getElem hlt, List.mem_append, List.mem_singleton, or_assoc]
  ·have : i = M.length := by omega
   subst this
   rw [List.take_length] at hm
   simp [C.f69L2, z2, z6, z20, z21, z22, h34, h35, h36, h5]
   exact ⟨L', A, hN', ⟨T, hT⟩, hm⟩
 ·show M.length - 0 < 1000000; omega
 ·exact ⟨by omega, z2, z6, z20, z21, z22, h34, h35, h36, w, L, h5, H, hN, ⟨[], by simp⟩, by simp⟩
theorem Qos {k : Nat} {base w : AV} {M Li T0 U : List Str} {st : St} (hbase : ∀ h : Qc, (∀ o, Qh base = some o -> Q0 h o = Q0 st.h o) -> Reads h base M) (hbo : ∀ o, Qh base = some o -> o < st.c /\ Qh w ≠ some o) (hM : M.length <= 1000)
  (hU : ∀ s ∈ M, s ∈ U) (hLi : Li.length <= 400) (hUl : U.length <= 500) (H : Add st w st w (Li ++ T0)) (hlo : st.lo <= st.c) (hN : T0.Nodup) (hLU : ∀ s ∈ T0, s ∈ U) (a0 a1 a5 : AV)
  (ts0 : TS) (z0 : ts0.get 0 = a0) (z1 : ts0.get 1 = a1) (z5 : ts0.get 5 = a5) (h5 : ts0.get 4 = w) (h34 : ts0.get 22 = base) (h35 : ts0.get 23 = .int .i64 (M.length : Int)) (h36 : ts0.get 24 = .int .i64 ((0 : Nat) : Int)) :
  (Q0l (Qn E (Q6 E (k + 2)) C.f75L1) E.k ts0 st).to fun x => x.1 = .exit 2 /\ x.2.1.get 0 = a0 /\ x.2.1.get 1 = a1 /\ x.2.1.get 5 = a5 /\ ∃ (w' : AV) (T' : List Str), x.2.1.get 4 = w' /\ Add st w x.2.2 w' (Li ++ T') /\ T'.Nodup /\ (∃ T, T' = T0 ++ T) /\ (∀ s ∈ T', s ∈ U) /\ ∀ s, s ∈ Li ++ T' ↔ s ∈ Li ++ T0 ∨ s ∈ M := by
 refine Qs (fun (i : Nat) ts st' => i <= M.length /\ ts.get 0 = a0 /\ ts.get 1 = a1 /\ ts.get 5 = a5 /\ ts.get 22 = base /\ ts.get 23 = .int .i64 (M.length : Int) /\ ts.get 24 = .int .i64 (i : Int) /\ ∃ (w' : AV) (T' : List Str), ts.get 4 = w' /\ Add st w st' w' (Li ++ T') /\ T'.Nodup /\ (∃ T, T' = T0 ++ T) /\ (∀ s ∈ T', s ∈ U) /\ ∀ s, s ∈ Li ++ T' ↔ s ∈ Li ++ T0 ∨ s ∈ M.take i)
  (fun i => M.length - i) (fun e ts st' => e = .exit 2 /\ ts.get 0 = a0 /\ ts.get 1 = a1 /\ ts.get 5 = a5 /\ ∃ (w' : AV) (T' : List Str), ts.get 4 = w' /\ Add st w st' w' (Li ++ T') /\ T'.Nodup /\ (∃ T, T' = T0 ++ T) /\ (∀ s ∈ T', s ∈ U) /\ ∀ s, s ∈ Li ++ T' ↔ s ∈ Li ++ T0 ∨ s ∈ M) ?_ _ 0 _ _ ?_ ?_
 ·rintro i ts st' ⟨hi, z0, z1, z5, h34, h35, h36, w', T', h5, A, hN', ⟨T, hT⟩, hTU, hm⟩
  by_cases hlt : i < M.length
  ·obtain ⟨h, c, lo⟩ := st'
   have hbr := hbase h fun o ho => A.fr o (hbo o ho).1 (hbo o ho).2
   obtain ⟨q, a1, b1⟩ := hbr.at_ i hlt ⟨h, c, lo⟩ rfl
   have hts : ∀ s, s ∈ M.take (i + 1) ↔ s ∈ M.take i ∨ s = M[i] := fun s => by rw [List.take_succ_eq_append_getElem hlt, List.mem_append, List.mem_singleton]
   have hma : ∀ s, s ∈ Li ++ T' ++ [M[i]] ↔ s ∈ Li ++ T' ∨ s = M[i] := fun s => by rw [List.mem_append (s := Li ++ T'), List.mem_singleton]
   have hL'l := Q70 hN' hTU
   have hcon := Q6i (k := k) (x := M[i]) (st := ⟨h, c, lo⟩) A.sl.reads (by rw [List.length_append]; omega)
   by_cases hin : M[i] ∈ Li ++ T'
   ·rw [decide_eq_true hin] at hcon
    simp [-List.mem_append, C.f75L1, z0, z1, z5, h34, h35, h36, h5, hlt, a1, b1, hcon, wrap64 (n := (i : Int) + 1) (by omega) (by omega)]
    refine ⟨i + 1, by omega, by omega, by simp, T', A, hN', ⟨T, hT⟩, hTU, fun s => ?_⟩
    rw [hm, hts]
    constructor
    ·rintro (h | h)
     ·exact .inl h
     ·exact .inr (.inl h)
    ·rintro (h | h | h)
     ·exact .inl h
     ·exact .inr h
     ·subst h; exact (hm _).1 hin
   ·rw [decide_eq_false hin] at hcon
    obtain ⟨n1, h2, p1, A2⟩ := A.push hlo (by rw [List.length_append]; omega) M[i]
    rw [List.append_assoc] at A2
    rw [List.length_append] at p1 A2
    simp [-List.mem_append, C.f75L1, z0, z1, z5, h34, h35, h36, h5, hlt, a1, b1, hcon, Qjj, n1, p1, wrap64 (n := (i : Int) + 1) (by omega) (by omega)]
    refine ⟨i + 1, by omega, by omega, by simp, T' ++ [M[i]], A2, ?_, ⟨T ++ [M[i]], by rw [hT, List.append_assoc]⟩, fun s hs => ?_, fun s => ?_⟩
    ·rw [List.nodup_append]
     exact ⟨hN', by simp, fun a ha b hb => by
      simp only [List.mem_singleton] at hb
      subst hb; intro e; subst e; exact hin (List.mem_append.2 (.inr ha))⟩
    ·rcases List.mem_append.1 hs with h | h
     ·exact hTU s h
     ·simp only [List.mem_singleton] at h; subst h; exact hU _ (List.getElem_mem hlt)
    ·rw [← List.append_assoc, hma, hm, hts, or_assoc]
  ·have : i = M.length := by omega
   subst this
   rw [List.take_length] at hm
   simp [-List.mem_append, C.f75L1, z0, z1, z5, h34, h35, h36, h5]
   exact ⟨T', A, hN', ⟨T, hT⟩, hTU, hm⟩
 ·show M.length - 0 < 1000000; omega
 ·exact ⟨by omega, z0, z1, z5, h34, h35, h36, w, T0, h5, H, hN, ⟨[], by simp⟩, hLU, by simp⟩
end Go.Am
end
section
namespace Go.Am
open Go
theorem Add.box {st0 : St} {w0 : AV} {h : Qc} {c lo : Nat} {w : AV} {L : List Str} (A : Add st0 w0 ⟨h, c, lo⟩ w L) (x : Qe) : Add st0 w0 ⟨(c, x) :: h, c + 1, lo⟩ w L where
 c := Nat.le_succ_of_le A.c
 lo := A.lo
 hb := HB.cons (h := h) (c := c) (lo := lo) A.hb (by omega) (by omega)
 sl := A.sl.heap fun o ho => Qu (A.own o ho).1
 own := fun p hp => ⟨Nat.lt_succ_of_lt (A.own p hp).1, (A.own p hp).2⟩
 fr := fun p hp hne => by
  have : st0.c <= c := A.c
  show Q0 ((c, x) :: h) p = _
  rw [Qu (by omega)]; exact A.fr p hp hne
theorem Add.refl' {st0 : St} {w0 : AV} {st : St} {w : AV} {L : List Str} (A : Add st0 w0 st w L) : Add st w st w L := Add.start A.hb A.sl fun p hp => ⟨(A.own p hp).1, (A.own p hp).2.1⟩
def Q3v (g : Q7) : List Str := g.start :: g.rules.flatMap (·.right)
theorem Q6k {g : Q7} (hs : g.Small) : (Q3v g).length <= 400 := by
 have hm := hs.many
 have hr : ∀ r ∈ g.rules, r.right.length <= 30 := fun r hr => (hs.rules r hr).right
 unfold Q3v
 generalize g.rules = R at hm hr
 have : ∀ R : List Q0h, (∀ r ∈ R, r.right.length <= 30) -> (R.flatMap (·.right)).length <= R.length * 30 := by
  intro R
  induction R with
  | nil => simp
  | cons r R ih =>
   intro h
   rw [List.flatMap_cons, List.length_append, List.length_cons, Nat.succ_mul]
   have := h r (by simp)
   have := ih fun r hr => h r (List.mem_cons_of_mem _ hr)
   omega
 have := this R hr
 simp only [List.length_cons]; omega
theorem Q91 {g : Q7} {r : Q0h} (hr : r ∈ g.rules) {s : Str} (hs : s ∈ r.right) : s ∈ Q3v g := List.mem_cons_of_mem _ (List.mem_flatMap.2 ⟨r, hr, hs⟩)
theorem Qg4 {g : Q7} {s : Str} (h : Reach g s) : s ∈ Q3v g := by
 cases h with
 | start => simp [Q3v]
 | step hr _ hx => exact Q91 hr hx
section
variable {k : Nat} {g : Q7} {rv : AV} {l : List AV} {st0 : St} {w0 : AV}
set_option maxHeartbeats 1000000 in
theorem Qgz (hr : Qr rv 3 l) (hrs : Q0p l g.rules) (hs : g.Small) (hlo : st0.lo <= st0.c) (i : Nat) (a2 : AV) {st : St} {w : AV} {L0 : List Str} (A : Add st0 w0 st w L0) (hN : L0.Nodup) (hR : ∀ s ∈ L0, Reach g s) (hi : i < L0.length)
  (ts0 : TS) (h2 : ts0.get 2 = a2) (h5 : ts0.get 5 = w) (h6 : ts0.get 6 = .int .i64 (i : Int)) (h20 : ts0.get 20 = rv) (h21 : ts0.get 21 = .int .i64 (g.rules.length : Int)) (h22 : ts0.get 22 = .int .i64 ((0 : Nat) : Int)) :
  (Q0l (Qn E (Q6 E (k + 2)) C.f69L1) E.k ts0 st).to fun x => x.1 = .exit 2 /\ x.2.1.get 2 = a2 /\ x.2.1.get 6 = .int .i64 (i : Int) /\ ∃ (w' : AV) (L' : List Str), x.2.1.get 5 = w' /\ Add st0 w0 x.2.2 w' L' /\ L'.Nodup /\ (∃ T, L' = L0 ++ T) /\ (∀ s ∈ L', Reach g s) /\ ∀ r ∈ g.rules, r.left = L0[i] -> ∀ s ∈ r.right, s ∈ L' := by
 have hln := hrs.length
 have hmany := hs.many
 have hUl := Q6k hs
 refine Qs (fun (j : Nat) ts st => j <= g.rules.length /\ ts.get 2 = a2 /\ ts.get 6 = .int .i64 (i : Int) /\ ts.get 20 = rv /\ ts.get 21 = .int .i64 (g.rules.length : Int) /\ ts.get 22 = .int .i64 (j : Int) /\ ∃ (w' : AV) (L' : List Str), ts.get 5 = w' /\ Add st0 w0 st w' L' /\ L'.Nodup /\ (∃ T, L' = L0 ++ T) /\ (∀ s ∈ L', Reach g s) /\ ∀ q (hq : q < g.rules.length), q < j -> g.rules[q].left = L0[i] -> ∀ s ∈ g.rules[q].right, s ∈ L')
  (fun j => g.rules.length - j) (fun e ts st => e = .exit 2 /\ ts.get 2 = a2 /\ ts.get 6 = .int .i64 (i : Int) /\ ∃ (w' : AV) (L' : List Str), ts.get 5 = w' /\ Add st0 w0 st w' L' /\ L'.Nodup /\ (∃ T, L' = L0 ++ T) /\ (∀ s ∈ L', Reach g s) /\ ∀ r ∈ g.rules, r.left = L0[i] -> ∀ s ∈ r.right, s ∈ L') ?_ _ 0 _ _ ?_ ?_
 ·rintro j ts st ⟨hj, h2, h6, h20, h21, h22, w', L', h5, A, hN', ⟨T, hT⟩, hR', hall⟩
  by_cases hlt : j < g.rules.length
  ·have hil : j < l.length := by omega
   obtain ⟨w1, e1, e2⟩ := (hrs.get j hlt).2
   have hsm := hs.rules _ (List.getElem_mem hlt)
   have hsr := hsm.right
   obtain ⟨h, c, lo⟩ := st
   have hb' : ∀ p x, (p, x) ∈ h -> p < c := A.hb
   have hlo1 : lo = st0.lo := A.lo
   have hcc : st0.c <= c := A.c
   obtain ⟨rc, hrc⟩ : ∃ rc : List AV, rc = [.str g.rules[j].left, w1, .int .i64 g.rules[j].level] := ⟨_, rfl⟩
   have A1 := A.box (.cells 68 3 rc false)
   obtain ⟨h', hh'⟩ : ∃ h' : Qc, h' = (c, Qe.cells 68 3 rc false) :: h := ⟨_, rfl⟩
   rw [← hh'] at A1
   have hix : Qj 3 rv (.int .i64 (j : Int)) ⟨h, c + 1, lo⟩ = some (.pval l[j].cells, ⟨h, c + 1, lo⟩) := hr.idx hil
   have hcells : l[j].cells = rc := by rw [e1, hrc]; rfl
   rw [hcells] at hix
   have hn : newObj c (.cells 68 3 [.str [], .snil, .int .i64 0] false) ⟨h, c + 1, lo⟩ = some ⟨(c, .cells 68 3 [.str [], .snil, .int .i64 0] false) :: h, c + 1, lo⟩ := Qf hb'
   have hst := Q1k (h := h) (c := c) (c' := c + 1) (lo := lo) (ty := 68) (n := 3) (zs := [.str [], .snil, .int .i64 0]) (vs := rc) (by omega) (by rw [hrc]; rfl) rfl
   rw [← hh'] at hst
   have hrd3 : Ql h (.pval rc) 3 = some rc := by rw [hrc]; rfl
   have fc : Q0 h' c = some (.cells 68 3 rc false) := by rw [hh', Q3, if_pos rfl]
   have rc0 : Q5 h' (.pobj c 0) = some (.str g.rules[j].left) := by rw [Q4 fc, hrc]; rfl
   have rc1 : Q5 h' (.pobj c 1) = some w1 := by rw [Q4 fc, hrc]; rfl
   have hiL : i < L'.length := by rw [hT, List.length_append]; omega
   have hLi : L'[i] = L0[i] := by simp only [hT]; exact List.getElem_append_left hi
   obtain ⟨q, a1, b1⟩ := A1.sl.reads.at_ i hiL ⟨h', c + 1, lo⟩ rfl
   rw [hLi] at b1
   have hnext : ∀ (L'' : List Str), (∀ s ∈ L', s ∈ L'') -> (g.rules[j].left = L0[i] -> ∀ s ∈ g.rules[j].right, s ∈ L'') -> ∀ q (hq : q < g.rules.length), q < j + 1 -> g.rules[q].left = L0[i] -> ∀ s ∈ g.rules[q].right, s ∈ L'' := fun L'' h1 h2 q hq hqj he s hs => by
    rcases Nat.lt_or_ge q j with h | h
    ·exact h1 s (hall q hq h he s hs)
    ·have : q = j := by omega
     subst this; exact h2 he s hs
   by_cases he : g.rules[j].left = L0[i]
   ·have hbne : (g.rules[j].left == L0[i]) = true := by simp [he]
    have q1 : ∀ o, Qh w1 = some o -> o < (St.mk h' (c + 1) lo).c /\ Qh w' ≠ some o := fun o ho => by
     rcases e2.out with ⟨rfl, _⟩ | ⟨t, rfl⟩ <;> cases ho
    have q2 : g.rules[j].right.length <= 1000 := by omega
    have q3 : (Q3v g).length <= 900 := by omega
    have q4 : (St.mk h' (c + 1) lo).lo <= (St.mk h' (c + 1) lo).c := by show lo <= c + 1; omega
    have loop := Qka (k := k) (base := w1) (w := w') (M := g.rules[j].right) (L := L') (U := Q3v g) (st := ⟨h', c + 1, lo⟩) (fun _ _ => Reads.ofSl e2) q1 q2 (fun s hs => Q91 (List.getElem_mem hlt) hs) q3 A1.refl' q4 hN' (fun s hs => Qg4 (hR' s hs)) a2
    have hlr : Qw .slice w1 ⟨h', c + 1, lo⟩ = some (.int .i64 (g.rules[j].right.length : Int), ⟨h', c + 1, lo⟩) := by have := e2.len (st := ⟨h', c + 1, lo⟩); simpa using this
    simp [C.f69L1, h2, h5, h6, h20, h21, h22, hlt, hix, -Q0i, hrd3, hn, hst, rc0, rc1, a1, b1, hbne, hlr]
    refine M.to_bind (loop _ _ _ _ _ (by simp [h2]) (by simp [h6]; rfl) (by simp [h20]; rfl) (by simp [h21]; rfl) (by simp [h22]; rfl) (by simp [h5]) (by simp) (by simp) (by simp)) fun x hx => ?_
    obtain ⟨e, ts1, st1⟩ := x
    obtain ⟨ee, g2, g6, g20, g21, g22, w'', L'', g5, A2, hN2, ⟨T2, hT2⟩, hm2⟩ := hx
    simp only at ee g2 g6 g20 g21 g22 g5 A2
    subst ee
    simp [g2, g6, g20, g21, g22, g5, wrap64 (n := (j : Int) + 1) (by omega) (by omega)]
    refine ⟨j + 1, by omega, by omega, by simp, L'', A1.trans A2, hN2, ⟨T ++ T2, by rw [hT2, hT, List.append_assoc]⟩, fun s hs => ?_, hnext L'' (fun s hs => (hm2 s).2 (.inl hs)) fun _ s hs => (hm2 s).2 (.inr hs)⟩
    rcases (hm2 s).1 hs with h | h
    ·exact hR' s h
    ·exact .step (List.getElem_mem hlt) (by rw [he]; exact hR _ (List.getElem_mem hi)) h
   ·have hbne : (g.rules[j].left == L0[i]) = false := beq_false_of_ne he
    simp [C.f69L1, h2, h5, h6, h20, h21, h22, hlt, hix, -Q0i, hrd3, hn, hst, rc0, rc1, a1, b1, hbne, wrap64 (n := (j : Int) + 1) (by omega) (by omega)]
    exact ⟨j + 1, by omega, by omega, by simp, L', A1, hN', ⟨T, hT⟩, hR', hnext L' (fun s hs => hs) fun h => absurd h he⟩
  ·have : j = g.rules.length := by omega
   subst this
   simp [C.f69L1, h2, h5, h6, h20, h21, h22]
   refine ⟨L', A, hN', ⟨T, hT⟩, hR', fun r hr he s hs => ?_⟩
   obtain ⟨q, hq, rfl⟩ := List.getElem_of_mem hr
   exact hall q hq hq he s hs
 ·show g.rules.length - 0 < 1000000; omega
 ·exact ⟨by omega, h2, h6, h20, h21, h22, w, L0, h5, A, hN, ⟨[], by simp⟩, hR, fun q _ h => by omega⟩
theorem Qh0 {kv : AV} {cg : Nat} (hr : Qr rv 3 l) (hrs : Q0p l g.rules) (hs : g.Small) (hlo : st0.lo <= st0.c) (hcg : cg < st0.c) (hw0 : Qh w0 ≠ some cg) (hg0 : Q0 st0.h cg = some (.cells 29 3 [kv, .str g.start, rv] false)) {st : St} (A : Add st0 w0 st w0 [g.start])
  (ts0 : TS) (h2 : ts0.get 2 = .pobj cg 0) (h5 : ts0.get 5 = w0) (h6 : ts0.get 6 = .int .i64 ((0 : Nat) : Int)) :
  (Q0l (Qn E (Q6 E (k + 2)) C.f69L0) E.k ts0 st).to fun x => x.1 = .exit 0 /\ ∃ (w' : AV) (L' : List Str), x.2.1.get 5 = w' /\ Add st0 w0 x.2.2 w' L' /\ L'.length <= 400 /\ ∀ s, s ∈ L' ↔ Reach g s := by
 have hln := hrs.length
 have hmany := hs.many
 have hUl := Q6k hs
 refine Qs (fun (i : Nat) ts st => ts.get 2 = .pobj cg 0 /\ ts.get 6 = .int .i64 (i : Int) /\ ∃ (w' : AV) (L' : List Str), ts.get 5 = w' /\ Add st0 w0 st w' L' /\ i <= L'.length /\ L'.Nodup /\ g.start ∈ L' /\ (∀ s ∈ L', Reach g s) /\ ∀ q (hq : q < L'.length), q < i -> ∀ r ∈ g.rules, r.left = L'[q] -> ∀ s ∈ r.right, s ∈ L')
  (fun i => 500 - i) (fun e ts st => e = .exit 0 /\ ∃ (w' : AV) (L' : List Str), ts.get 5 = w' /\ Add st0 w0 st w' L' /\ L'.length <= 400 /\ ∀ s, s ∈ L' ↔ Reach g s) ?_ _ 0 _ _ ?_ ?_
 ·rintro i ts st ⟨h2, h6, w', L', h5, A, hi, hN, hS, hR, hall⟩
  have hlen := Q70 hN fun s hs => Qg4 (hR s hs)
  have hlL : Qw .slice w' st = some (.int .i64 (L'.length : Int), st) := by simp [Qw, A.sl.len]
  by_cases hlt : i < L'.length
  ·have r2 : Q5 st.h (.pobj cg 2) = some rv := by rw [Q4 ((A.fr cg hcg hw0).trans hg0)]; rfl
   have hlr : ∀ S' : St, Qw .slice rv S' = some (.int .i64 (g.rules.length : Int), S') := fun S' => by have := hr.len (st := S'); rw [this, hln]
   simp [C.f69L0, h2, h5, h6, hlL, hlt, r2, hlr]
   refine M.to_bind (Qgz (k := k) hr hrs hs hlo i (.pobj cg 0) A hN hR hlt _ (by simp [h2]) (by simp [h5]) (by simp [h6]) (by simp) (by simp) (by simp)) fun x hx => ?_
   obtain ⟨e, ts1, st1⟩ := x
   obtain ⟨ee, g2, g6, w'', L'', g5, A2, hN2, ⟨T, hT⟩, hR2, hm2⟩ := hx
   simp only at ee g2 g6 g5 A2
   subst ee
   have hlen2 : L'.length <= L''.length := by rw [hT, List.length_append]; omega
   simp [g2, g6, g5, wrap64 (n := (i : Int) + 1) (by omega) (by omega)]
   refine ⟨i + 1, by omega, by simp, L'', A2, by omega, hN2, by rw [hT]; exact List.mem_append.2 (.inl hS), hR2, fun q hq hqi r hr he s hs => ?_⟩
   have hql : q < L'.length := by omega
   have eq : L''[q] = L'[q] := by simp only [hT]; exact List.getElem_append_left hql
   rw [eq] at he
   rcases Nat.lt_or_ge q i with h | h
   ·have := hall q hql h r hr he s hs
    rw [hT]; exact List.mem_append.2 (.inl this)
   ·have : q = i := by omega
    subst this; exact hm2 r hr he s hs
  ·have : i = L'.length := by omega
   subst this
   simp [C.f69L0, h2, h5, h6, hlL]
   refine ⟨L', A, by omega, fun s => ⟨hR s, fun h => ?_⟩⟩
   induction h with
   | start => exact hS
   | step hr _ hx ih =>
    obtain ⟨q, hq, e⟩ := List.getElem_of_mem ih
    exact hall q hq hq _ hr e.symm _ hx
 ·show 500 - 0 < 1000000; omega
 ·exact ⟨h2, h6, w0, [g.start], h5, A, by omega, by simp, by simp, fun s hs => by
   simp only [List.mem_singleton] at hs; subst hs; exact .start, fun q _ h => by omega⟩
end
theorem SSl.thS {h : Qc} {w : AV} {L : List Str} {c : Nat} (H : SSl h w L) (hc : ∀ p, Qh w = some p -> c < p) : ThS c h w L := by
 cases H with
 | nl => exact .inl ⟨rfl, rfl⟩
 | ob id _ h0 hf => exact .inr ⟨id, _, 9, true, rfl, hc id rfl, hf⟩
 | lit id _ h0 hf => exact .inr ⟨id, _, 9, false, rfl, hc id rfl, hf⟩
theorem Qk9 {k : Nat} {v : AV} {g : Q7} {st : St} (hg : Q02 v g) (hs : g.Small) (hb : HB st) :
  ∃ w L, Q6 E (k + 3) 69 [v, .str g.start] st = .ret (w, st) /\ Qr w 1 (strs L) /\ L.length <= 400 /\ ∀ s, s ∈ L ↔ Reach g s := by
 obtain ⟨kv, rv, l, rfl, hk, hr, hrs⟩ := hg
 rw [Q0e (fn := C.f69) rfl rfl rfl, Qg (by simp)]
 have goal : ((Qn E (Q6 E (k + 2)) C.f69.body (TS.ofArgs [.agg [kv, .str g.start, rv], .str g.start] 0 .nil) { st with lo := st.c }).bind (Qb C.f69.results)).to fun x => ∃ L, SSl x.2.h x.1 L /\ (∀ p, Qh x.1 = some p -> st.c < p) /\ L.length <= 400 /\ ∀ s, s ∈ L ↔ Reach g s := by
  have hb' : ∀ p x, (p, x) ∈ st.h -> p < st.c := hb
  have hbx : Q0z st.c 29 3 (.agg [kv, .str g.start, rv]) = some (.pobj st.c 0, .cells 29 3 [kv, .str g.start, rv] false) := rfl
  obtain ⟨h1, hh1⟩ : ∃ h : Qc, h = (st.c, Qe.cells 29 3 [kv, .str g.start, rv] false) :: st.h := ⟨_, rfl⟩
  have n1 : newObj st.c (.cells 29 3 [kv, .str g.start, rv] false) ⟨st.h, st.c + 1, st.c⟩ = some ⟨h1, st.c + 1, st.c⟩ := by rw [hh1]; exact Qf hb'
  have hb1 : HB ⟨h1, st.c + 1, st.c⟩ := by rw [hh1]; exact HB.cons (h := st.h) (c := st.c) (lo := st.c) hb (by omega) (by omega)
  obtain ⟨h2, hh2⟩ : ∃ h : Qc, h = (st.c + 1, Qe.cells 9 1 [.str g.start] false) :: h1 := ⟨_, rfl⟩
  have n2 : newObj (st.c + 1) (.cells 9 1 [.str g.start] false) ⟨h1, st.c + 2, st.c⟩ = some ⟨h2, st.c + 2, st.c⟩ := by rw [hh2]; exact Qf hb1
  have hb2 : HB ⟨h2, st.c + 2, st.c⟩ := by rw [hh2]; exact HB.cons (h := h1) (c := st.c + 1) (lo := st.c) hb1 (by omega) (by omega)
  have f0 : Q0 h2 st.c = some (.cells 29 3 [kv, .str g.start, rv] false) := by rw [hh2, Qu (by omega), hh1, Q3, if_pos rfl]
  have S0 : SSl h2 (.sobj (st.c + 1) 0 1 (some 1)) [g.start] := .lit (st.c + 1) [g.start] (by simp) (by rw [hh2, Q3, if_pos rfl]; rfl)
  have A0 : Add ⟨h2, st.c + 2, st.c⟩ (.sobj (st.c + 1) 0 1 (some 1)) ⟨h2, st.c + 2, st.c⟩ (.sobj (st.c + 1) 0 1 (some 1)) [g.start] := Add.start hb2 S0 fun p hp => by
   simp only [Qh, Option.some.injEq] at hp
   subst hp
   exact ⟨by show st.c + 1 < st.c + 2; omega, by show st.c <= st.c + 1; omega⟩
  simp [C.f69, hbx, n1, Qjj, n2]
  refine M.to_bind (Qh0 (k := k) (kv := kv) hr hrs hs (by show st.c <= st.c + 2; omega) (cg := st.c) (by show st.c < st.c + 2; omega) (by simp [Qh]) f0 A0 _ (by simp) (by simp) (by simp)) fun x hx => ?_
  obtain ⟨e, ts1, st1⟩ := x
  obtain ⟨ee, w', L', g5, A, hL4, hm⟩ := hx
  simp only at ee g5 A
  subst ee
  simp [g5, Qb, results, Q9]
  refine ⟨L', A.sl, fun p hp => ?_, hL4, hm⟩
  rcases (A.own p hp).2.2 with h | h
  ·simp only [Qh, Option.some.injEq] at h; omega
  ·have : st.c + 2 <= p := h
   omega
 obtain ⟨⟨w, st'⟩, h1, L, hS, hc, hL4, hm⟩ := goal
 obtain ⟨w', g1, g2⟩ := (hS.thS hc).thaw
 exact ⟨w', L, by rw [h1]; simp only [M.ret_bind, Qt, Q0c, g2 64 (by omega)], g1, hL4, hm⟩
theorem Qgw {k q : Nat} {w : AV} {L : List Str} {st0 : St} (hw : Qr w 1 (strs L)) (hl : L.length < 1000000) (hq : q < st0.c) (hf : Q0 st0.h q = some (.cells 26 1 [w] false)) :
  PredAt (k + 3) 70 [] [.pobj q 0] st0 fun x => !decide (x ∈ L) := by
 intro st x hst
 rw [Q0e (fn := C.f70) rfl rfl rfl, Qg (by simp)]
 have r : Q5 st.h (.pobj q 0) = some w := by rw [Q4 ((hst.fr q hq).trans hf)]; rfl
 have hc := Q86 (k := k) (x := x) (st := ⟨st.h, st.c, st.c⟩) hw hl
 simp [C.f70, r, hc, Qb, results, Q9]
theorem Qej {k : Nat} {v : AV} {g : Q7} {st : St} (hg : Q02 v g) (hs : g.Small) (h0 : 0 < g.rules.length) :
  ∃ w, ∃ p : Str -> Bool, Q6 E (k + 8) 15 [v] st = .ret (w, st) /\ Qr w 1 (strs (g.lefts.filter fun s => !p s)) /\ ∀ s, p s = true ↔ Reach g s := by
 have hold := hg.oldB 0
 have hg' := hg
 obtain ⟨kv, rv, l, rfl, hk, hr, hrs⟩ := hg'
 rw [Q0b (fn := C.f15) rfl rfl rfl (by simp [AV.olds, hold]), Qg (by simp)]
 have hbx : Q0z 0 29 3 (.agg [kv, .str g.start, rv]) = some (.pobj 0 0, .cells 29 3 [kv, .str g.start, rv] false) := rfl
 have n1 := Q3a (c' := 1) (lo := 0) (ty := 29) (n := 3) (cs := [kv, .str g.start, rv]) HB.nil
 obtain ⟨h1, hh1⟩ : ∃ h1 : Qc, h1 = [(0, Qe.cells 29 3 [kv, .str g.start, rv] false)] := ⟨_, rfl⟩
 rw [← hh1] at n1
 have X1 : Q0r ⟨[], 0, 0⟩ ⟨h1, 1, 0⟩ := by rw [hh1]; exact (Q0r.refl HB.nil).cons (lo := 0) (by omega)
 have fg : Q0 h1 0 = some (.cells 29 3 [kv, .str g.start, rv] false) := by rw [hh1, Q3, if_pos rfl]
 have rg : Ql h1 (.pobj 0 0) 3 = some [kv, .str g.start, rv] := Qq fg rfl
 have rs : Q5 h1 (.pobj 0 1) = some (.str g.start) := by rw [Q4 fg]; rfl
 obtain ⟨w1, L, e1, e2, hL4, e3⟩ := Qk9 (k := k + 4) (st := ⟨h1, 2, 0⟩) hg hs (X1.hb.up (by omega))
 have hLl : L.length < 1000000 := by omega
 have n2 : newObj 1 (.cells 26 1 [.snil] false) ⟨h1, 2, 0⟩ = some ⟨(1, .cells 26 1 [.snil] false) :: h1, 2, 0⟩ := Qf X1.hb
 obtain ⟨h2, hh2⟩ : ∃ h2 : Qc, h2 = (1, Qe.cells 26 1 [w1] false) :: h1 := ⟨_, rfl⟩
 have hone : w1.isTuple = false /\ w1.cells = [w1] := by rcases e2.out with ⟨rfl, _⟩ | ⟨t, rfl⟩ <;> exact ⟨rfl, rfl⟩
 have s2 : Q0n 1 (.pobj 1 0) w1 ⟨(1, .cells 26 1 [.snil] false) :: h1, 2, 0⟩ = some (.undef, ⟨h2, 2, 0⟩) := by
  rw [Q07 (cs := [.snil]) (ty := 26) (sz := 1) (ext := false) (by rw [Q3, if_pos rfl]) (by show 0 <= 1; omega) (by simp) hone.1 hone.2, hh2]
  simp [hset]
 have hb2 : HB ⟨h2, 2, 0⟩ := by rw [hh2]; exact HB.cons (h := h1) (c := 1) (lo := 0) X1.hb (by omega) (by omega)
 have rg2 : Ql h2 (.pobj 0 0) 3 = some [kv, .str g.start, rv] := Qq (by rw [hh2, Qu (by omega)]; exact fg) rfl
 have f3 : Q0 h2 1 = some (.cells 26 1 [w1] false) := by rw [hh2, Q3, if_pos rfl]
 have hN := Qgw (k := k) (q := 1) (st0 := ⟨h2, 2, 0⟩) e2 hLl (by show 1 < 2; omega) f3
 obtain ⟨w, e5, e6⟩ := Q8d (k := k) (st := ⟨h2, 2, 0⟩) hg hs h0 hb2 hN
 have hth : thaw 0 h2 64 w = some w := Q13 (n := 63) (e6.oldB 0)
 refine ⟨w, fun x => decide (x ∈ L), ?_, e6, fun s => by rw [decide_eq_true_eq]; exact e3 s⟩
 simp [C.f15, hbx, n1, rg, rs, e1, n2, s2, rg2, e5, Qb, results, Q9, Qt, Q0c, hth]
end Go.Am
end
section
namespace Go.Am
open Go
def okQ (K : List Str) (r : List Str) (q : Nat) : Bool := ((r.take q).all fun y => decide (y ∈ K)) && (r.drop (q + 1)).all fun y => decide (y ∈ K)
section
variable {k : Nat} {K : List Str} {g : Q7} {l : List AV} {rv : AV}
set_option maxHeartbeats 2000000 in
theorem Qlg {s : Str} {gp ep rb : Nat} {r : Q0h} {w1 w lvv : AV} {L : List Str} {st : St} (e2 : Qr w1 1 (strs r.right)) (hrl : r.right.length <= 30)
  (hrb : rb < st.c) (hrw : Qh w ≠ some rb) (hrf : Q0 st.h rb = some (.cells 68 3 [.str r.left, w1, lvv] false)) (hep : ep < st.c) (hew : Qh w ≠ some ep) (hef : Q0 st.h ep = some (.cells 51 1 [.fn (.func 188) [] [.pval [Q0u K]]] false))
  (H : Add st w st w L) (hlo : st.lo <= st.c) (hL : L.length <= 900) (a1 a11 a12 a13 : AV)
  (ts0 : TS) (z0 : ts0.get 0 = .str s) (z1 : ts0.get 1 = a1) (z2 : ts0.get 2 = .pobj ep 0) (z11 : ts0.get 11 = a11) (z12 : ts0.get 12 = a12) (z13 : ts0.get 13 = a13) (z7 : ts0.get 7 = .pobj rb 0) (h5 : ts0.get 5 = w) (h18 : ts0.get 18 = w1) (h19 : ts0.get 19 = .int .i64 (r.right.length : Int)) (h20 : ts0.get 20 = .int .i64 ((0 : Nat) : Int)) :
  (Q0l (Qn E (Q6 E (k + 5)) C.f73L1) E.k ts0 st).to fun x => x.1 = .exit 2 /\ x.2.1.get 0 = .str s /\ x.2.1.get 1 = a1 /\ x.2.1.get 2 = .pobj ep 0 /\ x.2.1.get 11 = a11 /\ x.2.1.get 12 = a12 /\ x.2.1.get 13 = a13 /\ ∃ (w' : AV) (T : List Str), x.2.1.get 5 = w' /\ Add st w x.2.2 w' (L ++ T) /\ T.length <= r.right.length /\ ∀ x, x ∈ T ↔ r.left = s /\ ∃ q, q < r.right.length /\ r.right.getD q [] = x /\ okQ K r.right q = true := by
 refine Qs (fun (i : Nat) ts st' => i <= r.right.length /\ ts.get 0 = .str s /\ ts.get 1 = a1 /\ ts.get 2 = .pobj ep 0 /\ ts.get 11 = a11 /\ ts.get 12 = a12 /\ ts.get 13 = a13 /\ ts.get 7 = .pobj rb 0 /\ ts.get 18 = w1 /\ ts.get 19 = .int .i64 (r.right.length : Int) /\ ts.get 20 = .int .i64 (i : Int) /\ ∃ (w' : AV) (T : List Str), ts.get 5 = w' /\ Add st w st' w' (L ++ T) /\ T.length <= i /\ ∀ x, x ∈ T ↔ r.left = s /\ ∃ q, q < i /\ r.right.getD q [] = x /\ okQ K r.right q = true)
  (fun i => r.right.length - i) (fun e ts st' => e = .exit 2 /\ ts.get 0 = .str s /\ ts.get 1 = a1 /\ ts.get 2 = .pobj ep 0 /\ ts.get 11 = a11 /\ ts.get 12 = a12 /\ ts.get 13 = a13 /\ ∃ (w' : AV) (T : List Str), ts.get 5 = w' /\ Add st w st' w' (L ++ T) /\ T.length <= r.right.length /\ ∀ x, x ∈ T ↔ r.left = s /\ ∃ q, q < r.right.length /\ r.right.getD q [] = x /\ okQ K r.right q = true) ?_ _ 0 _ _ ?_ ?_
 ·rintro i ts st' ⟨hi, z0, z1, z2, z11, z12, z13, z7, h18, h19, h20, w', T, h5, A, hTl, hT⟩
  by_cases hlt : i < r.right.length
  ·obtain ⟨h, c, lo⟩ := st'
   have hrf' := (A.fr rb hrb hrw).trans hrf
   have hef' := (A.fr ep hep hew).trans hef
   have rl : Q5 h (.pobj rb 0) = some (.str r.left) := by rw [Q4 hrf']; rfl
   have rr : Q5 h (.pobj rb 1) = some w1 := by rw [Q4 hrf']; rfl
   have re : Q5 h (.pobj ep 0) = some (.fn (.func 188) [] [.pval [Q0u K]]) := by rw [Q4 hef']; rfl
   obtain ⟨wa, ca, sa⟩ := e2.cut (st := ⟨h, c, lo⟩) (i := i) (by simp; omega)
   obtain ⟨wb, cb, sb⟩ := e2.from_ (st := ⟨h, c, lo⟩) (i := i + 1) (by simp; omega)
   have sa' : Qr wa 1 (strs (r.right.take i)) := by simpa [strs, List.map_take] using sa
   have sb' : Qr wb 1 (strs (r.right.drop (i + 1))) := by simpa [strs, List.map_drop] using sb
   have ea := Q8r (k := k + 1) (st := ⟨h, c, lo⟩) sa' (by rw [List.length_take]; omega) A.hb (Qcv (k := k) (K := K))
   have eb := Q8r (k := k + 1) (st := ⟨h, c, lo⟩) sb' (by rw [List.length_drop]; omega) A.hb (Qcv (k := k) (K := K))
   have hx := e2.idxS (st := ⟨h, c, lo⟩) hlt
   have cb' : Q0o 1 true false false [w1, .int .i64 ((i : Int) + 1)] ⟨h, c, lo⟩ = some (wb, ⟨h, c, lo⟩) := by have := cb; simpa using this
   have hgD : r.right.getD i [] = r.right[i] := by simp [List.getD, hlt]
   have hq : ∀ x, (∃ q, q < i + 1 /\ r.right.getD q [] = x /\ okQ K r.right q = true) ↔ (∃ q, q < i /\ r.right.getD q [] = x /\ okQ K r.right q = true) ∨ (r.right[i] = x /\ okQ K r.right i = true) := fun x => by
    constructor
    ·rintro ⟨q, h1, h2, h3⟩
     by_cases e : q = i
     ·subst e; exact .inr ⟨by rw [← hgD]; exact h2, h3⟩
     ·exact .inl ⟨q, by omega, h2, h3⟩
    ·rintro (⟨q, h1, h2, h3⟩ | ⟨h2, h3⟩)
     ·exact ⟨q, by omega, h2, h3⟩
     ·exact ⟨i, by omega, by rw [hgD]; exact h2, h3⟩
   have stay : (r.left = s -> okQ K r.right i = false) -> ∀ x, x ∈ T ↔ r.left = s /\ ∃ q, q < i + 1 /\ r.right.getD q [] = x /\ okQ K r.right q = true := fun hno x => by
    rw [hT, hq]
    constructor
    ·rintro ⟨h1, h2⟩; exact ⟨h1, .inl h2⟩
    ·rintro ⟨h1, h2 | ⟨h2, h3⟩⟩
     ·exact ⟨h1, h2⟩
     ·rw [hno h1] at h3; cases h3
   by_cases he : r.left = s
   ·have hbe : (r.left == s) = true := by simp [he]
    cases h1 : (r.right.take i).all fun y => decide (y ∈ K) with
    | false =>
     rw [h1] at ea
     have hno : okQ K r.right i = false := by unfold okQ; rw [h1]; rfl
     simp [C.f73L1, Q6l, Q79, z0, z1, z2, z7, z11, z12, z13, h5, h18, h19, h20, hlt, hx, rl, rr, re, hbe, ca, ea, wrap64 (n := (i : Int) + 1) (by omega) (by omega)]
     exact ⟨i + 1, by omega, by omega, by simp, T, A, by omega, stay fun _ => hno⟩
    | true =>
     rw [h1] at ea
     cases h2 : (r.right.drop (i + 1)).all fun y => decide (y ∈ K) with
     | false =>
      rw [h2] at eb
      have hno : okQ K r.right i = false := by unfold okQ; rw [h1, h2]; rfl
      simp [C.f73L1, Q6l, Q79, z0, z1, z2, z7, z11, z12, z13, h5, h18, h19, h20, hlt, hx, rl, rr, re, hbe, ca, ea, cb', eb, wrap64 (n := (i : Int) + 1) (by omega) (by omega)]
      exact ⟨i + 1, by omega, by omega, by simp, T, A, by omega, stay fun _ => hno⟩
     | true =>
      rw [h2] at eb
      have hyes : okQ K r.right i = true := by unfold okQ; rw [h1, h2]; rfl
      obtain ⟨n1, h2', p1, A2⟩ := A.push hlo (by rw [List.length_append]; omega) r.right[i]
      rw [List.append_assoc] at A2
      rw [List.length_append] at p1 A2
      simp [-List.mem_append, C.f73L1, Q6l, Q79, z0, z1, z2, z7, z11, z12, z13, h5, h18, h19, h20, hlt, hx, rl, rr, re, hbe, ca, ea, cb', eb, Qjj, n1, p1, wrap64 (n := (i : Int) + 1) (by omega) (by omega)]
      refine ⟨i + 1, by omega, by omega, by simp, T ++ [r.right[i]], A2, by simp; omega, fun x => ?_⟩
      have hma : x ∈ T ++ [r.right[i]] ↔ x ∈ T ∨ x = r.right[i] := by rw [List.mem_append (s := T), List.mem_singleton]
      have hq' := hq x
      simp only [List.getD_eq_getElem?_getD] at hq' hT ⊢
      rw [hma, hT, hq']
      constructor
      ·rintro (⟨a, b⟩ | h)
       ·exact ⟨a, .inl b⟩
       ·exact ⟨he, .inr ⟨h.symm, hyes⟩⟩
      ·rintro ⟨a, b | ⟨b, _⟩⟩
       ·exact .inl ⟨a, b⟩
       ·exact .inr b.symm
   ·have hbe : (r.left == s) = false := beq_false_of_ne he
    simp [C.f73L1, Q6l, Q79, z0, z1, z2, z7, z11, z12, z13, h5, h18, h19, h20, hlt, hx, rl, rr, re, hbe, wrap64 (n := (i : Int) + 1) (by omega) (by omega)]
    exact ⟨i + 1, by omega, by omega, by simp, T, A, by omega, stay fun h => absurd h he⟩
  ·have : i = r.right.length := by omega
   subst this
   simp [C.f73L1, z0, z1, z2, z7, z11, z12, z13, h5, h18, h19, h20]
   exact ⟨T, A, hTl, hT⟩
 ·show r.right.length - 0 < 1000000; omega
 ·exact ⟨by omega, z0, z1, z2, z11, z12, z13, z7, h18, h19, h20, w, [], h5, by simpa using H, by simp, by simp⟩
end
end Go.Am
end
section
namespace Go.Am
open Go
theorem Q7y (r : List Str) (q : Nat) (h : q < r.length) : r.getD q [] = r[q] := by simp [List.getD, h]
theorem Qpy {K : List Str} {g : Q7} (hK : ∀ s, s ∈ K ↔ Q3x g s) {s x : Str} : (∃ r ∈ g.rules, r.left = s /\ ∃ q, q < r.right.length /\ r.right.getD q [] = x /\ okQ K r.right q = true) ↔ Q8z g s x := by
 constructor
 ·rintro ⟨r, hr, hl, q, hq, hx, hok⟩
  refine ⟨r, hr, hl, r.right.take q, r.right.drop (q + 1), ?_, ?_⟩
  ·rw [← hx, Q7y _ _ hq, ← List.drop_eq_getElem_cons hq, List.take_append_drop]
  ·unfold okQ at hok
   simp only [Bool.and_eq_true, List.all_eq_true, decide_eq_true_eq] at hok
   exact ⟨fun y hy => (hK y).1 (hok.1 y hy), fun y hy => (hK y).1 (hok.2 y hy)⟩
 ·rintro ⟨r, hr, hl, a, b, he, ha, hb⟩
  refine ⟨r, hr, hl, a.length, by rw [he]; simp, by rw [he]; simp [List.getD], ?_⟩
  unfold okQ
  simp only [Bool.and_eq_true, List.all_eq_true, decide_eq_true_eq]
  refine ⟨fun y hy => (hK y).2 (ha y ?_), fun y hy => (hK y).2 (hb y ?_)⟩
  ·rw [he, List.take_left] at hy; exact hy
  ·rw [he] at hy
   have : (a ++ x :: b).drop (a.length + 1) = b := by rw [List.drop_append]; simp
   rw [this] at hy; exact hy
theorem Qpx {g : Q7} {s x : Str} (h : Q8z g s x) : x ∈ Q3v g := by
 obtain ⟨r, hr, _, a, b, he, _⟩ := h
 exact Q91 hr (by rw [he]; simp)
section
variable {k : Nat} {K : List Str} {g : Q7} {l : List AV} {rv kv : AV}
set_option maxHeartbeats 1000000 in
theorem Qlf {s : Str} {ep : Nat} {st0 : St} (hr : Qr rv 3 l) (hrs : Q0p l g.rules) (hs : g.Small) (hb0 : HB st0) (hlo : st0.lo <= st0.c) (hep : ep < st0.c) (hef : Q0 st0.h ep = some (.cells 51 1 [.fn (.func 188) [] [.pval [Q0u K]]] false)) (a1 : AV)
  (ts0 : TS) (z0 : ts0.get 0 = .str s) (z1 : ts0.get 1 = a1) (z2 : ts0.get 2 = .pobj ep 0) (h5 : ts0.get 5 = .snil) (h11 : ts0.get 11 = rv) (h12 : ts0.get 12 = .int .i64 (g.rules.length : Int)) (h13 : ts0.get 13 = .int .i64 ((0 : Nat) : Int)) :
  (Q0l (Qn E (Q6 E (k + 5)) C.f73L0) E.k ts0 st0).to fun x => x.1 = .exit 0 /\ ∃ (w' : AV) (L : List Str), x.2.1.get 5 = w' /\ Add st0 .snil x.2.2 w' L /\ L.length <= 400 /\ ∀ x, x ∈ L ↔ ∃ r ∈ g.rules, r.left = s /\ ∃ q, q < r.right.length /\ r.right.getD q [] = x /\ okQ K r.right q = true := by
 have hln := hrs.length
 have hmany := hs.many
 refine Qs (fun (i : Nat) ts st => i <= g.rules.length /\ ts.get 0 = .str s /\ ts.get 1 = a1 /\ ts.get 2 = .pobj ep 0 /\ ts.get 11 = rv /\ ts.get 12 = .int .i64 (g.rules.length : Int) /\ ts.get 13 = .int .i64 (i : Int) /\ ∃ (w' : AV) (L : List Str), ts.get 5 = w' /\ Add st0 .snil st w' L /\ L.length <= 30 * i /\ ∀ x, x ∈ L ↔ ∃ j, ∃ hj : j < g.rules.length, j < i /\ g.rules[j].left = s /\ ∃ q, q < g.rules[j].right.length /\ g.rules[j].right.getD q [] = x /\ okQ K g.rules[j].right q = true)
  (fun i => g.rules.length - i) (fun e ts st => e = .exit 0 /\ ∃ (w' : AV) (L : List Str), ts.get 5 = w' /\ Add st0 .snil st w' L /\ L.length <= 400 /\ ∀ x, x ∈ L ↔ ∃ r ∈ g.rules, r.left = s /\ ∃ q, q < r.right.length /\ r.right.getD q [] = x /\ okQ K r.right q = true) ?_ _ 0 _ _ ?_ ?_
 ·rintro i ts st ⟨hi, z0, z1, z2, h11, h12, h13, w', L, h5, A, hLl, hL⟩
  by_cases hlt : i < g.rules.length
  ·have hil : i < l.length := by omega
   obtain ⟨w1, e1, e2⟩ := (hrs.get i hlt).2
   have hsm := hs.rules _ (List.getElem_mem hlt)
   have hsr := hsm.right
   obtain ⟨h, c, lo⟩ := st
   have hb' : ∀ p x, (p, x) ∈ h -> p < c := A.hb
   have hlo1 : lo = st0.lo := A.lo
   have hcc : st0.c <= c := A.c
   have hown : ∀ p, Qh w' = some p -> p < c /\ lo <= p /\ (Qh .snil = some p ∨ st0.c <= p) := A.own
   obtain ⟨rc, hrc⟩ : ∃ rc : List AV, rc = [.str g.rules[i].left, w1, .int .i64 g.rules[i].level] := ⟨_, rfl⟩
   have A1 := A.box (.cells 68 3 rc false)
   obtain ⟨h', hh'⟩ : ∃ h' : Qc, h' = (c, Qe.cells 68 3 rc false) :: h := ⟨_, rfl⟩
   rw [← hh'] at A1
   have hix : Qj 3 rv (.int .i64 (i : Int)) ⟨h, c + 1, lo⟩ = some (.pval l[i].cells, ⟨h, c + 1, lo⟩) := hr.idx hil
   have hcells : l[i].cells = rc := by rw [e1, hrc]; rfl
   rw [hcells] at hix
   have hn : newObj c (.cells 68 3 [.str [], .snil, .int .i64 0] false) ⟨h, c + 1, lo⟩ = some ⟨(c, .cells 68 3 [.str [], .snil, .int .i64 0] false) :: h, c + 1, lo⟩ := Qf hb'
   have hst := Q1k (h := h) (c := c) (c' := c + 1) (lo := lo) (ty := 68) (n := 3) (zs := [.str [], .snil, .int .i64 0]) (vs := rc) (by omega) (by rw [hrc]; rfl) rfl
   rw [← hh'] at hst
   have hrd3 : Ql h (.pval rc) 3 = some rc := by rw [hrc]; rfl
   have fc : Q0 h' c = some (.cells 68 3 rc false) := by rw [hh', Q3, if_pos rfl]
   have rc1 : Q5 h' (.pobj c 1) = some w1 := by rw [Q4 fc, hrc]; rfl
   have hlr : Qw .slice w1 ⟨h', c + 1, lo⟩ = some (.int .i64 (g.rules[i].right.length : Int), ⟨h', c + 1, lo⟩) := by have := e2.len (st := ⟨h', c + 1, lo⟩); simpa using this
   have q1 : c < (St.mk h' (c + 1) lo).c := Nat.lt_succ_self c
   have q2 : Qh w' ≠ some c := fun e => by have := (hown c e).1; omega
   have q3 : ep < (St.mk h' (c + 1) lo).c := by show ep < c + 1; omega
   have q4 : Qh w' ≠ some ep := fun e => by
    rcases (hown ep e).2.2 with h | h
    ·cases h
    ·omega
   have q5 : Q0 h' ep = some (.cells 51 1 [.fn (.func 188) [] [.pval [Q0u K]]] false) := (A1.fr ep hep (by simp [Qh])).trans hef
   have q6 : (St.mk h' (c + 1) lo).lo <= (St.mk h' (c + 1) lo).c := by show lo <= c + 1; omega
   have q7 : L.length <= 900 := by omega
   have loop := Qlg (k := k) (K := K) (s := s) (gp := 0) (ep := ep) (rb := c) (r := g.rules[i]) (w := w') (L := L) (st := ⟨h', c + 1, lo⟩) e2 hsr q1 q2 (hrc ▸ fc) q3 q4 q5 A1.refl' q6 q7 a1
   simp [C.f73L0, z0, z1, z2, h5, h11, h12, h13, hlt, hix, -Q0i, hrd3, hn, hst, rc1, hlr]
   refine M.to_bind (loop _ _ _ _ (by simp [z0]) (by simp [z1]) (by simp [z2]) (by simp [h11]; rfl) (by simp [h12]; rfl) (by simp [h13]; rfl) (by simp) (by simp [h5]) (by simp) (by simp) (by simp)) fun x hx => ?_
   obtain ⟨e, ts1, st1⟩ := x
   obtain ⟨ee, g0, g1, g2, g11, g12, g13, w'', T, g5, A2, hTl, hT⟩ := hx
   simp only at ee g0 g1 g2 g11 g12 g13 g5 A2
   subst ee
   simp [-List.getD_eq_getElem?_getD, g0, g1, g2, g11, g12, g13, g5, wrap64 (n := (i : Int) + 1) (by omega) (by omega)]
   refine ⟨i + 1, by omega, by omega, by simp, L ++ T, A1.trans A2, by rw [List.length_append]; omega, fun x => ?_⟩
   rw [List.mem_append, hL, hT]
   constructor
   ·rintro (⟨j, hj, hji, h1, h2⟩ | ⟨h1, h2⟩)
    ·exact ⟨j, by omega, hj, h1, h2⟩
    ·exact ⟨i, by omega, hlt, h1, h2⟩
   ·rintro ⟨j, hji, hj, h1, h2⟩
    by_cases e : j = i
    ·subst e; exact .inr ⟨h1, h2⟩
    ·exact .inl ⟨j, hj, by omega, h1, h2⟩
  ·have : i = g.rules.length := by omega
   subst this
   simp [-List.getD_eq_getElem?_getD, C.f73L0, z0, z1, z2, h5, h11, h12, h13]
   refine ⟨L, A, by omega, fun x => ?_⟩
   rw [hL]
   constructor
   ·rintro ⟨j, hj, _, h1, h2⟩; exact ⟨_, List.getElem_mem hj, h1, h2⟩
   ·rintro ⟨r, hr, h1, h2⟩
    obtain ⟨j, hj, rfl⟩ := List.getElem_of_mem hr
    exact ⟨j, hj, hj, h1, h2⟩
 ·show g.rules.length - 0 < 1000000; omega
 ·exact ⟨by omega, z0, z1, z2, h11, h12, h13, .snil, [], h5, Add.start hb0 .nl (fun p hp => by cases hp), by simp, by simp⟩
theorem Qgq {s : Str} {gp ep : Nat} {st : St} (hg : Q02 (.agg [kv, .str g.start, rv]) g) (hs : g.Small) (hK : ∀ s, s ∈ K ↔ Q3x g s) (hb : HB st) (hlo : st.lo <= st.c) (hgf : Q0 st.h gp = some (.cells 29 3 [kv, .str g.start, rv] false)) (hep : ep < st.c) (hef : Q0 st.h ep = some (.cells 51 1 [.fn (.func 188) [] [.pval [Q0u K]]] false)) :
  (Q6 E (k + 6) 73 [.str s, .pobj gp 0, .pobj ep 0] st).to fun x => ∃ L, Add st .snil x.2 x.1 L /\ L.length <= 400 /\ ∀ x, x ∈ L ↔ Q8z g s x := by
 obtain ⟨kv', rv', l, e, hk, hr, hrs⟩ := hg
 cases e
 have hln := hrs.length
 rw [Qp (fn := C.f73) rfl rfl rfl, Qg (by simp)]
 have r2 : Q5 st.h (.pobj gp 2) = some rv := by rw [Q4 hgf]; rfl
 have hlr : ∀ S' : St, Qw .slice rv S' = some (.int .i64 (g.rules.length : Int), S') := fun S' => by have := hr.len (st := S'); rw [this, hln]
 simp [C.f73, r2, hlr]
 refine M.to_bind (Qlf (k := k) (s := s) hr hrs hs hb hlo hep hef (.pobj gp 0) _ (by simp) (by simp) (by simp) (by simp) (by simp) (by simp) (by simp)) fun x hx => ?_
 obtain ⟨e, ts1, st1⟩ := x
 obtain ⟨ee, w', L, g5, A, hl, hL⟩ := hx
 simp only at ee g5 A
 subst ee
 simp [g5, Qb, results, Q9]
 exact ⟨L, A, hl, fun x => (hL x).trans (Qpy hK)⟩
theorem Add.later {st0 : St} {w0 : AV} {st st2 : St} {w : AV} {L : List Str} (A : Add st0 w0 st w L) (c : st.c <= st2.c) (lo : st2.lo = st.lo) (hb : HB st2) (fr : ∀ p, p < st.c -> Q0 st2.h p = Q0 st.h p) : Add st0 w0 st2 w L where
 c := Nat.le_trans A.c c
 lo := lo.trans A.lo
 hb := hb
 sl := A.sl.heap fun o ho => fr o (A.own o ho).1
 own := fun p hp => ⟨Nat.lt_of_lt_of_le (A.own p hp).1 c, by rw [lo]; exact (A.own p hp).2.1, (A.own p hp).2.2⟩
 fr := fun p hp hne => (fr p (Nat.lt_of_lt_of_le hp A.c)).trans (A.fr p hp hne)
set_option maxHeartbeats 1000000 in
theorem Qki {s : Str} {gp ep ab : Nat} {sb st0 : St} {w0 : AV} {Li : List Str} (hg : Q02 (.agg [kv, .str g.start, rv]) g) (hs : g.Small) (hK : ∀ s, s ∈ K ↔ Q3x g s) (hlo : st0.lo <= st0.c)
  (hsb : sb.c <= st0.c) (hw0 : ∀ p, Qh w0 = some p -> sb.c <= p) (hgp : gp < sb.c) (hgf : Q0 st0.h gp = some (.cells 29 3 [kv, .str g.start, rv] false)) (hep : ep < sb.c) (hef : Q0 st0.h ep = some (.cells 51 1 [.fn (.func 188) [] [.pval [Q0u K]]] false)) (hab : ab < sb.c) (haf : Q0 st0.h ab = some (.cells 86 1 [.fn (.func 73) [] [.pobj gp 0, .pobj ep 0]] false))
  (H : Add st0 w0 st0 w0 Li) (hLi : Li.length <= 400) (hLm : ∀ x, x ∈ Li ↔ Q8z g s x)
  (ts0 : TS) (z0 : ts0.get 0 = .str s) (z1 : ts0.get 1 = .pobj ab 0) (z4 : ts0.get 4 = w0) (z5 : ts0.get 5 = .int .i64 ((0 : Nat) : Int)) :
  (Q0l (Qn E (Q6 E (k + 6)) C.f75L0) E.k ts0 st0).to fun x => x.1 = .exit 0 /\ x.2.1.get 0 = .str s /\ ∃ (w' : AV) (L : List Str), x.2.1.get 4 = w' /\ Reads x.2.2.h w' L /\ L.length <= 900 /\ ∀ x, x ∈ L ↔ Q1f g s x := by
 have hUl := Q6k hs
 refine Qs (fun (i : Nat) ts st => ts.get 0 = .str s /\ ts.get 1 = .pobj ab 0 /\ ts.get 5 = .int .i64 (i : Int) /\ ∃ (w' : AV) (T : List Str), ts.get 4 = w' /\ Add st0 w0 st w' (Li ++ T) /\ i <= (Li ++ T).length /\ T.Nodup /\ (∀ s ∈ T, s ∈ Q3v g) /\ (∀ x ∈ Li ++ T, Q1f g s x) /\ ∀ q, q < i -> ∀ y, Q8z g ((Li ++ T).getD q []) y -> y ∈ Li ++ T)
  (fun i => 1000 - i) (fun e ts st => e = .exit 0 /\ ts.get 0 = .str s /\ ∃ (w' : AV) (L : List Str), ts.get 4 = w' /\ Reads st.h w' L /\ L.length <= 900 /\ ∀ x, x ∈ L ↔ Q1f g s x) ?_ _ 0 _ _ ?_ ?_
 ·rintro i ts st ⟨z0, z1, z5, w', T, z4, A, hi, hN, hTU, hB, hall⟩
  have hTl := Q70 hN hTU
  have hLL : (Li ++ T).length <= 800 := by rw [List.length_append]; omega
  obtain ⟨LL, hLLe⟩ : ∃ LL, LL = Li ++ T := ⟨_, rfl⟩
  have hlL : Qw .slice w' st = some (.int .i64 ((Li ++ T).length : Int), st) := by simp only [Qw, A.sl.len]
  rw [← hLLe] at hlL
  have hiLL : i <= LL.length := by rw [hLLe]; exact hi
  have hLL8 : LL.length <= 800 := by rw [hLLe]; exact hLL
  by_cases hlt : i < LL.length
  ·have hlt' : i < (Li ++ T).length := hLLe ▸ hlt
   obtain ⟨q, a1, b1⟩ := A.sl.reads.at_ i hlt' st rfl
   obtain ⟨x, hx⟩ : ∃ x, (Li ++ T)[i] = x := ⟨_, rfl⟩
   rw [hx] at b1
   have hxD : (Li ++ T).getD i [] = x := by rw [Q7y _ _ hlt', hx]
   have hxm : x ∈ Li ++ T := hx ▸ List.getElem_mem hlt'
   have nw : ∀ p, p < sb.c -> Qh w0 ≠ some p := fun p hp e => by have := hw0 p e; omega
   have hfr : ∀ p, p < sb.c -> Q0 st.h p = Q0 st0.h p := fun p hp => A.fr p (by omega) (nw p hp)
   have hcc : st0.c <= st.c := A.c
   have rab : Q5 st.h (.pobj ab 0) = some (.fn (.func 73) [] [.pobj gp 0, .pobj ep 0]) := by rw [Q4 ((hfr ab hab).trans haf)]; rfl
   have run := Qgq (k := k) (s := x) (st := st) hg hs hK A.hb (by rw [A.lo]; omega) ((hfr gp hgp).trans hgf) (show ep < st.c by omega) ((hfr ep hep).trans hef)
   simp [-List.mem_append, -List.length_append, C.f75L0, z0, z1, z4, z5, hlL, hlt, rab, a1, b1]
   refine M.to_bind run fun r hrr => ?_
   obtain ⟨wb, st2⟩ := r
   obtain ⟨MM, B, hMl, hM⟩ := hrr
   simp only at B
   have A2 : Add st0 w0 st2 w' (Li ++ T) := A.later B.c B.lo B.hb fun p hp => B.fr p hp (by simp [Qh])
   have hlb : Qw .slice wb st2 = some (.int .i64 (MM.length : Int), st2) := by simp [Qw, B.sl.len]
   have q1 : ∀ h : Qc, (∀ o, Qh wb = some o -> Q0 h o = Q0 st2.h o) -> Reads h wb MM := fun h e => (B.sl.heap e).reads
   have q2 : ∀ o, Qh wb = some o -> o < st2.c /\ Qh w' ≠ some o := fun o ho => ⟨(B.own o ho).1, fun e => by
    have h1 := (A.own o e).1
    rcases (B.own o ho).2.2 with h | h
    ·cases h
    ·omega⟩
   have q3 : st2.lo <= st2.c := by rw [B.lo, A.lo]; have := B.c; omega
   have q4 : MM.length <= 1000 := by omega
   have q5 : (Q3v g).length <= 500 := by omega
   have loop := Qos (k := k + 4) (base := wb) (w := w') (M := MM) (Li := Li) (T0 := T) (U := Q3v g) (st := st2) q1 q2 q4 (fun s hs => Qpx ((hM s).1 hs)) hLi q5 A2.refl' q3 hN hTU
   simp [-List.mem_append, -List.length_append, hlb]
   refine M.to_bind (loop _ _ _ _ (by simp [z0]; rfl) (by simp [z1]; rfl) (by simp [z5]; rfl) (by simp [z4]) (by simp) (by simp) (by simp)) fun r hrr => ?_
   obtain ⟨e, ts1, st3⟩ := r
   obtain ⟨ee, g0, g1, g5, w'', T', g4, A3, hN', ⟨T2, hT2⟩, hTU', hm⟩ := hrr
   simp only at ee g0 g1 g5 g4 A3
   subst ee
   have hext : Li ++ T' = (Li ++ T) ++ T2 := by rw [hT2, List.append_assoc]
   have hlen : (Li ++ T).length <= (Li ++ T').length := by rw [hext, List.length_append (as := Li ++ T)]; omega
   simp [-List.mem_append, -List.length_append, -List.getD_eq_getElem?_getD, g0, g1, g5, g4, wrap64 (n := (i : Int) + 1) (by omega) (by omega)]
   refine ⟨i + 1, by omega, by simp, T', A2.trans A3, by omega, hN', hTU', fun y hy => ?_, fun q hq y hy => ?_⟩
   ·rcases (hm y).1 hy with h | h
    ·exact hB y h
    ·exact .more (hB x hxm) ((hM y).1 h)
   ·have hgq : (Li ++ T').getD q [] = (Li ++ T).getD q [] := by
     rw [Q7y _ _ (by omega), Q7y _ _ (show q < (Li ++ T).length by omega)]
     simp only [hext]
     exact List.getElem_append_left _
    rw [← List.getD_eq_getElem?_getD, hgq] at hy
    rcases Nat.lt_or_ge q i with h | h
    ·exact (hm y).2 (.inl (hall q h y hy))
    ·have : q = i := by omega
     subst this
     rw [hxD] at hy
     exact (hm y).2 (.inr ((hM y).2 hy))
  ·have hie : i = LL.length := by omega
   have hlt2 : ¬ (i : Int) < (LL.length : Int) := by omega
   simp [-List.mem_append, -List.length_append, C.f75L0, z0, z1, z4, z5, hlL, hlt2, hlt]
   refine ⟨Li ++ T, A.sl.reads, by omega, fun x => ⟨hB x, fun h => ?_⟩⟩
   induction h with
   | one h => exact List.mem_append.2 (.inl ((hLm _).2 h))
   | more _ h ih =>
    obtain ⟨q, hq, e⟩ := List.getElem_of_mem ih
    exact hall q (by rw [hie, hLLe]; exact hq) _ (by rw [Q7y _ _ hq, e]; exact h)
 ·show 1000 - 0 < 1000000; omega
 ·exact ⟨z0, z1, z5, w0, [], z4, by simpa using H, by omega, by simp, by simp, fun x hx => .one ((hLm x).1 (by simpa using hx)), fun q h => by omega⟩
end
theorem Qot {k gp ep ab : Nat} {K : List Str} {g : Q7} {kv rv : AV} {st0 : St} (hg : Q02 (.agg [kv, .str g.start, rv]) g) (hs : g.Small) (hK : ∀ s, s ∈ K ↔ Q3x g s)
  (hgp : gp < st0.c) (hgf : Q0 st0.h gp = some (.cells 29 3 [kv, .str g.start, rv] false)) (hep : ep < st0.c) (hef : Q0 st0.h ep = some (.cells 51 1 [.fn (.func 188) [] [.pval [Q0u K]]] false)) (hab : ab < st0.c) (haf : Q0 st0.h ab = some (.cells 86 1 [.fn (.func 73) [] [.pobj gp 0, .pobj ep 0]] false)) :
  ∃ p : Str -> Bool, PredAt (k + 7) 75 [] [.pobj ab 0] st0 p /\ ∀ s, p s = true ↔ Q1f g s s := by
 refine ⟨fun s => @decide (Q1f g s s) (Classical.propDecidable _), fun st s hst => ?_, fun s => by simp⟩
 rw [Q0e (fn := C.f75) rfl rfl rfl, Qg (by simp)]
 have hc0 : st0.c <= st.c := hst.c
 have goal : ((Qn E (Q6 E (k + 6)) C.f75.body (TS.ofArgs [.str s, .pobj ab 0] 0 .nil) { st with lo := st.c }).bind (Qb C.f75.results)).to fun x => ∃ b : Bool, x.1 = .bool b /\ (b = true ↔ Q1f g s s) := by
  have rab : Q5 st.h (.pobj ab 0) = some (.fn (.func 73) [] [.pobj gp 0, .pobj ep 0]) := by rw [Q4 ((hst.fr ab hab).trans haf)]; rfl
  have run := Qgq (k := k) (s := s) (st := ⟨st.h, st.c, st.c⟩) hg hs hK hst.hb (Nat.le_refl _) ((hst.fr gp hgp).trans hgf) (show ep < st.c by omega) ((hst.fr ep hep).trans hef)
  simp [-Bool.exists_bool, C.f75, rab]
  refine M.to_bind run fun r hrr => ?_
  obtain ⟨wb, st2⟩ := r
  obtain ⟨MM, B, hMl, hM⟩ := hrr
  simp only at B
  have hBc : st.c <= st2.c := B.c
  have hfr : ∀ p, p < st0.c -> Q0 st2.h p = Q0 st0.h p := fun p hp => (B.fr p (by show p < st.c; omega) (by simp [Qh])).trans (hst.fr p hp)
  have q1 : ∀ p, Qh wb = some p -> st.c <= p := fun p hp => by
   rcases (B.own p hp).2.2 with h | h
   ·cases h
   ·exact h
  have loop := fun ts0 z0 z1 z4 z5 => Qki (k := k) (s := s) (sb := st) (st0 := st2) (w0 := wb) (Li := MM) hg hs hK (by rw [B.lo]; exact hBc) hBc q1 (show gp < st.c by omega) ((hfr gp hgp).trans hgf) (show ep < st.c by omega) ((hfr ep hep).trans hef) (show ab < st.c by omega) ((hfr ab hab).trans haf) B.refl' hMl hM ts0 z0 z1 z4 z5
  simp [-Bool.exists_bool]
  refine M.to_bind (loop _ (by simp) (by simp) (by simp) (by simp)) fun r hrr => ?_
  obtain ⟨e, ts1, st3⟩ := r
  obtain ⟨ee, g0, w', L, g4, R, hLl, hL⟩ := hrr
  simp only at ee g0 g4 R
  subst ee
  have hcon := Q6i (k := k + 4) (x := s) (st := st3) R (by omega)
  simp [-Bool.exists_bool, g0, g4, hcon, Qb, results, Q9]
  exact hL s
 obtain ⟨⟨v, st'⟩, h1, b, h2, h3⟩ := goal
 simp only at h2
 subst h2
 simp only [List.singleton_append, List.nil_append]
 rw [h1]
 have hb : b = @decide (Q1f g s s) (Classical.propDecidable _) := by
  rw [Bool.eq_iff_iff, h3]; simp
 rw [← hb]
 simp
theorem Qkj {k : Nat} {v : AV} {g : Q7} {st : St} (hg : Q02 v g) (hs : g.Small) (h0 : 0 < g.rules.length) :
  ∃ w, ∃ p : Str -> Bool, Q6 E (k + 12) 17 [v] st = .ret (w, st) /\ Qr w 1 (strs (g.lefts.filter p)) /\ ∀ s, p s = true ↔ Q1f g s s := by
 have hold := hg.oldB 0
 have hg' := hg
 obtain ⟨kv, rv, l, rfl, hk, hr, hrs⟩ := hg'
 rw [Q0b (fn := C.f17) rfl rfl rfl (by simp [AV.olds, hold]), Qg (by simp)]
 have hbx : Q0z 0 29 3 (.agg [kv, .str g.start, rv]) = some (.pobj 0 0, .cells 29 3 [kv, .str g.start, rv] false) := rfl
 have n1 := Q3a (c' := 1) (lo := 0) (ty := 29) (n := 3) (cs := [kv, .str g.start, rv]) HB.nil
 obtain ⟨h1, hh1⟩ : ∃ h1 : Qc, h1 = [(0, Qe.cells 29 3 [kv, .str g.start, rv] false)] := ⟨_, rfl⟩
 rw [← hh1] at n1
 have X1 : Q0r ⟨[], 0, 0⟩ ⟨h1, 1, 0⟩ := by rw [hh1]; exact (Q0r.refl HB.nil).cons (lo := 0) (by omega)
 have fg : Q0 h1 0 = some (.cells 29 3 [kv, .str g.start, rv] false) := by rw [hh1, Q3, if_pos rfl]
 have rg : Ql h1 (.pobj 0 0) 3 = some [kv, .str g.start, rv] := Qq fg rfl
 obtain ⟨K, e1, e2⟩ := Qdr (k := k + 3) (st := ⟨h1, 2, 0⟩) hg hs
 have n2 : newObj 1 (.cells 51 1 [.fnil] false) ⟨h1, 2, 0⟩ = some ⟨(1, .cells 51 1 [.fnil] false) :: h1, 2, 0⟩ := Qf X1.hb
 obtain ⟨h2, hh2⟩ : ∃ h2 : Qc, h2 = (1, Qe.cells 51 1 [.fn (.func 188) [] [.pval [Q0u K]]] false) :: h1 := ⟨_, rfl⟩
 have s2 : Q0n 1 (.pobj 1 0) (.fn (.func 188) [] [.pval [Q0u K]]) ⟨(1, .cells 51 1 [.fnil] false) :: h1, 2, 0⟩ = some (.undef, ⟨h2, 2, 0⟩) := by
  rw [Q07 (cs := [.fnil]) (ty := 51) (sz := 1) (ext := false) (by rw [Q3, if_pos rfl]) (by show 0 <= 1; omega) (by simp) rfl rfl, hh2]
  simp [hset]
 have hb2 : HB ⟨h2, 2, 0⟩ := by rw [hh2]; exact HB.cons (h := h1) (c := 1) (lo := 0) X1.hb (by omega) (by omega)
 have n3 : newObj 2 (.cells 86 1 [.fnil] false) ⟨h2, 3, 0⟩ = some ⟨(2, .cells 86 1 [.fnil] false) :: h2, 3, 0⟩ := Qf hb2
 obtain ⟨h3, hh3⟩ : ∃ h3 : Qc, h3 = (2, Qe.cells 86 1 [.fn (.func 73) [] [.pobj 0 0, .pobj 1 0]] false) :: h2 := ⟨_, rfl⟩
 have s3 : Q0n 1 (.pobj 2 0) (.fn (.func 73) [] [.pobj 0 0, .pobj 1 0]) ⟨(2, .cells 86 1 [.fnil] false) :: h2, 3, 0⟩ = some (.undef, ⟨h3, 3, 0⟩) := by
  rw [Q07 (cs := [.fnil]) (ty := 86) (sz := 1) (ext := false) (by rw [Q3, if_pos rfl]) (by show 0 <= 2; omega) (by simp) rfl rfl, hh3]
  simp [hset]
 have hb3 : HB ⟨h3, 3, 0⟩ := by rw [hh3]; exact HB.cons (h := h2) (c := 2) (lo := 0) hb2 (by omega) (by omega)
 have f0 : Q0 h3 0 = some (.cells 29 3 [kv, .str g.start, rv] false) := by rw [hh3, Qu (by omega), hh2, Qu (by omega)]; exact fg
 have f1 : Q0 h3 1 = some (.cells 51 1 [.fn (.func 188) [] [.pval [Q0u K]]] false) := by rw [hh3, Qu (by omega), hh2, Q3, if_pos rfl]
 have f2 : Q0 h3 2 = some (.cells 86 1 [.fn (.func 73) [] [.pobj 0 0, .pobj 1 0]] false) := by rw [hh3, Q3, if_pos rfl]
 have rg3 : Ql h3 (.pobj 0 0) 3 = some [kv, .str g.start, rv] := Qq f0 rfl
 obtain ⟨p, hP, hp⟩ := Qot (k := k) (st0 := ⟨h3, 3, 0⟩) hg hs e2 (by show 0 < 3; omega) f0 (by show 1 < 3; omega) f1 (by show 2 < 3; omega) f2
 obtain ⟨w, e5, e6⟩ := Q8d (k := k + 4) (st := ⟨h3, 3, 0⟩) hg hs h0 hb3 hP
 have hth : thaw 0 h3 64 w = some w := Q13 (n := 63) (e6.oldB 0)
 refine ⟨w, p, ?_, e6, hp⟩
 simp [C.f17, hbx, n1, rg, e1, n2, s2, n3, s3, rg3, e5, Qb, results, Q9, Qt, Q0c, hth]
end Go.Am
end
