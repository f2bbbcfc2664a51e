/- A part of the proof of GrammarsChecked (merged by a program). -/
import Derived.Test.YtehhlchbbdaipaaGreatDoorW2
section
namespace Go.Am
open Go
theorem Q7x : ∀ (x y : Str), Op.bytesLess x y = decide (x < y)
 | [], [] => by simp [Op.bytesLess]
 | _ :: _, [] => by simp [Op.bytesLess]
 | [], _ :: _ => by simp [Op.bytesLess]
 | a :: x, b :: y => by
  rw [Op.bytesLess, Q7x x y]
  simp only [List.cons_lt_cons_iff]
  by_cases h1 : a < b <;> by_cases h2 : a = b <;> by_cases h3 : x < y <;> simp [h1, h2, h3]
theorem Q40 (x : Str) : ¬ x < x := List.lt_irrefl x
theorem Q6x {x y z : Str} (h : x < y) (k : y < z) : x < z := List.lt_trans h k
theorem Q5j {x y : Str} (h : ¬ x < y) (k : x ≠ y) : y < x := by
 rcases Decidable.em (y < x) with h' | h'
 ·exact h'
 ·exact absurd (List.le_antisymm (as := x) (bs := y) (by simpa using h') (by simpa using h)) k
theorem Q8e {x y : Str} (h : x < y) : ¬ y < x := fun k => Q40 x (Q6x h k)
def Up (l : List Str) : Prop := l.Pairwise (· < ·)
theorem Qnw : ∀ {a b : List Str}, Up a -> Up b -> (∀ s, s ∈ a ↔ s ∈ b) -> a = b
 | [], [], _, _, _ => rfl
 | [], y :: b, _, _, h => by have := (h y).2 (by simp); simp at this
 | x :: a, [], _, _, h => by have := (h x).1 (by simp); simp at this
 | x :: a, y :: b, ha, hb, h => by
  obtain ⟨ha1, ha2⟩ := List.pairwise_cons.1 ha
  obtain ⟨hb1, hb2⟩ := List.pairwise_cons.1 hb
  have e : x = y := by
   rcases List.mem_cons.1 ((h x).1 (by simp)) with e | hx
   ·exact e
   ·rcases List.mem_cons.1 ((h y).2 (by simp)) with e | hy
    ·exact e.symm
    ·exact absurd (hb1 _ hx) (Q8e (ha1 _ hy))
  subst e
  rw [Qnw ha2 hb2 fun s => ?_]
  constructor
  ·intro hs
   rcases List.mem_cons.1 ((h s).1 (List.mem_cons_of_mem _ hs)) with e | hx
   ·subst e; exact absurd (ha1 _ hs) (Q40 _)
   ·exact hx
  ·intro hs
   rcases List.mem_cons.1 ((h s).2 (List.mem_cons_of_mem _ hs)) with e | hx
   ·subst e; exact absurd (hb1 _ hs) (Q40 _)
   ·exact hx
def Q4j (x : Str) : List Str -> List Str
 | [] => [x]
 | y :: l => if x < y then x :: y :: l else if x = y then y :: l else y :: Q4j x l
theorem Qe4 {x s : Str} : ∀ {l : List Str}, s ∈ Q4j x l ↔ s = x ∨ s ∈ l
 | [] => by simp [Q4j]
 | y :: l => by
  unfold Q4j
  split
  ·simp
  ·split
   ·rename_i h; subst h; simp
   ·rw [List.mem_cons, Qe4, List.mem_cons]; constructor <;> (rintro (h | h | h) <;> simp [h])
theorem Qli {x : Str} : ∀ {l : List Str}, Up l -> Up (Q4j x l)
 | [], _ => by simp [Q4j, Up]
 | y :: l, h => by
  obtain ⟨h1, h2⟩ := List.pairwise_cons.1 h
  unfold Q4j
  split
  ·rename_i hx
   refine List.pairwise_cons.2 ⟨fun s hs => ?_, h⟩
   rcases List.mem_cons.1 hs with e | hs
   ·subst e; exact hx
   ·exact Q6x hx (h1 s hs)
  ·split
   ·exact h
   ·rename_i hx he
    refine List.pairwise_cons.2 ⟨fun s hs => ?_, Qli h2⟩
    rcases Qe4.1 hs with e | hs
    ·subst e; exact Q5j hx he
    ·exact h1 s hs
def Q49 (l : List Str) : List Str := l.foldr Q4j []
theorem Qnv (l : List Str) : Up (Q49 l) := by
 induction l with
 | nil => simp [Q49, Up]
 | cons x l ih => exact Qli ih
theorem Qmu {l : List Str} {s : Str} : s ∈ Q49 l ↔ s ∈ l := by
 induction l with
 | nil => simp [Q49]
 | cons x l ih => show s ∈ Q4j x (Q49 l) ↔ _; rw [Qe4, ih, List.mem_cons]
def Q7.lefts (g : Q7) : List Str := Q49 (g.rules.map (·.left))
theorem Q7.mem_lefts {g : Q7} {s : Str} : s ∈ g.lefts ↔ g.isLeft s = true := by
 unfold Q7.lefts Q7.isLeft
 rw [Qmu]; simp
theorem Q7.up_lefts (g : Q7) : Up g.lefts := Qnv _
theorem Up.nodup {l : List Str} (h : Up l) : l.Nodup := by
 refine List.Pairwise.imp ?_ h
 intro a b hab e; subst e; exact Q40 _ hab
def Q58 (f : Nat -> Int) : Nat -> Int
 | 0 => 0
 | n + 1 => if Q58 f n = 0 then f n else Q58 f n
theorem Q4b {f : Nat -> Int} : ∀ {n : Nat}, (∀ j, j < n -> f j = 0) -> Q58 f n = 0
 | 0, _ => rfl
 | n + 1, h => by rw [Q58, Q4b fun j hj => h j (by omega), if_pos rfl]; exact h n (by omega)
theorem Q75 {f : Nat -> Int} {i : Nat} (h : ∀ j, j < i -> f j = 0) (hne : f i ≠ 0) : ∀ {n : Nat}, i < n -> Q58 f n = f i
 | 0, hi => absurd hi (by omega)
 | n + 1, hi => by
  rw [Q58]
  by_cases e : i = n
  ·subst e; rw [Q4b h, if_pos rfl]
  ·rw [Q75 h hne (show i < n by omega), if_neg hne]
theorem Qap {f : Nat -> Int} : ∀ {n : Nat}, Q58 f n = 0 -> ∀ j, j < n -> f j = 0
 | 0, _ => fun j hj => absurd hj (by omega)
 | n + 1, h => by
  rw [Q58] at h
  split at h
  ·rename_i h0
   intro j hj
   by_cases e : j = n
   ·subst e; exact h
   ·exact Qap h0 j (by omega)
  ·rename_i h0; exact absurd h h0
def Q2y (l : List Str) (i : Nat) : Int := if Q30 (l.getD i []) = false then 5 else if 0 < i /\ ¬ l.getD (i - 1) [] < l.getD i [] then 7 else 0
def Qa9 (a b : Q0h) : Bool := decide (a.left = b.left /\ a.right = b.right)
def Q4e (g : Q7) (i : Nat) : Int :=
 if Q30 (g.rules.getD i default).left = false then 5
 else if (g.rules.getD i default).left ∈ g.kinds then 13
 else if 20 < (g.rules.getD i default).right.length then 2
 else if ¬ (0 <= (g.rules.getD i default).level /\ (g.rules.getD i default).level <= 99) then 1
 else if ∃ j, j < i /\ Qa9 (g.rules.getD j default) (g.rules.getD i default) = true then 6 else 0
def Q7.sym (g : Q7) (s : Str) : Bool := decide (s ∈ g.kinds) || g.isLeft s
def Q7.kindsF (g : Q7) : Int := Q58 (Q2y g.kinds) g.kinds.length
def Q7.rulesF (g : Q7) : Int := Q58 (Q4e g) g.rules.length
def Q7.symsF (g : Q7) : Bool := g.rules.all fun r => r.right.all g.sym
def Q7.fault (g : Q7) : Int :=
 if g.kindsF ≠ 0 then g.kindsF else if g.rules.length = 0 then 8 else if g.rulesF ≠ 0 then g.rulesF
 else if g.symsF = false then 8 else if g.isLeft g.start = false then 8 else 0
structure Q7.Ok (g : Q7) : Prop where
 up : Up g.kinds
 apart : ∀ s, s ∈ g.kinds -> s ∉ g.lefts
 syms : ∀ r ∈ g.rules, ∀ s ∈ r.right, s ∈ g.kinds ∨ s ∈ g.lefts
 start : g.start ∈ g.lefts
theorem Qm5 {l : List Str} (h : ∀ i, 0 < i -> i < l.length -> l.getD (i - 1) [] < l.getD i []) : Up l := by
 induction l with
 | nil => simp [Up]
 | cons x l ih =>
  have ih' : Up l := ih fun i h0 hi => by
   have := h (i + 1) (by omega) (by simpa using hi)
   obtain ⟨i, rfl⟩ : ∃ k, i = k + 1 := ⟨i - 1, by omega⟩
   simpa using this
  refine List.pairwise_cons.2 ⟨?_, ih'⟩
  cases l with
  | nil => simp
  | cons y l =>
   have hxy : x < y := by simpa using h 1 (by omega) (by simp)
   intro s hs
   rcases List.mem_cons.1 hs with e | hs
   ·subst e; exact hxy
   ·exact Q6x hxy ((List.pairwise_cons.1 ih').1 s hs)
theorem Q7.ok {g : Q7} (h : g.fault = 0) : g.Ok := by
 unfold Q7.fault at h
 split at h
 ·rename_i h1; exact absurd h h1
 rename_i h1
 split at h
 ·cases h
 split at h
 ·rename_i h1; exact absurd h h1
 rename_i h2
 split at h
 ·cases h
 rename_i h3
 split at h
 ·cases h
 rename_i h4
 simp only [ne_eq, Decidable.not_not] at h1 h2
 refine ⟨Qm5 fun i h0 hi => ?_, fun s hs hl => ?_, fun r hr s hs => ?_, Q7.mem_lefts.2 (by simpa using h4)⟩
 ·have := Qap h1 i hi
  unfold Q2y at this
  split at this
  ·cases this
  split at this
  ·cases this
  rename_i h5
  exact Decidable.not_not.1 fun h6 => h5 ⟨h0, h6⟩
 ·have hl' := Q7.mem_lefts.1 hl
  unfold Q7.isLeft at hl'
  simp only [List.any_eq_true, beq_iff_eq] at hl'
  obtain ⟨r, hr, rfl⟩ := hl'
  obtain ⟨i, hi, rfl⟩ := List.getElem_of_mem hr
  have := Qap h2 i hi
  unfold Q4e at this
  have e : g.rules.getD i default = g.rules[i] := by simp [List.getD, hi]
  rw [e] at this
  split at this
  ·cases this
  first
   | cases this
   | (rw [if_pos hs] at this; cases this)
 ·have h3' : g.symsF = true := by simpa using h3
  unfold Q7.symsF at h3'
  have := List.all_eq_true.1 (List.all_eq_true.1 h3' r hr) s hs
  unfold Q7.sym at this
  simp only [Bool.or_eq_true, decide_eq_true_eq] at this
  rcases this with h | h
  ·exact .inl h
  ·exact .inr (Q7.mem_lefts.2 h)
theorem Q7.ne_rules {g : Q7} (h : g.Ok) : 0 < g.rules.length := by
 have := Q7.mem_lefts.1 h.start
 unfold Q7.isLeft at this
 simp only [List.any_eq_true] at this
 obtain ⟨r, hr, _⟩ := this
 exact List.length_pos_of_mem hr
inductive Gen (base : Str -> Prop) (g : Q7) : Str -> Prop
 | base {s : Str} (h : base s) : Gen base g s
 | rule {r : Q0h} (hr : r ∈ g.rules) (h : ∀ x ∈ r.right, Gen base g x) : Gen base g r.left
inductive Reach (g : Q7) : Str -> Prop
 | start : Reach g g.start
 | step {r : Q0h} {x : Str} (hr : r ∈ g.rules) (h : Reach g r.left) (hx : x ∈ r.right) : Reach g x
def Q3x (g : Q7) : Str -> Prop := Gen (fun _ => False) g
def Qb4 (g : Q7) : Str -> Prop := Gen (· ∈ g.kinds) g
def Q8z (g : Q7) (s x : Str) : Prop := ∃ r ∈ g.rules, r.left = s /\ ∃ a b, r.right = a ++ x :: b /\ (∀ y ∈ a, Q3x g y) /\ ∀ y ∈ b, Q3x g y
inductive Q1f (g : Q7) (s : Str) : Str -> Prop
 | one {x : Str} (h : Q8z g s x) : Q1f g s x
 | more {x y : Str} (h : Q1f g s x) (k : Q8z g x y) : Q1f g s y
end Go.Am
end
section
namespace Go.Am
open Go
theorem Qky {k : Nat} {g : Q7} {kv rv : AV} {st : St} (hk : Qr kv 1 (strs g.kinds)) (hs : g.Small) (hf : Q0 st.h 0 = some (.cells 29 3 [kv, .str g.start, rv] false))
  (ts0 : TS) (h1 : ts0.get 1 = .pobj 0 0) (h17 : ts0.get 17 = kv) (h18 : ts0.get 18 = .int .i64 (g.kinds.length : Int)) (h19 : ts0.get 19 = .int .i64 ((0 : Nat) : Int)) :
  (Q0l (Qn E (Q6 E (k + 3)) C.f7L0) E.k ts0 st).to fun x => x.2.2 = st /\ ((x.1 = .exit 0 /\ g.kindsF = 0 /\ x.2.1.get 1 = .pobj 0 0) ∨ (x.1 = .ret /\ g.kindsF ≠ 0 /\ x.2.1.get 2 = .int .i64 g.kindsF)) := by
 have hkn := hs.kinds
 have hr0 : Q5 st.h (.pobj 0 0) = some kv := by rw [Q4 hf]; rfl
 refine Qs (fun (i : Nat) ts st' => st' = st /\ i <= g.kinds.length /\ ts.get 1 = .pobj 0 0 /\ ts.get 17 = kv /\ ts.get 18 = .int .i64 (g.kinds.length : Int) /\ ts.get 19 = .int .i64 (i : Int) /\ ∀ j, j < i -> Q2y g.kinds j = 0)
  (fun i => g.kinds.length - i) (fun e ts st' => st' = st /\ ((e = .exit 0 /\ g.kindsF = 0 /\ ts.get 1 = .pobj 0 0) ∨ (e = .ret /\ g.kindsF ≠ 0 /\ ts.get 2 = .int .i64 g.kindsF))) ?_ _ 0 _ _ ?_ ?_
 ·rintro i ts st' ⟨rfl, hi, h1, h17, h18, h19, hall⟩
  by_cases hlt : i < g.kinds.length
  ·have hnm := hs.names _ (List.getElem_mem hlt)
   have hrun := Qg6 (k := k) (s := g.kinds[i]) (st := st') (by omega)
   have hget : g.kinds.getD i [] = g.kinds[i] := by simp [List.getD, hlt]
   have bad : ∀ n, Q2y g.kinds i = n -> n ≠ 0 -> g.kindsF = n := fun n h hn => by
    unfold Q7.kindsF; rw [Q75 hall (by rw [h]; exact hn) hlt, h]
   cases hn : Q30 g.kinds[i] with
   | false =>
    have hb := bad 5 (by unfold Q2y; rw [hget, hn]; simp) (by decide)
    simp [C.f7L0, h1, h17, h18, h19, hlt, hk.idxS hlt, hrun, hn, hb]
   | true =>
    by_cases h0 : i = 0
    ·subst h0
     have hix0 : Qj 1 kv (.int .i64 0) st' = some (.pval [.str g.kinds[0]], st') := hk.idxS (i := 0) hlt
     have good : Q2y g.kinds 0 = 0 := by unfold Q2y; rw [hget, hn]; simp
     simp [C.f7L0, Q05, Qy, h1, h17, h18, h19, hlt, hix0, hrun, hn, wrap64 (n := (1 : Int)) (by omega) (by omega)]
     exact ⟨1, by omega, by omega, by simp, fun j hj => by have : j = 0 := by omega
                                                           subst this; exact good⟩
    ·have hp : i - 1 < g.kinds.length := by omega
     have hcast : ((i : Int) - 1) = ((i - 1 : Nat) : Int) := by omega
     have hpos : 0 < i := by omega
     have hgp : g.kinds.getD (i - 1) [] = g.kinds[i - 1] := by simp [List.getD, hp]
     by_cases hless : g.kinds[i - 1] < g.kinds[i]
     ·have good : Q2y g.kinds i = 0 := by unfold Q2y; rw [hget, hgp, hn]; simp [hless]
      simp [C.f7L0, Q05, Qy, h1, h17, h18, h19, hlt, hk.idxS hlt, hrun, hn, hpos, hr0, wrap64 (n := ((i - 1 : Nat) : Int)) (by omega) (by omega), hcast, hk.idxS hp, Q7x, hless, wrap64 (n := (i : Int) + 1) (by omega) (by omega)]
      refine ⟨i + 1, by omega, by omega, by simp, fun j hj => ?_⟩
      rcases Nat.lt_or_ge j i with h | h
      ·exact hall j h
      ·have : j = i := by omega
       subst this; exact good
     ·have hb := bad 7 (by unfold Q2y; rw [hget, hgp, hn]; simp [hless]; omega) (by decide)
      simp [C.f7L0, Q05, Qy, h1, h17, h18, h19, hlt, hk.idxS hlt, hrun, hn, hpos, hr0, wrap64 (n := ((i - 1 : Nat) : Int)) (by omega) (by omega), hcast, hk.idxS hp, Q7x, hless, hb]
  ·have : i = g.kinds.length := by omega
   subst this
   have : g.kindsF = 0 := Q4b hall
   simp [C.f7L0, h1, h18, h19, this]
 ·show g.kinds.length - 0 < 1000000; omega
 ·exact ⟨rfl, by omega, h1, h17, h18, h19, fun j h => by omega⟩
end Go.Am
end
section
namespace Go.Am
open Go
theorem Qr.cut {v : AV} {sz : Nat} {xs : List AV} {st : St} (h : Qr v sz xs) {i : Nat} (hi : i <= xs.length) :
  ∃ w, Q0o sz false true false [v, .int .i64 (i : Int)] st = some (w, st) /\ Qr w sz (xs.take i) := by
 rcases h.out with ⟨rfl, rfl⟩ | ⟨t, rfl⟩
 ·have : i = 0 := by simpa using hi
  subst this
  exact ⟨.snil, rfl, ⟨.inl ⟨rfl, rfl⟩⟩⟩
 ·refine ⟨.list (t && Nat.beq i xs.length) sz (xs.take i), ?_, ⟨.inr ⟨_, rfl⟩⟩⟩
  simp [Q0o, Q1a, Q0a, Q17, beq_eq, Q8f, Qi, hi]
theorem Qr.from_ {v : AV} {sz : Nat} {xs : List AV} {st : St} (h : Qr v sz xs) {i : Nat} (hi : i <= xs.length) :
  ∃ w, Q0o sz true false false [v, .int .i64 (i : Int)] st = some (w, st) /\ Qr w sz (xs.drop i) := by
 rcases h.out with ⟨rfl, rfl⟩ | ⟨t, rfl⟩
 ·have : i = 0 := by simpa using hi
  subst this
  exact ⟨.snil, rfl, ⟨.inl ⟨rfl, rfl⟩⟩⟩
 ·refine ⟨.list (t && Nat.beq xs.length xs.length) sz (xs.drop i), ?_, ⟨.inr ⟨_, rfl⟩⟩⟩
  simp [Q0o, Q1a, Q0a, Q17, beq_eq, Q8f, Qi, hi]
theorem HB.cons {h : Qc} {c lo c' p : Nat} {x : Qe} (hb : HB ⟨h, c, lo⟩) (hp : p < c') (hc : c <= c') {lo' : Nat} : HB ⟨(p, x) :: h, c', lo'⟩ := by
 intro q y hq
 rcases List.mem_cons.1 hq with e | hm
 ·cases e; exact hp
 ·exact Nat.lt_of_lt_of_le (hb q y hm) hc
theorem HB.up {h : Qc} {c lo c' : Nat} (hb : HB ⟨h, c, lo⟩) (hc : c <= c') {lo' : Nat} : HB ⟨h, c', lo'⟩ := fun q y hm => Nat.lt_of_lt_of_le (hb q y hm) hc
theorem HB.lo {st : St} (hb : HB st) {l : Nat} : HB { st with lo := l } := hb
theorem Q1k {h : Qc} {c c' lo ty n : Nat} {zs vs : List AV} (hlo : lo <= c) (h1 : vs.length = n) (h2 : zs.length = n) :
  Q0n n (.pobj c 0) (.agg vs) ⟨(c, .cells ty n zs false) :: h, c', lo⟩ = some (.undef, ⟨(c, .cells ty n vs false) :: h, c', lo⟩) := by
 rw [Q2p (cs := zs) (ty := ty) (sz := n) (ext := false) (by rw [Q3, if_pos rfl]) hlo h1 h2]
 simp [hset]
theorem Qm7 {k : Nat} {v : AV} {g : Q7} {x : Str} {st : St} (hg : Q02 v g) (hs : g.Small) (hb : HB st) :
  Q6 E (k + 6) 29 [v, .str x] st = .ret (.bool (g.sym x), st) := by
 have hg' := hg
 obtain ⟨kv, rv, l, rfl, hk, hr, hrs⟩ := hg'
 rw [Q0e (fn := C.f29) rfl rfl rfl, Qg (by simp)]
 have hb' : ∀ p x, (p, x) ∈ st.h -> p < st.c := hb
 have hbx : Q0z st.c 29 3 (.agg [kv, .str g.start, rv]) = some (.pobj st.c 0, .cells 29 3 [kv, .str g.start, rv] false) := rfl
 have hbS : ∀ {c lo : Nat}, st.c + 1 <= c -> HB ⟨(st.c, .cells 29 3 [kv, .str g.start, rv] false) :: st.h, c, lo⟩ := fun {c lo} hc => HB.cons (h := st.h) (c := st.c) (lo := st.lo) hb (by omega) (by omega)
 have hrd : Ql ((st.c, Qe.cells 29 3 [kv, .str g.start, rv] false) :: st.h) (.pobj st.c 0) 3 = some [kv, .str g.start, rv] := Qq (by rw [Q3, if_pos rfl]) rfl
 have hkr := Qe5 (k := k + 2) (x := x) (st := ⟨(st.c, .cells 29 3 [kv, .str g.start, rv] false) :: st.h, st.c + 1, st.c⟩) hg hs (hbS (by omega))
 have hlr := Qif (k := k) (x := x) (st := ⟨(st.c, .cells 29 3 [kv, .str g.start, rv] false) :: st.h, st.c + 1, st.c⟩) hg hs (hbS (by omega))
 cases hx : decide (x ∈ g.kinds) with
 | true => rw [hx] at hkr; simp [C.f29, Q05, Qy, hbx, Qf hb', hrd, hkr, Qb, results, Q9, Q7.sym, hx]
 | false => rw [hx] at hkr; simp [C.f29, Q05, Qy, hbx, Qf hb', hrd, hkr, hlr, Qb, results, Q9, Q7.sym, hx]
structure FS (gs : List AV) (st : St) : Prop where
 hb : HB st
 g0 : Q0 st.h 0 = some (.cells 29 3 gs false)
 c0 : 0 < st.c
 lo : st.lo = 0
set_option maxHeartbeats 4000000 in
theorem Qkx {k : Nat} {g : Q7} {kv rv : AV} {l : List AV} (hk : Qr kv 1 (strs g.kinds)) (hr : Qr rv 3 l) (hrs : Q0p l g.rules) (hs : g.Small) (st : St) (H : FS [kv, .str g.start, rv] st)
  (ts0 : TS) (h1 : ts0.get 1 = .pobj 0 0) (h49 : ts0.get 49 = rv) (h50 : ts0.get 50 = .int .i64 (g.rules.length : Int)) (h51 : ts0.get 51 = .int .i64 ((0 : Nat) : Int)) :
  (Q0l (Qn E (Q6 E (k + 4)) C.f7L1) E.k ts0 st).to fun x => FS [kv, .str g.start, rv] x.2.2 /\ ((x.1 = .exit 2 /\ g.rulesF = 0 /\ x.2.1.get 1 = .pobj 0 0) ∨ (x.1 = .ret /\ g.rulesF ≠ 0 /\ x.2.1.get 2 = .int .i64 g.rulesF)) := by
 have hln := hrs.length
 have hmany := hs.many
 have hG : Q02 (.agg [kv, .str g.start, rv]) g := ⟨kv, rv, l, rfl, hk, hr, hrs⟩
 refine Qs (fun (i : Nat) ts st' => FS [kv, .str g.start, rv] st' /\ i <= g.rules.length /\ ts.get 1 = .pobj 0 0 /\ ts.get 49 = rv /\ ts.get 50 = .int .i64 (g.rules.length : Int) /\ ts.get 51 = .int .i64 (i : Int) /\ ∀ j, j < i -> Q4e g j = 0)
  (fun i => g.rules.length - i) (fun e ts st' => FS [kv, .str g.start, rv] st' /\ ((e = .exit 2 /\ g.rulesF = 0 /\ ts.get 1 = .pobj 0 0) ∨ (e = .ret /\ g.rulesF ≠ 0 /\ ts.get 2 = .int .i64 g.rulesF))) ?_ _ 0 _ _ ?_ ?_
 ·rintro i ts st' ⟨H, hi, h1, h49, h50, h51, hall⟩
  by_cases hlt : i < g.rules.length
  ·have hil : i < l.length := by omega
   obtain ⟨w, e1, e2⟩ := (hrs.get i hlt).2
   have hsm := hs.rules _ (List.getElem_mem hlt)
   have hget : g.rules.getD i default = g.rules[i] := by simp [List.getD, hlt]
   have bad : ∀ n, Q4e g i = n -> n ≠ 0 -> g.rulesF = n := fun n h hn => by
    unfold Q7.rulesF; rw [Q75 hall (by rw [h]; exact hn) hlt, h]
   obtain ⟨h, c, lo⟩ := st'
   have hlo : lo = 0 := H.lo
   subst hlo
   have hb' : ∀ p x, (p, x) ∈ h -> p < c := H.hb
   have hc0 : 0 < c := H.c0
   have hc1 : c ≠ 0 := by omega
   obtain ⟨rc, hrc⟩ : ∃ rc : List AV, rc = [.str g.rules[i].left, w, .int .i64 g.rules[i].level] := ⟨_, rfl⟩
   obtain ⟨h', hh'⟩ : ∃ h' : Qc, h' = (c, Qe.cells 68 3 rc false) :: h := ⟨_, rfl⟩
   have hbS : HB ⟨h', c + 1, 0⟩ := hh' ▸ HB.cons (h := h) (c := c) (lo := 0) H.hb (by omega) (by omega)
   have HS : FS [kv, .str g.start, rv] ⟨h', c + 1, 0⟩ := ⟨hbS, by rw [hh', Q3, if_neg hc1]; exact H.g0, by show 0 < c + 1; omega, rfl⟩
   have hix : Qj 3 rv (.int .i64 (i : Int)) ⟨h, c + 1, 0⟩ = some (.pval l[i].cells, ⟨h, c + 1, 0⟩) := hr.idx hil
   have hcells : l[i].cells = rc := by rw [e1, hrc]; rfl
   rw [hcells] at hix
   have hn : newObj c (.cells 68 3 [.str [], .snil, .int .i64 0] false) ⟨h, c + 1, 0⟩ = some ⟨(c, .cells 68 3 [.str [], .snil, .int .i64 0] false) :: h, c + 1, 0⟩ := Qf hb'
   have hst := Q1k (h := h) (c := c) (c' := c + 1) (lo := 0) (ty := 68) (n := 3) (zs := [.str [], .snil, .int .i64 0]) (vs := rc) (by omega) (by rw [hrc]; rfl) rfl
   rw [← hh'] at hst
   have hrd3 : Ql h (.pval rc) 3 = some rc := by rw [hrc]; rfl
   have fc : Q0 h' c = some (.cells 68 3 rc false) := by rw [hh', Q3, if_pos rfl]
   have f0 := HS.g0
   have r0 : Q5 h' (.pobj 0 2) = some rv := by rw [Q4 f0]; rfl
   have rg : Ql h' (.pobj 0 0) 3 = some [kv, .str g.start, rv] := Qq f0 rfl
   have rc0 : Q5 h' (.pobj c 0) = some (.str g.rules[i].left) := by rw [Q4 fc, hrc]; rfl
   have rc1 : Q5 h' (.pobj c 1) = some w := by rw [Q4 fc, hrc]; rfl
   have rc2 : Q5 h' (.pobj c 2) = some (.int .i64 g.rules[i].level) := by rw [Q4 fc, hrc]; rfl
   obtain ⟨w2, c1, c2⟩ := hr.cut (st := ⟨h', c + 1, 0⟩) (i := i) (by omega)
   have hln2 : (l.take i).length = i := by simp; omega
   have hcon := Q46 (k := k + 2) (n := i) (fc := 50) (w := w2) (a := []) (b := [.pobj c 0]) (el := fun j => (l.getD j .undef).cells) (p := fun j => Qa9 (g.rules.getD j default) g.rules[i]) (st := ⟨h', c + 1, 0⟩)
    (by rw [c2.lenS, hln2]) (by omega) (fun j hj => by
     have hjl : j < l.length := by omega
     have hg : l.getD j .undef = l[j] := by simp [List.getD, hjl]
     obtain ⟨w', lv', e'⟩ := (hrs.get j (by omega)).2.out3
     refine ⟨.pval l[j].cells, ?_, ?_⟩
     ·have := c2.idx (st := ⟨h', c + 1, 0⟩) (i := j) (by omega)
      simpa using this
     ·rw [hg, e']; simp [Ql, AV.cells, Qi]) (fun j hj => by
     have hjl : j < l.length := by omega
     have hg : l.getD j .undef = l[j] := by simp [List.getD, hjl]
     have hg2 : g.rules.getD j default = g.rules[j]'(by omega) := by simp [List.getD, show j < g.rules.length by omega]
     obtain ⟨w', e1', e2'⟩ := (hrs.get j (by omega)).2
     have hsm' := hs.rules _ (List.getElem_mem (show j < g.rules.length by omega))
     have hr30 := hsm'.right
     have := Qk3 (k := k) (la := (g.rules[j]'(by omega)).left) (q := c) (st := ⟨h', c + 1, 0⟩) (na := (g.rules[j]'(by omega)).level) hbS (by show c < c + 1; omega) (hrc ▸ fc) (by omega) (fun _ _ => Reads.ofSl e2') (fun _ _ => Reads.ofSl e2)
     rw [hg, e1', hg2]
     exact this)
   have hname := Qg6 (k := k + 1) (s := g.rules[i].left) (st := ⟨h', c + 1, 0⟩) (by have := hsm.left; omega)
   have hkind := Qe5 (k := k + 1) (x := g.rules[i].left) hG hs hbS
   have hin := Qug (k := k + 3) (x := g.rules[i].level) (l := 0) (u := 99) (st := ⟨h', c + 1, 0⟩)
   have hlr : Qw .slice w ⟨h', c + 1, 0⟩ = some (.int .i64 (g.rules[i].right.length : Int), ⟨h', c + 1, 0⟩) := by have := e2.len (st := ⟨h', c + 1, 0⟩); simpa using this
   have hpair : (ts.get 1) = .pobj 0 0 := h1
   have hF : Q4e g i = bif !Q30 g.rules[i].left then 5 else bif decide (g.rules[i].left ∈ g.kinds) then 13 else bif decide (20 < g.rules[i].right.length) then 2 else bif !decide (0 <= g.rules[i].level /\ g.rules[i].level <= 99) then 1 else bif decide (∃ j, j < i /\ Qa9 (g.rules.getD j default) g.rules[i] = true) then 6 else 0 := by
    unfold Q4e; rw [hget]
    simp only [cond_eq_ite, Bool.not_eq_true', decide_eq_true_eq, decide_eq_false_iff_not]
   have hb3 : decide ((20 : Int) < (g.rules[i].right.length : Int)) = decide (20 < g.rules[i].right.length) := by simp only [decide_eq_decide]; omega
   have hgt : bin .gtr (.int .i64 (g.rules[i].right.length : Int)) (.int .i64 20) = some (.bool (decide (20 < g.rules[i].right.length))) := by rw [Qd0, hb3]
   generalize Q30 g.rules[i].left = b1 at hF hname
   generalize decide (g.rules[i].left ∈ g.kinds) = b2 at hF hkind
   generalize decide (20 < g.rules[i].right.length) = b3 at hF hgt
   generalize decide (0 <= g.rules[i].level /\ g.rules[i].level <= 99) = b4 at hF hin
   generalize decide (∃ j, j < i /\ Qa9 (g.rules.getD j default) g.rules[i] = true) = b5 at hF hcon
   simp [C.f7L1, h1, h49, h50, h51, hlt, hix, -Q0i, hrd3, hn, hst, r0, c1, hcon, rc0, rc1, rc2, hname, rg, hkind, hlr, -Qd0, hgt, hin, M.cond_bind, wrap64 (n := (i : Int) + 1) (by omega) (by omega)]
   cases b1 with
   | false => simp [bad 5 hF (by decide), HS]
   | true =>
   cases b2 with
   | true => simp [bad 13 hF (by decide), HS]
   | false =>
   cases b3 with
   | true => simp [bad 2 hF (by decide), HS]
   | false =>
   cases b4 with
   | false => simp [bad 1 hF (by decide), HS]
   | true =>
   cases b5 with
   | true => simp [bad 6 hF (by decide), HS]
   | false =>
   simp [HS, h1, h49, h50]
   refine ⟨i + 1, by omega, by omega, by simp, fun j hj => ?_⟩
   rcases Nat.lt_or_ge j i with h | h
   ·exact hall j h
   ·have : j = i := by omega
    subst this; exact hF
  ·have : i = g.rules.length := by omega
   subst this
   have : g.rulesF = 0 := Q4b hall
   simp [C.f7L1, h1, h50, h51, this, H]
 ·show g.rules.length - 0 < 1000000; omega
 ·exact ⟨H, by omega, h1, h49, h50, h51, fun j h => by omega⟩
end Go.Am
end
section
namespace Go.Am
open Go
theorem Qkv {k : Nat} {g : Q7} {kv rv w : AV} {l : List AV} {r : List Str} (hk : Qr kv 1 (strs g.kinds)) (hr : Qr rv 3 l) (hrs : Q0p l g.rules) (hs : g.Small) (hw : Qr w 1 (strs r)) (hrl : r.length <= 1000) (st : St) (H : FS [kv, .str g.start, rv] st) (a87 a88 : AV)
  (ts0 : TS) (h1 : ts0.get 1 = .pobj 0 0) (h86 : ts0.get 86 = rv) (h87 : ts0.get 87 = a87) (h88 : ts0.get 88 = a88) (h93 : ts0.get 93 = w) (h94 : ts0.get 94 = .int .i64 (r.length : Int)) (h95 : ts0.get 95 = .int .i64 ((0 : Nat) : Int)) :
  (Q0l (Qn E (Q6 E (k + 6)) C.f7L3) E.k ts0 st).to fun x => x.2.2 = st /\ ((x.1 = .exit 7 /\ r.all g.sym = true /\ x.2.1.get 1 = .pobj 0 0 /\ x.2.1.get 86 = rv /\ x.2.1.get 87 = a87 /\ x.2.1.get 88 = a88) ∨ (x.1 = .ret /\ r.all g.sym = false /\ x.2.1.get 2 = .int .i64 8)) := by
 have hG : Q02 (.agg [kv, .str g.start, rv]) g := ⟨kv, rv, l, rfl, hk, hr, hrs⟩
 have rg : Ql st.h (.pobj 0 0) 3 = some [kv, .str g.start, rv] := Qq H.g0 rfl
 refine Qs (fun (i : Nat) ts st' => st' = st /\ i <= r.length /\ ts.get 1 = .pobj 0 0 /\ ts.get 86 = rv /\ ts.get 87 = a87 /\ ts.get 88 = a88 /\ ts.get 93 = w /\ ts.get 94 = .int .i64 (r.length : Int) /\ ts.get 95 = .int .i64 (i : Int) /\ ∀ j (hj : j < r.length), j < i -> g.sym r[j] = true)
  (fun i => r.length - i) (fun e ts st' => st' = st /\ ((e = .exit 7 /\ r.all g.sym = true /\ ts.get 1 = .pobj 0 0 /\ ts.get 86 = rv /\ ts.get 87 = a87 /\ ts.get 88 = a88) ∨ (e = .ret /\ r.all g.sym = false /\ ts.get 2 = .int .i64 8))) ?_ _ 0 _ _ ?_ ?_
 ·rintro i ts st' ⟨rfl, hi, h1, h86, h87, h88, h93, h94, h95, hall⟩
  by_cases hlt : i < r.length
  ·have hsy := Qm7 (k := k) (x := r[i]) hG hs H.hb
   cases hx : g.sym r[i] with
   | true =>
    rw [hx] at hsy
    simp [C.f7L3, h1, h86, h87, h88, h93, h94, h95, hlt, hw.idxS hlt, rg, hsy, wrap64 (n := (i : Int) + 1) (by omega) (by omega)]
    refine ⟨i + 1, by omega, by omega, by simp, fun j hj hji => ?_⟩
    rcases Nat.lt_or_ge j i with h | h
    ·exact hall j hj h
    ·have : j = i := by omega
     subst this; exact hx
   | false =>
    rw [hx] at hsy
    have hno : r.all g.sym = false := by rw [List.all_eq_false]; exact ⟨r[i], List.getElem_mem hlt, by simp [hx]⟩
    simp [C.f7L3, h1, h86, h87, h88, h93, h94, h95, hlt, hw.idxS hlt, rg, hsy]
    simpa using hno
  ·have : i = r.length := by omega
   subst this
   have hyes : r.all g.sym = true := by
    rw [List.all_eq_true]; intro x hx
    obtain ⟨j, hj, rfl⟩ := List.getElem_of_mem hx
    exact hall j hj hj
   simp [C.f7L3, h1, h86, h87, h88, h94, h95]
   simpa using hyes
 ·show r.length - 0 < 1000000; omega
 ·exact ⟨rfl, by omega, h1, h86, h87, h88, h93, h94, h95, fun j _ h => by omega⟩
set_option maxHeartbeats 1000000 in
theorem Qkw {k : Nat} {g : Q7} {kv rv : AV} {l : List AV} (hk : Qr kv 1 (strs g.kinds)) (hr : Qr rv 3 l) (hrs : Q0p l g.rules) (hs : g.Small) (st : St) (H : FS [kv, .str g.start, rv] st)
  (ts0 : TS) (h1 : ts0.get 1 = .pobj 0 0) (h86 : ts0.get 86 = rv) (h87 : ts0.get 87 = .int .i64 (g.rules.length : Int)) (h88 : ts0.get 88 = .int .i64 ((0 : Nat) : Int)) :
  (Q0l (Qn E (Q6 E (k + 6)) C.f7L2) E.k ts0 st).to fun x => FS [kv, .str g.start, rv] x.2.2 /\ ((x.1 = .exit 5 /\ g.symsF = true /\ x.2.1.get 1 = .pobj 0 0) ∨ (x.1 = .ret /\ g.symsF = false /\ x.2.1.get 2 = .int .i64 8)) := by
 have hln := hrs.length
 have hmany := hs.many
 refine Qs (fun (i : Nat) ts st' => FS [kv, .str g.start, rv] st' /\ i <= g.rules.length /\ ts.get 1 = .pobj 0 0 /\ ts.get 86 = rv /\ ts.get 87 = .int .i64 (g.rules.length : Int) /\ ts.get 88 = .int .i64 (i : Int) /\ ∀ j (hj : j < g.rules.length), j < i -> g.rules[j].right.all g.sym = true)
  (fun i => g.rules.length - i) (fun e ts st' => FS [kv, .str g.start, rv] st' /\ ((e = .exit 5 /\ g.symsF = true /\ ts.get 1 = .pobj 0 0) ∨ (e = .ret /\ g.symsF = false /\ ts.get 2 = .int .i64 8))) ?_ _ 0 _ _ ?_ ?_
 ·rintro i ts st' ⟨H, hi, h1, h86, h87, h88, hall⟩
  by_cases hlt : i < g.rules.length
  ·have hil : i < l.length := by omega
   obtain ⟨w, e1, e2⟩ := (hrs.get i hlt).2
   have hsm := hs.rules _ (List.getElem_mem hlt)
   have hsr := hsm.right
   obtain ⟨h, c, lo⟩ := st'
   have hlo : lo = 0 := H.lo
   subst hlo
   have hb' : ∀ p x, (p, x) ∈ h -> p < c := H.hb
   have hc0 : 0 < c := H.c0
   have hc1 : c ≠ 0 := by omega
   obtain ⟨rc, hrc⟩ : ∃ rc : List AV, rc = [.str g.rules[i].left, w, .int .i64 g.rules[i].level] := ⟨_, rfl⟩
   obtain ⟨h', hh'⟩ : ∃ h' : Qc, h' = (c, Qe.cells 68 3 rc false) :: h := ⟨_, rfl⟩
   have hbS : HB ⟨h', c + 1, 0⟩ := hh' ▸ HB.cons (h := h) (c := c) (lo := 0) H.hb (by omega) (by omega)
   have HS : FS [kv, .str g.start, rv] ⟨h', c + 1, 0⟩ := ⟨hbS, by rw [hh', Q3, if_neg hc1]; exact H.g0, by show 0 < c + 1; omega, rfl⟩
   have hix : Qj 3 rv (.int .i64 (i : Int)) ⟨h, c + 1, 0⟩ = some (.pval l[i].cells, ⟨h, c + 1, 0⟩) := hr.idx hil
   have hcells : l[i].cells = rc := by rw [e1, hrc]; rfl
   rw [hcells] at hix
   have hn : newObj c (.cells 68 3 [.str [], .snil, .int .i64 0] false) ⟨h, c + 1, 0⟩ = some ⟨(c, .cells 68 3 [.str [], .snil, .int .i64 0] false) :: h, c + 1, 0⟩ := Qf hb'
   have hst := Q1k (h := h) (c := c) (c' := c + 1) (lo := 0) (ty := 68) (n := 3) (zs := [.str [], .snil, .int .i64 0]) (vs := rc) (by omega) (by rw [hrc]; rfl) rfl
   rw [← hh'] at hst
   have hrd3 : Ql h (.pval rc) 3 = some rc := by rw [hrc]; rfl
   have fc : Q0 h' c = some (.cells 68 3 rc false) := by rw [hh', Q3, if_pos rfl]
   have rc1 : Q5 h' (.pobj c 1) = some w := by rw [Q4 fc, hrc]; rfl
   have hlr : Qw .slice w ⟨h', c + 1, 0⟩ = some (.int .i64 (g.rules[i].right.length : Int), ⟨h', c + 1, 0⟩) := by have := e2.len (st := ⟨h', c + 1, 0⟩); simpa using this
   have loop := fun a87 a88 ts0 z1 z86 z87 z88 z93 z94 z95 => Qkv (k := k) hk hr hrs hs e2 (by omega) ⟨h', c + 1, 0⟩ HS a87 a88 ts0 z1 z86 z87 z88 z93 z94 z95
   simp [C.f7L2, h1, h86, h87, h88, hlt, hix, -Q0i, hrd3, hn, hst, rc1, hlr]
   refine M.to_bind (loop _ _ _ (by simp [h1]) (by simp [h86]) (by simp [h87]; rfl) (by simp [h88]; rfl) (by simp) (by simp) (by simp)) fun x hx => ?_
   obtain ⟨e, ts1, st1⟩ := x
   obtain ⟨rfl, ⟨rfl, ha, g1, g86, g87, g88⟩ | ⟨rfl, ha, g2⟩⟩ := hx
   ·simp only at g1 g86 g87 g88
    simp [g1, g86, g87, g88, HS, wrap64 (n := (i : Int) + 1) (by omega) (by omega)]
    refine ⟨i + 1, by omega, by omega, by simp, fun j hj hji => ?_⟩
    rcases Nat.lt_or_ge j i with h | h
    ·simpa using hall j hj h
    ·have : j = i := by omega
     subst this; simpa using ha
   ·simp only at g2
    have hno : g.symsF = false := by unfold Q7.symsF; rw [List.all_eq_false]; exact ⟨_, List.getElem_mem hlt, by simpa using ha⟩
    simp [g2, HS, hno]
  ·have : i = g.rules.length := by omega
   subst this
   have hyes : g.symsF = true := by
    unfold Q7.symsF; rw [List.all_eq_true]; intro x hx
    obtain ⟨j, hj, rfl⟩ := List.getElem_of_mem hx
    exact hall j hj hj
   simp [C.f7L2, h1, h87, h88, hyes, H]
 ·show g.rules.length - 0 < 1000000; omega
 ·exact ⟨H, by omega, h1, h86, h87, h88, fun j _ h => by omega⟩
theorem Qh9 {k : Nat} {v : AV} {g : Q7} {st : St} (hg : Q02 v g) (hs : g.Small) : Q6 E (k + 7) 7 [v] st = .ret (.int .i64 g.fault, st) := by
 have hold := hg.oldB 0
 obtain ⟨kv, rv, l, rfl, hk, hr, hrs⟩ := hg
 have hG : Q02 (.agg [kv, .str g.start, rv]) g := ⟨kv, rv, l, rfl, hk, hr, hrs⟩
 have hln := hrs.length
 have hmany := hs.many
 have hkn := hs.kinds
 rw [Q0b (fn := C.f7) rfl rfl rfl (by simp [AV.olds, hold]), Qg (by simp)]
 have goal : ((Qn E (Q6 E (k + 6)) C.f7.body (TS.ofArgs [.agg [kv, .str g.start, rv]] 0 .nil) ⟨[], 0, 0⟩).bind (Qb C.f7.results)).to fun r => r.1 = .int .i64 g.fault := by
  have hbx : Q0z 0 29 3 (.agg [kv, .str g.start, rv]) = some (.pobj 0 0, .cells 29 3 [kv, .str g.start, rv] false) := rfl
  obtain ⟨S, hS⟩ : ∃ S : St, S = ⟨[(0, .cells 29 3 [kv, .str g.start, rv] false)], 1, 0⟩ := ⟨_, rfl⟩
  have hn : newObj 0 (.cells 29 3 [kv, .str g.start, rv] false) ⟨[], 1, 0⟩ = some S := by rw [hS]; rfl
  have FSS : FS [kv, .str g.start, rv] S := by
   subst hS
   refine ⟨?_, rfl, Nat.zero_lt_one, rfl⟩
   intro p x hp
   rcases List.mem_cons.1 hp with h | h
   ·cases h; exact Nat.zero_lt_one
   ·cases h
  have r0 : ∀ {S' : St}, FS [kv, .str g.start, rv] S' -> Q5 S'.h (.pobj 0 0) = some kv := fun H => by rw [Q4 H.g0]; rfl
  have r1 : ∀ {S' : St}, FS [kv, .str g.start, rv] S' -> Q5 S'.h (.pobj 0 1) = some (.str g.start) := fun H => by rw [Q4 H.g0]; rfl
  have r2 : ∀ {S' : St}, FS [kv, .str g.start, rv] S' -> Q5 S'.h (.pobj 0 2) = some rv := fun H => by rw [Q4 H.g0]; rfl
  have rg : ∀ {S' : St}, FS [kv, .str g.start, rv] S' -> Ql S'.h (.pobj 0 0) 3 = some [kv, .str g.start, rv] := fun H => Qq H.g0 rfl
  have hlk : ∀ S' : St, Qw .slice kv S' = some (.int .i64 (g.kinds.length : Int), S') := fun S' => by have := hk.len (st := S'); simpa using this
  have hlr : ∀ S' : St, Qw .slice rv S' = some (.int .i64 (g.rules.length : Int), S') := fun S' => by have := hr.len (st := S'); rw [this, hln]
  have hk60 : ¬ (60 : Int) < (g.kinds.length : Int) := by omega
  have hk60' : ¬ 60 < g.kinds.length := by omega
  have hr100 : ¬ (100 : Int) < (g.rules.length : Int) := by omega
  simp [C.f7, hbx, hn, r0 FSS, hlk, hk60]
  refine M.to_bind (Qky (k := k + 3) hk hs FSS.g0 _ (by simp) (by simp) (by simp) (by simp)) fun x hx => ?_
  obtain ⟨e, ts1, st1⟩ := x
  obtain ⟨h, h'⟩ := hx
  simp only at h h'
  subst h
  rcases h' with ⟨rfl, hf0, g1⟩ | ⟨rfl, hf0, g2⟩
  ·by_cases hz : g.rules.length = 0
   ·have hfault : g.fault = 8 := by unfold Q7.fault; rw [if_neg (by simp [hf0]), if_pos hz]
    simp [g1, r2 FSS, hlr, hz, Qb, results, Q9, hfault]
   ·have hz' : ((g.rules.length : Int) == 0) = false := by simp only [beq_eq_false_iff_ne, ne_eq]; omega
    simp [g1, r2 FSS, hlr, hz', hr100]
    refine M.to_bind (Qkx (k := k + 2) hk hr hrs hs _ FSS _ (by simp [g1]) (by simp) (by simp) (by simp)) fun x hx => ?_
    obtain ⟨e, ts2, st2⟩ := x
    obtain ⟨F2, h'⟩ := hx
    simp only at F2 h'
    rcases h' with ⟨rfl, hf1, g1'⟩ | ⟨rfl, hf1, g2'⟩
    ·simp [g1', r2 F2, hlr]
     refine M.to_bind (Qkw (k := k) hk hr hrs hs _ F2 _ (by simp [g1']) (by simp) (by simp) (by simp)) fun x hx => ?_
     obtain ⟨e, ts3, st3⟩ := x
     obtain ⟨F3, h'⟩ := hx
     simp only at F3 h'
     rcases h' with ⟨rfl, hf2, g1''⟩ | ⟨rfl, hf2, g2''⟩
     ·have hl := Qif (k := k + 1) (x := g.start) hG hs F3.hb
      cases hst : g.isLeft g.start with
      | true =>
       rw [hst] at hl
       have hfault : g.fault = 0 := by unfold Q7.fault; rw [if_neg (by simp [hf0]), if_neg hz, if_neg (by simp [hf1]), if_neg (by simp [hf2]), if_neg (by simp [hst])]
       simp [g1'', rg F3, r1 F3, hl, Qb, results, Q9, hfault]
      | false =>
       rw [hst] at hl
       have hfault : g.fault = 8 := by unfold Q7.fault; rw [if_neg (by simp [hf0]), if_neg hz, if_neg (by simp [hf1]), if_neg (by simp [hf2]), if_pos hst]
       simp [g1'', rg F3, r1 F3, hl, Qb, results, Q9, hfault]
     ·have hfault : g.fault = 8 := by unfold Q7.fault; rw [if_neg (by simp [hf0]), if_neg hz, if_neg (by simp [hf1]), if_pos hf2]
      simp [g2'', Qb, results, Q9, hfault]
    ·have hfault : g.fault = g.rulesF := by unfold Q7.fault; rw [if_neg (by simp [hf0]), if_neg hz, if_pos hf1]
     simp [g2', Qb, results, Q9, hfault]
  ·have hfault : g.fault = g.kindsF := by unfold Q7.fault; rw [if_pos hf0]
   simp [g2, Qb, results, Q9, hfault]
 obtain ⟨⟨v, st'⟩, h1, h2⟩ := goal
 simp only at h2
 subst h2
 rw [h1]
 simp
end Go.Am
end
section
namespace Go.Am
open Go
theorem Qp4 {k : Nat} {x l u : Int} {st : St} : Q6 E (k + 1) 140 [.int .i64 x, .int .i64 l, .int .i64 u] st = .ret (.bool (decide (l <= x /\ x <= u)), st) := by
 rw [Qp (fn := C.f140) rfl rfl rfl, Qg (by simp)]
 by_cases h : l <= x
 ·by_cases h2 : x <= u
  ·simp [C.f140, Q05, Qy, h, h2, Qb, results, Q9]
  ·simp [C.f140, Q05, Qy, h, h2, Qb, results, Q9]
 ·simp [C.f140, Q05, Qy, h, Qb, results, Q9]
theorem Qhz {k q : Nat} {st : St} {la lb : Str} {wa wb : AV} {ra rb : List Str} {na nb : Int} (hb : HB st) (hq : q < st.c) (hf : Q0 st.h q = some (.cells 68 3 [.str lb, wb, .int .i64 nb] false))
  (hra : ra.length < 1000000)
  (r1 : ∀ h : Qc, (∀ p, p < st.c -> Q0 h p = Q0 st.h p) -> Reads h wa ra) (r2 : ∀ h : Qc, (∀ p, p < st.c -> Q0 h p = Q0 st.h p) -> Reads h wb rb) :
  Q6 E (k + 2) 141 [.agg [.str la, wa, .int .i64 na], .pobj q 0] st = .ret (.bool (decide (la = lb /\ ra = rb)), st) := by
 rw [Q0e (fn := C.f141) rfl rfl rfl, Qg (by simp)]
 have hb' : ∀ p x, (p, x) ∈ st.h -> p < st.c := hb
 have hfr : ∀ p, p < st.c -> Q0 ((st.c, Qe.cells 68 3 [.str la, wa, .int .i64 na] false) :: st.h) p = Q0 st.h p := fun p hp => by rw [Q3, if_neg (by omega)]
 have f1 : Q0 ((st.c, Qe.cells 68 3 [.str la, wa, .int .i64 na] false) :: st.h) st.c = some (.cells 68 3 [.str la, wa, .int .i64 na] false) := by rw [Q3, if_pos rfl]
 have f2 := (hfr q hq).trans hf
 have e1 : Q5 ((st.c, Qe.cells 68 3 [.str la, wa, .int .i64 na] false) :: st.h) (.pobj st.c 0) = some (.str la) := by rw [Q4 f1]; rfl
 have e2 : Q5 ((st.c, Qe.cells 68 3 [.str la, wa, .int .i64 na] false) :: st.h) (.pobj st.c 1) = some wa := by rw [Q4 f1]; rfl
 have e3 : Q5 ((st.c, Qe.cells 68 3 [.str la, wa, .int .i64 na] false) :: st.h) (.pobj q 0) = some (.str lb) := by rw [Q4 f2]; rfl
 have e4 : Q5 ((st.c, Qe.cells 68 3 [.str la, wa, .int .i64 na] false) :: st.h) (.pobj q 1) = some wb := by rw [Q4 f2]; rfl
 have heq := fun (c' l' : Nat) => Q8s (k := k) (st := ⟨(st.c, .cells 68 3 [.str la, wa, .int .i64 na] false) :: st.h, c', l'⟩) (r1 _ hfr) (r2 _ hfr) hra
 by_cases h : la = lb
 ·subst h
  simp [C.f141, Q0z, AV.isTuple, AV.cells, Qf hb', Q5a, e1, e2, e3, e4, heq, Qb, results, Q9]
 ·simp [C.f141, Q0z, AV.isTuple, AV.cells, Qf hb', Q5a, e1, e2, e3, e4, h, beq_false_of_ne h, Qb, results, Q9]
theorem Qio {k n fc : Nat} {w : AV} {a b : List AV} {el : Nat -> Str} {p : Nat -> Bool} {st : St} (hlen : Q0k w = some n) (hn : n < 1000000)
  (hat : ∀ i, i < n -> ∃ q, Qj 1 w (.int .i64 (i : Int)) st = some (q, st) /\ Q5 st.h q = some (.str (el i)))
  (hcall : ∀ i, i < n -> Q6 E k fc (a ++ ([.str (el i)] ++ b)) st = .ret (.bool (p i), st)) :
  ∃ r : Int, Q6 E (k + 1) 91 [w, .fn (.func fc) a b] st = .ret (.int .i64 r, st) /\ -1 <= r /\ (0 <= r ↔ ∃ i, i < n /\ p i = true) := by
 have main : (Q12 E (Q6 E k) C.f91 [w, .fn (.func fc) a b] st).to fun x => ∃ r : Int, x = (.int .i64 r, st) /\ -1 <= r /\ (0 <= r ↔ ∃ i, i < n /\ p i = true) := by
  rw [Qg (by simp)]
  simp [C.f91, Qw, hlen]
  refine M.to_bind (Qs (fun (i : Nat) ts st' => st' = st /\ i <= n /\ ts.get 0 = w /\ ts.get 1 = .fn (.func fc) a b /\ ts.get 7 = .int .i64 (n : Int) /\ ts.get 8 = .int .i64 (i : Int) /\ ∀ j, j < i -> p j = false)
   (fun i => n - i) (fun e ts st' => st' = st /\ ((e = .exit 0 /\ ∀ j, j < n -> p j = false) ∨ (e = .ret /\ ∃ i : Nat, i < n /\ p i = true /\ ts.get 4 = .int .i64 (i : Int)))) ?step _ 0 _ _ ?_ ?_) ?_
  case step =>
   rintro i ts st' ⟨rfl, hi, h0, h1, h7, h8, hj⟩
   by_cases hlt : i < n
   ·obtain ⟨q, a1, b1⟩ := hat i hlt
    have hc := hcall i hlt
    simp only [List.singleton_append] at hc
    cases hp : p i with
    | true =>
     rw [hp] at hc
     simp [C.f91L0, h0, h1, h7, h8, hlt, a1, b1, hc]
     exact ⟨i, hlt, hp, rfl⟩
    | false =>
     rw [hp] at hc
     simp [C.f91L0, h0, h1, h7, h8, hlt, a1, b1, hc, wrap64 (n := (i : Int) + 1) (by omega) (by omega)]
     refine ⟨i + 1, by omega, by omega, by simp, fun j hji => ?_⟩
     by_cases e : j = i
     ·subst e; exact hp
     ·exact hj j (by omega)
   ·have : i = n := by omega
    subst this
    simp [C.f91L0, h0, h1, h7, h8]
    exact hj
  ·show n - 0 < 1000000; omega
  ·simp
  ·rintro ⟨e, ts, st'⟩ ⟨rfl, h⟩
   rcases h with ⟨rfl, h⟩ | ⟨rfl, i, hi, hp, h4⟩
   ·simp [Qb, results, Q9]
    intro i hi; simp [h i hi]
   ·simp [h4, Qb, results, Q9]
    exact ⟨i, hi, hp⟩
 rw [Qp (fn := C.f91) rfl rfl rfl]
 obtain ⟨x, h1, r, rfl, h2⟩ := main
 exact ⟨r, h1, h2⟩
theorem Q8t {k n fc : Nat} {w : AV} {a b : List AV} {el : Nat -> Str} {p : Nat -> Bool} {st : St} (hlen : Q0k w = some n) (hn : n < 1000000)
  (hat : ∀ i, i < n -> ∃ q, Qj 1 w (.int .i64 (i : Int)) st = some (q, st) /\ Q5 st.h q = some (.str (el i)))
  (hcall : ∀ i, i < n -> Q6 E k fc (a ++ ([.str (el i)] ++ b)) st = .ret (.bool (p i), st)) :
  Q6 E (k + 2) 27 [w, .fn (.func fc) a b] st = .ret (.bool (decide (∃ i, i < n /\ p i = true)), st) := by
 obtain ⟨r, h1, h2, h3⟩ := Qio hlen hn hat hcall
 rw [Qp (fn := C.f27) rfl rfl rfl, Qg (by simp)]
 have : decide (0 <= r) = decide (∃ i, i < n /\ p i = true) := by simp only [h3]
 simp [C.f27, h1, Qb, results, Q9]
 simpa using this
theorem Qr.oldB {v : AV} {l : List Str} (h : Qr v 1 (strs l)) (c : Nat) : v.old c = true := by
 rcases h.out with ⟨rfl, _⟩ | ⟨t, rfl⟩
 ·rfl
 ·exact Q20 c _
theorem Qfb {k : Nat} {g : Q7} {kv : AV} {st : St} (hk : Qr kv 1 (strs g.kinds)) (hs : g.Small)
  (ts0 : TS) (h0' : ts0.get 0 = kv) (h8 : ts0.get 8 = kv) (h9 : ts0.get 9 = .int .i64 (g.kinds.length : Int)) (h10 : ts0.get 10 = .int .i64 ((0 : Nat) : Int)) :
  (Q0l (Qn E (Q6 E (k + 3)) C.f76L0) E.k ts0 st).to fun x => x.2.2 = st /\ ((x.1 = .exit 0 /\ g.kindsF = 0) ∨ (x.1 = .ret /\ g.kindsF ≠ 0 /\ x.2.1.get 2 = .int .i64 g.kindsF)) := by
 have hkn := hs.kinds
 refine Qs (fun (i : Nat) ts st' => st' = st /\ i <= g.kinds.length /\ ts.get 0 = kv /\ ts.get 8 = kv /\ ts.get 9 = .int .i64 (g.kinds.length : Int) /\ ts.get 10 = .int .i64 (i : Int) /\ ∀ j, j < i -> Q2y g.kinds j = 0)
  (fun i => g.kinds.length - i) (fun e ts st' => st' = st /\ ((e = .exit 0 /\ g.kindsF = 0) ∨ (e = .ret /\ g.kindsF ≠ 0 /\ ts.get 2 = .int .i64 g.kindsF))) ?_ _ 0 _ _ ?_ ?_
 ·rintro i ts st' ⟨rfl, hi, h0', h8, h9, h10, hall⟩
  by_cases hlt : i < g.kinds.length
  ·have hnm := hs.names _ (List.getElem_mem hlt)
   have hrun := Qex (k := k) (s := g.kinds[i]) (st := st') (by omega)
   have hget : g.kinds.getD i [] = g.kinds[i] := by simp [List.getD, hlt]
   have bad : ∀ n, Q2y g.kinds i = n -> n ≠ 0 -> g.kindsF = n := fun n h hn => by
    unfold Q7.kindsF; rw [Q75 hall (by rw [h]; exact hn) hlt, h]
   cases hn : Q30 g.kinds[i] with
   | false =>
    have hb := bad 5 (by unfold Q2y; rw [hget, hn]; simp) (by decide)
    simp [C.f76L0, h0', h8, h9, h10, hlt, hk.idxS hlt, hrun, hn, hb]
   | true =>
    by_cases h0 : i = 0
    ·subst h0
     have hix0 : Qj 1 kv (.int .i64 0) st' = some (.pval [.str g.kinds[0]], st') := hk.idxS (i := 0) hlt
     have good : Q2y g.kinds 0 = 0 := by unfold Q2y; rw [hget, hn]; simp
     simp [C.f76L0, Q05, Qy, h0', h8, h9, h10, hlt, hix0, hrun, hn, wrap64 (n := (1 : Int)) (by omega) (by omega)]
     exact ⟨1, by omega, by omega, by simp, fun j hj => by have : j = 0 := by omega
                                                           subst this; exact good⟩
    ·have hp : i - 1 < g.kinds.length := by omega
     have hcast : ((i : Int) - 1) = ((i - 1 : Nat) : Int) := by omega
     have hpos : 0 < i := by omega
     have hgp : g.kinds.getD (i - 1) [] = g.kinds[i - 1] := by simp [List.getD, hp]
     by_cases hless : g.kinds[i - 1] < g.kinds[i]
     ·have good : Q2y g.kinds i = 0 := by unfold Q2y; rw [hget, hgp, hn]; simp [hless]
      have h1 : decide (g.kinds[i] < g.kinds[i - 1]) = false := decide_eq_false (Q8e hless)
      have h2 : (g.kinds[i] == g.kinds[i - 1]) = false := beq_false_of_ne fun e => Q40 _ (e ▸ hless)
      simp [C.f76L0, Q05, Qy, h0', h8, h9, h10, hlt, hk.idxS hlt, hrun, hn, hpos, wrap64 (n := ((i - 1 : Nat) : Int)) (by omega) (by omega), hcast, hk.idxS hp, Q7x, h1, h2, wrap64 (n := (i : Int) + 1) (by omega) (by omega)]
      refine ⟨i + 1, by omega, by omega, by simp, fun j hj => ?_⟩
      rcases Nat.lt_or_ge j i with h | h
      ·exact hall j h
      ·have : j = i := by omega
       subst this; exact good
     ·have hb := bad 7 (by unfold Q2y; rw [hget, hgp, hn]; simp [hless]; omega) (by decide)
      have h1 : (decide (g.kinds[i] < g.kinds[i - 1]) || (g.kinds[i] == g.kinds[i - 1])) = true := by
       by_cases e : g.kinds[i] = g.kinds[i - 1]
       ·simp [e]
       ·have := Q5j hless (Ne.symm e)
        simp only [Bool.or_eq_true, decide_eq_true_eq]; exact .inl this
      simp only [← Q7x] at h1
      have hle : bin .leq (.str g.kinds[i]) (.str g.kinds[i - 1]) = some (.bool true) := by rw [Qje, h1]
      simp [C.f76L0, Q05, Qy, h0', h8, h9, h10, hlt, hk.idxS hlt, hrun, hn, hpos, wrap64 (n := ((i - 1 : Nat) : Int)) (by omega) (by omega), hcast, hk.idxS hp, -Qje, hle, hb]
  ·have : i = g.kinds.length := by omega
   subst this
   have : g.kindsF = 0 := Q4b hall
   simp [C.f76L0, h8, h9, h10, this]
 ·show g.kinds.length - 0 < 1000000; omega
 ·exact ⟨rfl, by omega, h0', h8, h9, h10, fun j h => by omega⟩
theorem Qfx {k : Nat} {g : Q7} {kv : AV} {st : St} (hk : Qr kv 1 (strs g.kinds)) (hs : g.Small) : Q6 E (k + 4) 76 [kv] st = .ret (.int .i64 g.kindsF, st) := by
 have hold := hk.oldB 0
 have hkn := hs.kinds
 rw [Q0b (fn := C.f76) rfl rfl rfl (by simp [AV.olds, hold]), Qg (by simp)]
 have goal : ((Qn E (Q6 E (k + 3)) C.f76.body (TS.ofArgs [kv] 0 .nil) ⟨[], 0, 0⟩).bind (Qb C.f76.results)).to fun r => r.1 = .int .i64 g.kindsF := by
  have hlk : ∀ S' : St, Qw .slice kv S' = some (.int .i64 (g.kinds.length : Int), S') := fun S' => by have := hk.len (st := S'); simpa using this
  have hk60 : ¬ (60 : Int) < (g.kinds.length : Int) := by omega
  simp [C.f76, hlk, hk60]
  refine M.to_bind (Qfb (k := k) hk hs _ (by simp) (by simp) (by simp) (by simp)) fun x hx => ?_
  obtain ⟨e, ts1, st1⟩ := x
  obtain ⟨h, h'⟩ := hx
  simp only at h h'
  subst h
  rcases h' with ⟨rfl, hf0⟩ | ⟨rfl, hf0, g2⟩
  ·simp [Qb, results, Q9, hf0]
  ·simp [Qb, results, Q9, g2]
 obtain ⟨⟨v, st'⟩, h1, h2⟩ := goal
 simp only at h2
 subst h2
 rw [h1]
 simp
set_option maxHeartbeats 1000000 in
theorem Qhj {k : Nat} {v : AV} {g : Q7} {st : St} (hg : Q02 v g) (hs : g.Small) {i : Nat} (hi : i < g.rules.length) : Q6 E (k + 5) 77 [v, .int .i64 (i : Int)] st = .ret (.int .i64 (Q4e g i), st) := by
 have hold := hg.oldB 0
 obtain ⟨kv, rv, l, rfl, hk, hr, hrs⟩ := hg
 have hln := hrs.length
 have hmany := hs.many
 have hkn := hs.kinds
 have hil : i < l.length := by omega
 obtain ⟨w, e1, e2⟩ := (hrs.get i hi).2
 have hsm := hs.rules _ (List.getElem_mem hi)
 have hsr := hsm.right
 rw [Q0b (fn := C.f77) rfl rfl rfl (by simp [AV.olds, hold]; rfl), Qg (by simp)]
 have hget : g.rules.getD i default = g.rules[i] := by simp [List.getD, hi]
 have hbx : Q0z 0 29 3 (.agg [kv, .str g.start, rv]) = some (.pobj 0 0, .cells 29 3 [kv, .str g.start, rv] false) := rfl
 obtain ⟨rc, hrc⟩ : ∃ rc : List AV, rc = [.str g.rules[i].left, w, .int .i64 g.rules[i].level] := ⟨_, rfl⟩
 obtain ⟨h, hh⟩ : ∃ h : Qc, h = [(0, .cells 29 3 [kv, .str g.start, rv] false)] := ⟨_, rfl⟩
 have hn0 : newObj 0 (.cells 29 3 [kv, .str g.start, rv] false) ⟨[], 1, 0⟩ = some ⟨h, 1, 0⟩ := by rw [hh]; rfl
 obtain ⟨h', hh'⟩ : ∃ h' : Qc, h' = (1, Qe.cells 68 3 rc false) :: h := ⟨_, rfl⟩
 have hb0 : HB ⟨h, 1, 0⟩ := by
  intro p x hp
  rw [hh] at hp
  rcases List.mem_cons.1 hp with e | e
  ·cases e; exact Nat.zero_lt_one
  ·cases e
 have hbS : HB ⟨h', 2, 0⟩ := hh' ▸ HB.cons (h := h) (c := 1) (lo := 0) hb0 (by omega) (by omega)
 have hf0 : Q0 h 0 = some (.cells 29 3 [kv, .str g.start, rv] false) := by rw [hh]; rfl
 have f0 : Q0 h' 0 = some (.cells 29 3 [kv, .str g.start, rv] false) := by rw [hh', Q3, if_neg (by omega)]; exact hf0
 have fc : Q0 h' 1 = some (.cells 68 3 rc false) := by rw [hh', Q3, if_pos rfl]
 have hix : Qj 3 rv (.int .i64 (i : Int)) ⟨h, 2, 0⟩ = some (.pval l[i].cells, ⟨h, 2, 0⟩) := hr.idx hil
 have hcells : l[i].cells = rc := by rw [e1, hrc]; rfl
 rw [hcells] at hix
 have hn : newObj 1 (.cells 68 3 [.str [], .snil, .int .i64 0] false) ⟨h, 2, 0⟩ = some ⟨(1, .cells 68 3 [.str [], .snil, .int .i64 0] false) :: h, 2, 0⟩ := Qf hb0
 have hst := Q1k (h := h) (c := 1) (c' := 2) (lo := 0) (ty := 68) (n := 3) (zs := [.str [], .snil, .int .i64 0]) (vs := rc) (by omega) (by rw [hrc]; rfl) rfl
 rw [← hh'] at hst
 have hrd3 : Ql h (.pval rc) 3 = some rc := by rw [hrc]; rfl
 have rr : Q5 h (.pobj 0 2) = some rv := by rw [Q4 hf0]; rfl
 have r0 : Q5 h' (.pobj 0 2) = some rv := by rw [Q4 f0]; rfl
 have rk : Q5 h' (.pobj 0 0) = some kv := by rw [Q4 f0]; rfl
 have rc0 : Q5 h' (.pobj 1 0) = some (.str g.rules[i].left) := by rw [Q4 fc, hrc]; rfl
 have rc1 : Q5 h' (.pobj 1 1) = some w := by rw [Q4 fc, hrc]; rfl
 have rc2 : Q5 h' (.pobj 1 2) = some (.int .i64 g.rules[i].level) := by rw [Q4 fc, hrc]; rfl
 obtain ⟨w2, c1, c2⟩ := hr.cut (st := ⟨h', 2, 0⟩) (i := i) (by omega)
 have hln2 : (l.take i).length = i := by simp; omega
 have hcon := Q46 (k := k + 2) (n := i) (fc := 141) (w := w2) (a := []) (b := [.pobj 1 0]) (el := fun j => (l.getD j .undef).cells) (p := fun j => Qa9 (g.rules.getD j default) g.rules[i]) (st := ⟨h', 2, 0⟩)
  (by rw [c2.lenS, hln2]) (by omega) (fun j hj => by
   have hjl : j < l.length := by omega
   have hg : l.getD j .undef = l[j] := by simp [List.getD, hjl]
   obtain ⟨w', lv', e'⟩ := (hrs.get j (by omega)).2.out3
   refine ⟨.pval l[j].cells, ?_, ?_⟩
   ·have := c2.idx (st := ⟨h', 2, 0⟩) (i := j) (by omega)
    simpa using this
   ·rw [hg, e']; simp [Ql, AV.cells, Qi]) (fun j hj => by
   have hjl : j < l.length := by omega
   have hg : l.getD j .undef = l[j] := by simp [List.getD, hjl]
   have hg2 : g.rules.getD j default = g.rules[j]'(by omega) := by simp [List.getD, show j < g.rules.length by omega]
   obtain ⟨w', e1', e2'⟩ := (hrs.get j (by omega)).2
   have hsm' := hs.rules _ (List.getElem_mem (show j < g.rules.length by omega))
   have hr30 := hsm'.right
   have := Qhz (k := k) (la := (g.rules[j]'(by omega)).left) (q := 1) (st := ⟨h', 2, 0⟩) (na := (g.rules[j]'(by omega)).level) hbS (by show 1 < 2; omega) (hrc ▸ fc) (by omega) (fun _ _ => Reads.ofSl e2') (fun _ _ => Reads.ofSl e2)
   rw [hg, e1', hg2]
   exact this)
 have hname := Qex (k := k + 1) (s := g.rules[i].left) (st := ⟨h', 2, 0⟩) (by have := hsm.left; omega)
 have hkind := Q86 (k := k + 2) (x := g.rules[i].left) (st := ⟨h', 2, 0⟩) hk (by omega)
 have hin := Qp4 (k := k + 3) (x := g.rules[i].level) (l := 0) (u := 99) (st := ⟨h', 2, 0⟩)
 have hlr : Qw .slice w ⟨h', 2, 0⟩ = some (.int .i64 (g.rules[i].right.length : Int), ⟨h', 2, 0⟩) := by have := e2.len (st := ⟨h', 2, 0⟩); simpa using this
 have hF : Q4e g i = bif !Q30 g.rules[i].left then 5 else bif decide (g.rules[i].left ∈ g.kinds) then 13 else bif decide (20 < g.rules[i].right.length) then 2 else bif !decide (0 <= g.rules[i].level /\ g.rules[i].level <= 99) then 1 else bif decide (∃ j, j < i /\ Qa9 (g.rules.getD j default) g.rules[i] = true) then 6 else 0 := by
  unfold Q4e; rw [hget]
  simp only [cond_eq_ite, Bool.not_eq_true', decide_eq_true_eq, decide_eq_false_iff_not]
 have hb3 : decide ((20 : Int) < (g.rules[i].right.length : Int)) = decide (20 < g.rules[i].right.length) := by simp only [decide_eq_decide]; omega
 have hgt : bin .gtr (.int .i64 (g.rules[i].right.length : Int)) (.int .i64 20) = some (.bool (decide (20 < g.rules[i].right.length))) := by rw [Qd0, hb3]
 generalize Q30 g.rules[i].left = b1 at hF hname
 generalize decide (g.rules[i].left ∈ g.kinds) = b2 at hF hkind
 generalize decide (20 < g.rules[i].right.length) = b3 at hF hgt
 generalize decide (0 <= g.rules[i].level /\ g.rules[i].level <= 99) = b4 at hF hin
 generalize decide (∃ j, j < i /\ Qa9 (g.rules.getD j default) g.rules[i] = true) = b5 at hF hcon
 rw [hF]
 simp [C.f77, hbx, hn0, rr, hix, -Q0i, hrd3, hn, hst, r0, rk, c1, hcon, rc0, rc1, rc2, hname, hkind, hlr, -Qd0, hgt, hin, M.cond_bind]
 cases b1 <;> cases b2 <;> cases b3 <;> cases b4 <;> cases b5 <;> simp [Qb, results, Q9]
end Go.Am
end
section
namespace Go.Am
open Go
def Q0y (h : Qc) (o : Nat) (K : List Str) : Prop := ∃ bs clock, Q0 h o = some (.map (strs K) (List.replicate K.length (.bool true)) bs clock)
theorem Q60 (x : Str) : ∀ K : List Str, (x ∈ K /\ ∃ i, i < K.length /\ Q1e (.one .str) (strs K) (.str x) = some (some i)) ∨ (x ∉ K /\ Q1e (.one .str) (strs K) (.str x) = some none)
 | [] => .inr ⟨by simp, rfl⟩
 | y :: K => by
  have hk : keq (.one .str) (.str x) (.str y) = some (x == y) := rfl
  by_cases e : x = y
  ·subst e
   refine .inl ⟨by simp, 0, by simp, ?_⟩
   show Q1e (.one .str) (.str x :: strs K) (.str x) = _
   simp [Q1e, hk]
  ·have hne : (x == y) = false := beq_false_of_ne e
   rcases Q60 x K with ⟨h1, i, h2, h3⟩ | ⟨h1, h2⟩
   ·refine .inl ⟨List.mem_cons_of_mem _ h1, i + 1, by simp; omega, ?_⟩
    show Q1e (.one .str) (.str y :: strs K) (.str x) = _
    simp [Q1e, hk, hne, h3]
   ·refine .inr ⟨by simp [e, h1], ?_⟩
    show Q1e (.one .str) (.str y :: strs K) (.str x) = _
    simp [Q1e, hk, hne, h2]
theorem Q0y.look {st : St} {o : Nat} {K : List Str} (H : Q0y st.h o K) (x : Str) : Q1w (.one .str) (.bool false) false (.mobj o) (.str x) st = some (.bool (decide (x ∈ K)), st) := by
 obtain ⟨bs, clock, hf⟩ := H
 rcases Q60 x K with ⟨h1, i, h2, h3⟩ | ⟨h1, h2⟩
 ·simp [Q1w, hf, Q2w, Q38, h3, Q3p, h1, List.getElem?_replicate, h2]
 ·simp [Q1w, hf, Q2w, Q38, h2, Q3p, h1]
theorem Q0y.put {st : St} {o : Nat} {K : List Str} (H : Q0y st.h o K) (hlo : st.lo <= o) (x : Str) :
  ∃ ob K', Q1s (.one .str) (.mobj o) (.str x) (.bool true) st = some (.undef, { st with h := hset st.h o ob }) /\ Q0y (hset st.h o ob) o K' /\ (∀ y, y ∈ K' ↔ y = x ∨ y ∈ K) /\ ∀ p, p ≠ o -> Q0 (hset st.h o ob) p = Q0 st.h p := by
 obtain ⟨bs, clock, hf⟩ := H
 have hb : Nat.blt o st.lo = false := by rw [Qm]; simp; omega
 rcases Q60 x K with ⟨h1, i, h2, h3⟩ | ⟨h1, h2⟩
 ·refine ⟨_, K, by simp only [Q1s, hb, Q38, hf, h3, Bool.not_true, Bool.or_self, cond_false]; rfl, ⟨bs, clock, ?_⟩, fun y => ⟨.inr, fun h => h.elim (fun e => e ▸ h1) id⟩, fun p hp => by rw [Q8 hf, if_neg (Ne.symm hp)]⟩
  rw [Q8 hf, if_pos rfl]; simp
 ·refine ⟨_, K ++ [x], by simp only [Q1s, hb, Q38, hf, h2, Bool.not_true, Bool.or_self, cond_false]; rfl, ⟨bs ++ [clock], clock + 1, ?_⟩, fun y => by simp [or_comm], fun p hp => by rw [Q8 hf, if_neg (Ne.symm hp)]⟩
  rw [Q8 hf, if_pos rfl]
  simp [strs, List.replicate_succ']
theorem Q0y.frame {h h' : Qc} {o : Nat} {K : List Str} (H : Q0y h o K) (e : Q0 h' o = Q0 h o) : Q0y h' o K := by
 obtain ⟨bs, clock, hf⟩ := H
 exact ⟨bs, clock, e.trans hf⟩
theorem HB.hset {st : St} {o : Nat} {ob : Qe} (hb : HB st) : HB { st with h := hset st.h o ob } := by
 intro p x hp
 obtain ⟨x', hx'⟩ := Q4q hp
 exact hb p x' hx'
structure CS (gs : List AV) (K : List Str) (st : St) : Prop where
 hb : HB st
 g0 : Q0 st.h 0 = some (.cells 29 3 gs false)
 m1 : Q0y st.h 1 K
 k2 : Q0 st.h 2 = some (.cells 88 1 [.mobj 1] false)
 lo : st.lo = 0
 c2 : 2 < st.c
theorem Ql8 {n : Nat} {g : Q7} {gs : List AV} {kv : AV} (hk : Qr kv 1 (strs g.kinds)) (hs : g.Small) (st : St) (H : CS gs [] st)
  (ts0 : TS) (h1 : ts0.get 1 = .pobj 0 0) (h4 : ts0.get 4 = .pobj 2 0) (h31 : ts0.get 31 = kv) (h32 : ts0.get 32 = .int .i64 (g.kinds.length : Int)) (h33 : ts0.get 33 = .int .i64 ((0 : Nat) : Int)) :
  (Q0l (Qn E (Q6 E n) C.f19L0) E.k ts0 st).to fun x => x.1 = .exit 1 /\ x.2.1.get 1 = .pobj 0 0 /\ x.2.1.get 4 = .pobj 2 0 /\ x.2.2.c = st.c /\ ∃ K, CS gs K x.2.2 /\ ∀ s, s ∈ K ↔ s ∈ g.kinds := by
 have hkn := hs.kinds
 refine Qs (fun (i : Nat) ts st' => i <= g.kinds.length /\ ts.get 1 = .pobj 0 0 /\ ts.get 4 = .pobj 2 0 /\ ts.get 31 = kv /\ ts.get 32 = .int .i64 (g.kinds.length : Int) /\ ts.get 33 = .int .i64 (i : Int) /\ st'.c = st.c /\ ∃ K, CS gs K st' /\ ∀ s, s ∈ K ↔ s ∈ g.kinds.take i)
  (fun i => g.kinds.length - i) (fun e ts st' => e = .exit 1 /\ ts.get 1 = .pobj 0 0 /\ ts.get 4 = .pobj 2 0 /\ st'.c = st.c /\ ∃ K, CS gs K st' /\ ∀ s, s ∈ K ↔ s ∈ g.kinds) ?_ _ 0 _ _ ?_ ?_
 ·rintro i ts st' ⟨hi, h1, h4, h31, h32, h33, hc, K, H, hK⟩
  by_cases hlt : i < g.kinds.length
  ·have r2 : Q5 st'.h (.pobj 2 0) = some (.mobj 1) := by rw [Q4 H.k2]; rfl
   obtain ⟨ob, K', p1, p2, p3, p4⟩ := H.m1.put (by rw [H.lo]; omega) g.kinds[i]
   simp [C.f19L0, h1, h4, h31, h32, h33, hlt, hk.idxS hlt, r2, p1, wrap64 (n := (i : Int) + 1) (by omega) (by omega)]
   refine ⟨i + 1, by omega, by omega, by simp, hc, K', ⟨H.hb.hset, (p4 0 (by omega)).trans H.g0, p2, (p4 2 (by omega)).trans H.k2, H.lo, H.c2⟩, fun s => ?_⟩
   rw [p3, hK, List.take_succ_eq_append_getElem hlt, List.mem_append, List.mem_singleton, or_comm]
  ·have : i = g.kinds.length := by omega
   subst this
   rw [List.take_length] at hK
   simp [C.f19L0, h1, h4, h31, h32, h33]
   exact ⟨hc, K, H, hK⟩
 ·show g.kinds.length - 0 < 1000000; omega
 ·exact ⟨by omega, h1, h4, h31, h32, h33, rfl, [], H, by simp⟩
theorem Qdn (g : Q7) (i : Nat) (hi : i < g.rules.length) (s : Str) : (s = g.rules[i].left ∨ ∃ r ∈ g.rules.take i, r.left = s) ↔ ∃ r ∈ g.rules.take (i + 1), r.left = s := by
 rw [List.take_succ_eq_append_getElem hi]
 constructor
 ·rintro (rfl | ⟨r, h1, h2⟩)
  ·exact ⟨g.rules[i], List.mem_append.2 (.inr (by simp only [List.mem_singleton])), rfl⟩
  ·exact ⟨r, List.mem_append.2 (.inl h1), h2⟩
 ·rintro ⟨r, h1, h2⟩
  rcases List.mem_append.1 h1 with h | h
  ·exact .inr ⟨r, h, h2⟩
  ·simp only [List.mem_singleton] at h; subst h; exact .inl h2.symm
set_option maxHeartbeats 1000000 in
theorem Ql7 {k : Nat} {g : Q7} {kv rv : AV} {l : List AV} (hk : Qr kv 1 (strs g.kinds)) (hr : Qr rv 3 l) (hrs : Q0p l g.rules) (hs : g.Small) (st : St) {K0 : List Str} (H : CS [kv, .str g.start, rv] K0 st) (hK0 : ∀ s, s ∈ K0 ↔ s ∈ g.kinds) (H3 : Q0y st.h 3 []) (hc3 : 3 < st.c)
  (ts0 : TS) (h1 : ts0.get 1 = .pobj 0 0) (h4 : ts0.get 4 = .pobj 2 0) (h7 : ts0.get 7 = .mobj 3) (h42 : ts0.get 42 = rv) (h43 : ts0.get 43 = .int .i64 (g.rules.length : Int)) (h44 : ts0.get 44 = .int .i64 ((0 : Nat) : Int)) :
  (Q0l (Qn E (Q6 E (k + 5)) C.f19L1) E.k ts0 st).to fun x =>
   (x.1 = .exit 3 /\ g.rulesF = 0 /\ x.2.1.get 1 = .pobj 0 0 /\ x.2.1.get 4 = .pobj 2 0 /\ x.2.1.get 7 = .mobj 3 /\ 3 < x.2.2.c /\ ∃ K L, CS [kv, .str g.start, rv] K x.2.2 /\ Q0y x.2.2.h 3 L /\ (∀ s, s ∈ K ↔ g.sym s = true) /\ ∀ s, s ∈ L ↔ g.isLeft s = true) ∨ (x.1 = .ret /\ g.rulesF ≠ 0 /\ x.2.1.get 2 = .int .i64 g.rulesF) := by
 have hln := hrs.length
 have hmany := hs.many
 have hG : Q02 (.agg [kv, .str g.start, rv]) g := ⟨kv, rv, l, rfl, hk, hr, hrs⟩
 refine Qs (fun (i : Nat) ts st' => i <= g.rules.length /\ ts.get 1 = .pobj 0 0 /\ ts.get 4 = .pobj 2 0 /\ ts.get 7 = .mobj 3 /\ ts.get 42 = rv /\ ts.get 43 = .int .i64 (g.rules.length : Int) /\ ts.get 44 = .int .i64 (i : Int) /\ 3 < st'.c /\ (∀ j, j < i -> Q4e g j = 0) /\ ∃ K L, CS [kv, .str g.start, rv] K st' /\ Q0y st'.h 3 L /\ (∀ s, s ∈ K ↔ s ∈ g.kinds ∨ ∃ r ∈ g.rules.take i, r.left = s) /\ ∀ s, s ∈ L ↔ ∃ r ∈ g.rules.take i, r.left = s)
  (fun i => g.rules.length - i) (fun e ts st' => (e = .exit 3 /\ g.rulesF = 0 /\ ts.get 1 = .pobj 0 0 /\ ts.get 4 = .pobj 2 0 /\ ts.get 7 = .mobj 3 /\ 3 < st'.c /\ ∃ K L, CS [kv, .str g.start, rv] K st' /\ Q0y st'.h 3 L /\ (∀ s, s ∈ K ↔ g.sym s = true) /\ ∀ s, s ∈ L ↔ g.isLeft s = true) ∨ (e = .ret /\ g.rulesF ≠ 0 /\ ts.get 2 = .int .i64 g.rulesF)) ?_ _ 0 _ _ ?_ ?_
 ·rintro i ts st' ⟨hi, h1, h4, h7, h42, h43, h44, hc3, hall, K, L, H, H3, hK, hL⟩
  by_cases hlt : i < g.rules.length
  ·have hil : i < l.length := by omega
   obtain ⟨w, e1, e2⟩ := (hrs.get i hlt).2
   have bad : Q4e g i ≠ 0 -> g.rulesF = Q4e g i := fun hn => by unfold Q7.rulesF; rw [Q75 hall hn hlt]
   obtain ⟨h, c, lo⟩ := st'
   have hlo : lo = 0 := H.lo
   subst hlo
   have hb' : ∀ p x, (p, x) ∈ h -> p < c := H.hb
   have hc3' : 3 < c := hc3
   obtain ⟨rc, hrc⟩ : ∃ rc : List AV, rc = [.str g.rules[i].left, w, .int .i64 g.rules[i].level] := ⟨_, rfl⟩
   obtain ⟨h', hh'⟩ : ∃ h' : Qc, h' = (c, Qe.cells 68 3 rc false) :: h := ⟨_, rfl⟩
   have hbS : HB ⟨h', c + 1, 0⟩ := hh' ▸ HB.cons (h := h) (c := c) (lo := 0) H.hb (by omega) (by omega)
   have fr : ∀ p, p < c -> Q0 h' p = Q0 h p := fun p hp => by rw [hh', Q3, if_neg (by omega)]
   have hix : Qj 3 rv (.int .i64 (i : Int)) ⟨h, c + 1, 0⟩ = some (.pval l[i].cells, ⟨h, c + 1, 0⟩) := hr.idx hil
   have hcells : l[i].cells = rc := by rw [e1, hrc]; rfl
   rw [hcells] at hix
   have hn : newObj c (.cells 68 3 [.str [], .snil, .int .i64 0] false) ⟨h, c + 1, 0⟩ = some ⟨(c, .cells 68 3 [.str [], .snil, .int .i64 0] false) :: h, c + 1, 0⟩ := Qf hb'
   have hst := Q1k (h := h) (c := c) (c' := c + 1) (lo := 0) (ty := 68) (n := 3) (zs := [.str [], .snil, .int .i64 0]) (vs := rc) (by omega) (by rw [hrc]; rfl) rfl
   rw [← hh'] at hst
   have hrd3 : Ql h (.pval rc) 3 = some rc := by rw [hrc]; rfl
   have fc : Q0 h' c = some (.cells 68 3 rc false) := by rw [hh', Q3, if_pos rfl]
   have f0 : Q0 h' 0 = some (.cells 29 3 [kv, .str g.start, rv] false) := (fr 0 (by omega)).trans H.g0
   have rg : Ql h' (.pobj 0 0) 3 = some [kv, .str g.start, rv] := Qq f0 rfl
   have rc0 : Q5 h' (.pobj c 0) = some (.str g.rules[i].left) := by rw [Q4 fc, hrc]; rfl
   have r2 : Q5 h' (.pobj 2 0) = some (.mobj 1) := by rw [Q4 ((fr 2 (by omega)).trans H.k2)]; rfl
   have M1 : Q0y (St.mk h' (c + 1) 0).h 1 K := H.m1.frame (fr 1 (by omega))
   obtain ⟨ob, K', p1, p2, p3, p4⟩ := M1.put (st := ⟨h', c + 1, 0⟩) (by show 0 <= 1; omega) g.rules[i].left
   simp only at p1 p2 p4
   have rc0' : Q5 (hset h' 1 ob) (.pobj c 0) = some (.str g.rules[i].left) := by rw [Q4 ((p4 c (by omega)).trans fc), hrc]; rfl
   have M3 : Q0y (St.mk (hset h' 1 ob) (c + 1) 0).h 3 L := H3.frame ((p4 3 (by omega)).trans (fr 3 hc3'))
   obtain ⟨ob2, L', q1, q2, q3, q4⟩ := M3.put (st := ⟨hset h' 1 ob, c + 1, 0⟩) (by show 0 <= 3; omega) g.rules[i].left
   simp only at q1 q2 q4
   have hrule := Qhj (k := k) (st := ⟨h', c + 1, 0⟩) hG hs hlt
   by_cases hz : Q4e g i = 0
   ·rw [hz] at hrule
    simp [C.f19L1, h1, h4, h7, h42, h43, h44, hlt, hix, -Q0i, hrd3, hn, hst, rg, hrule, Q2o, Q3k, Q1m, Q1d, Q1z, beq_eq, AV.beq_same, r2, rc0, p1, rc0', q1, wrap64 (n := (i : Int) + 1) (by omega) (by omega)]
    refine ⟨i + 1, by omega, by omega, by simp, by omega, fun j hj => ?_, K', ⟨HB.hset (st := ⟨hset h' 1 ob, c + 1, 0⟩) (HB.hset (st := ⟨h', c + 1, 0⟩) hbS), ?_, p2.frame (q4 1 (by omega)), ?_, rfl, by show 2 < c + 1; omega⟩, L', q2, fun s => ?_, fun s => ?_⟩
    ·rcases Nat.lt_or_ge j i with h | h
     ·exact hall j h
     ·have : j = i := by omega
      subst this; exact hz
    ·exact (q4 0 (by omega)).trans ((p4 0 (by omega)).trans f0)
    ·exact (q4 2 (by omega)).trans ((p4 2 (by omega)).trans ((fr 2 (by omega)).trans H.k2))
    ·rw [p3, hK, ← Qdn g i hlt s]
     constructor
     ·rintro (h | h | h)
      ·exact .inr (.inl h)
      ·exact .inl h
      ·exact .inr (.inr h)
     ·rintro (h | h | h)
      ·exact .inr (.inl h)
      ·exact .inl h
      ·exact .inr (.inr h)
    ·rw [q3, hL, ← Qdn g i hlt s]
   ·have hne : (Q4e g i != 0) = true := by simpa using hz
    simp [C.f19L1, h1, h4, h7, h42, h43, h44, hlt, hix, -Q0i, hrd3, hn, hst, rg, hrule, hne, hz, bad hz]
  ·have : i = g.rules.length := by omega
   subst this
   have hzero : g.rulesF = 0 := Q4b hall
   rw [List.take_length] at hK hL
   have hleft : ∀ s, (∃ r ∈ g.rules, r.left = s) ↔ g.isLeft s = true := fun s => by unfold Q7.isLeft; simp
   simp [C.f19L1, h1, h4, h7, h42, h43, h44, hzero]
   exact ⟨hc3, K, H, L, H3, fun s => by rw [hK, hleft]; unfold Q7.sym; simp, fun s => by rw [hL, hleft]⟩
 ·show g.rules.length - 0 < 1000000; omega
 ·exact ⟨by omega, h1, h4, h7, h42, h43, h44, hc3, fun j h => by omega, K0, [], H, H3, by simpa using hK0, by simp⟩
end Go.Am
end
section
namespace Go.Am
open Go
theorem Qse {k : Nat} {K : List Str} {x : Str} {st : St} (h2 : Q0 st.h 2 = some (.cells 88 1 [.mobj 1] false)) (h1 : Q0y st.h 1 K) :
  Q6 E (k + 1) 78 [.str x, .pobj 2 0] st = .ret (.bool (!decide (x ∈ K)), st) := by
 rw [Q0e (fn := C.f78) rfl rfl rfl, Qg (by simp)]
 have r2 : Q5 st.h (.pobj 2 0) = some (.mobj 1) := by rw [Q4 h2]; rfl
 have hl := Q0y.look (st := ⟨st.h, st.c, st.c⟩) h1 x
 simp [C.f78, r2, hl, Qb, results, Q9]
theorem Qk0 {k : Nat} {K : List Str} {w : AV} {r : List Str} {st : St} (hw : Qr w 1 (strs r)) (hrl : r.length <= 1000) (h2 : Q0 st.h 2 = some (.cells 88 1 [.mobj 1] false)) (h1 : Q0y st.h 1 K) :
  Q6 E (k + 3) 27 [w, .fn (.func 78) [] [.pobj 2 0]] st = .ret (.bool (!r.all fun s => decide (s ∈ K)), st) := by
 have hc := Q8t (k := k + 1) (n := r.length) (fc := 78) (w := w) (a := []) (b := [.pobj 2 0]) (el := fun j => r.getD j []) (p := fun j => !decide (r.getD j [] ∈ K)) (st := st)
  (by rw [hw.lenS]; simp) (by omega) (fun i hi => ⟨_, hw.idxS hi, by simp [List.getD, hi]⟩) (fun i hi => Qse h2 h1)
 have e : decide (∃ i, i < r.length /\ (!decide (r.getD i [] ∈ K)) = true) = !r.all fun s => decide (s ∈ K) := by
  rw [Bool.eq_iff_iff]
  simp only [decide_eq_true_eq, Bool.not_eq_true', List.all_eq_false, decide_eq_false_iff_not]
  constructor
  ·rintro ⟨i, hi, h⟩
   refine ⟨r[i], List.getElem_mem hi, ?_⟩
   simpa [List.getD, hi] using h
  ·rintro ⟨s, hs, h⟩
   obtain ⟨i, hi, rfl⟩ := List.getElem_of_mem hs
   exact ⟨i, hi, by simpa [List.getD, hi] using h⟩
 rw [hc, e]
set_option maxHeartbeats 1000000 in
theorem Ql6 {k : Nat} {g : Q7} {kv rv : AV} {l : List AV} (hr : Qr rv 3 l) (hrs : Q0p l g.rules) (hs : g.Small) (st : St) {K L : List Str} (H : CS [kv, .str g.start, rv] K st) (hK : ∀ s, s ∈ K ↔ g.sym s = true) (H3 : Q0y st.h 3 L) (hc3 : 3 < st.c)
  (ts0 : TS) (h1 : ts0.get 1 = .pobj 0 0) (h4 : ts0.get 4 = .pobj 2 0) (h7 : ts0.get 7 = .mobj 3) (h63 : ts0.get 63 = rv) (h64 : ts0.get 64 = .int .i64 (g.rules.length : Int)) (h65 : ts0.get 65 = .int .i64 ((0 : Nat) : Int)) :
  (Q0l (Qn E (Q6 E (k + 3)) C.f19L2) E.k ts0 st).to fun x =>
   (x.1 = .exit 5 /\ g.symsF = true /\ x.2.1.get 1 = .pobj 0 0 /\ x.2.1.get 7 = .mobj 3 /\ CS [kv, .str g.start, rv] K x.2.2 /\ Q0y x.2.2.h 3 L) ∨ (x.1 = .ret /\ g.symsF = false /\ x.2.1.get 2 = .int .i64 8) := by
 have hln := hrs.length
 have hmany := hs.many
 have hfun : (fun s => decide (s ∈ K)) = g.sym := by
  funext s; rw [Bool.eq_iff_iff, decide_eq_true_eq]; exact hK s
 refine Qs (fun (i : Nat) ts st' => i <= g.rules.length /\ ts.get 1 = .pobj 0 0 /\ ts.get 4 = .pobj 2 0 /\ ts.get 7 = .mobj 3 /\ ts.get 63 = rv /\ ts.get 64 = .int .i64 (g.rules.length : Int) /\ ts.get 65 = .int .i64 (i : Int) /\ 3 < st'.c /\ (∀ j (hj : j < g.rules.length), j < i -> g.rules[j].right.all g.sym = true) /\ CS [kv, .str g.start, rv] K st' /\ Q0y st'.h 3 L)
  (fun i => g.rules.length - i) (fun e ts st' => (e = .exit 5 /\ g.symsF = true /\ ts.get 1 = .pobj 0 0 /\ ts.get 7 = .mobj 3 /\ CS [kv, .str g.start, rv] K st' /\ Q0y st'.h 3 L) ∨ (e = .ret /\ g.symsF = false /\ ts.get 2 = .int .i64 8)) ?_ _ 0 _ _ ?_ ?_
 ·rintro i ts st' ⟨hi, h1, h4, h7, h63, h64, h65, hc3, hall, H, H3⟩
  by_cases hlt : i < g.rules.length
  ·have hil : i < l.length := by omega
   obtain ⟨w, e1, e2⟩ := (hrs.get i hlt).2
   have hsm := hs.rules _ (List.getElem_mem hlt)
   have hsr := hsm.right
   obtain ⟨h, c, lo⟩ := st'
   have hlo : lo = 0 := H.lo
   subst hlo
   have hb' : ∀ p x, (p, x) ∈ h -> p < c := H.hb
   have hc3' : 3 < c := hc3
   obtain ⟨rc, hrc⟩ : ∃ rc : List AV, rc = [.str g.rules[i].left, w, .int .i64 g.rules[i].level] := ⟨_, rfl⟩
   obtain ⟨h', hh'⟩ : ∃ h' : Qc, h' = (c, Qe.cells 68 3 rc false) :: h := ⟨_, rfl⟩
   have hbS : HB ⟨h', c + 1, 0⟩ := hh' ▸ HB.cons (h := h) (c := c) (lo := 0) H.hb (by omega) (by omega)
   have fr : ∀ p, p < c -> Q0 h' p = Q0 h p := fun p hp => by rw [hh', Q3, if_neg (by omega)]
   have hix : Qj 3 rv (.int .i64 (i : Int)) ⟨h, c + 1, 0⟩ = some (.pval l[i].cells, ⟨h, c + 1, 0⟩) := hr.idx hil
   have hcells : l[i].cells = rc := by rw [e1, hrc]; rfl
   rw [hcells] at hix
   have hn : newObj c (.cells 68 3 [.str [], .snil, .int .i64 0] false) ⟨h, c + 1, 0⟩ = some ⟨(c, .cells 68 3 [.str [], .snil, .int .i64 0] false) :: h, c + 1, 0⟩ := Qf hb'
   have hst := Q1k (h := h) (c := c) (c' := c + 1) (lo := 0) (ty := 68) (n := 3) (zs := [.str [], .snil, .int .i64 0]) (vs := rc) (by omega) (by rw [hrc]; rfl) rfl
   rw [← hh'] at hst
   have hrd3 : Ql h (.pval rc) 3 = some rc := by rw [hrc]; rfl
   have fc : Q0 h' c = some (.cells 68 3 rc false) := by rw [hh', Q3, if_pos rfl]
   have rc1 : Q5 h' (.pobj c 1) = some w := by rw [Q4 fc, hrc]; rfl
   have M1 : Q0y (St.mk h' (c + 1) 0).h 1 K := H.m1.frame (fr 1 (by omega))
   have HC : CS [kv, .str g.start, rv] K ⟨h', c + 1, 0⟩ := ⟨hbS, (fr 0 (by omega)).trans H.g0, M1, (fr 2 (by omega)).trans H.k2, rfl, by show 2 < c + 1; omega⟩
   have hu := Qk0 (k := k) (st := ⟨h', c + 1, 0⟩) e2 (by omega) HC.k2 HC.m1
   rw [hfun] at hu
   have H3' : Q0y h' 3 L := H3.frame (fr 3 hc3')
   cases ha : g.rules[i].right.all g.sym with
   | true =>
    rw [ha] at hu
    simp [C.f19L2, h1, h4, h7, h63, h64, h65, hlt, hix, -Q0i, hrd3, hn, hst, rc1, hu, wrap64 (n := (i : Int) + 1) (by omega) (by omega)]
    refine ⟨i + 1, by omega, by omega, by simp, by omega, fun j hj hji => ?_, HC, H3'⟩
    rcases Nat.lt_or_ge j i with h | h
    ·simpa using hall j hj h
    ·have : j = i := by omega
     subst this; simpa using ha
   | false =>
    rw [ha] at hu
    have hno : g.symsF = false := by unfold Q7.symsF; rw [List.all_eq_false]; exact ⟨_, List.getElem_mem hlt, by simp only [ha]; decide⟩
    simp [C.f19L2, h1, h4, h7, h63, h64, h65, hlt, hix, -Q0i, hrd3, hn, hst, rc1, hu, hno]
  ·have : i = g.rules.length := by omega
   subst this
   have hyes : g.symsF = true := by
    unfold Q7.symsF; rw [List.all_eq_true]; intro x hx
    obtain ⟨j, hj, rfl⟩ := List.getElem_of_mem hx
    exact hall j hj hj
   simp [C.f19L2, h1, h4, h7, h64, h65, hyes, H, H3]
 ·show g.rules.length - 0 < 1000000; omega
 ·exact ⟨by omega, h1, h4, h7, h63, h64, h65, hc3, fun j _ h => by omega, H, H3⟩
set_option maxHeartbeats 1000000 in
theorem Q8v {k : Nat} {v : AV} {g : Q7} {st : St} (hg : Q02 v g) (hs : g.Small) : Q6 E (k + 6) 19 [v] st = .ret (.int .i64 g.fault, st) := by
 have hold := hg.oldB 0
 obtain ⟨kv, rv, l, rfl, hk, hr, hrs⟩ := hg
 have hG : Q02 (.agg [kv, .str g.start, rv]) g := ⟨kv, rv, l, rfl, hk, hr, hrs⟩
 have hln := hrs.length
 have hmany := hs.many
 have hkn := hs.kinds
 rw [Q0b (fn := C.f19) rfl rfl rfl (by simp [AV.olds, hold]), Qg (by simp)]
 have goal : ((Qn E (Q6 E (k + 5)) C.f19.body (TS.ofArgs [.agg [kv, .str g.start, rv]] 0 .nil) ⟨[], 0, 0⟩).bind (Qb C.f19.results)).to fun r => r.1 = .int .i64 g.fault := by
  have hbx : Q0z 0 29 3 (.agg [kv, .str g.start, rv]) = some (.pobj 0 0, .cells 29 3 [kv, .str g.start, rv] false) := rfl
  obtain ⟨h0, hh0⟩ : ∃ h : Qc, h = [(0, .cells 29 3 [kv, .str g.start, rv] false)] := ⟨_, rfl⟩
  have hn : newObj 0 (.cells 29 3 [kv, .str g.start, rv] false) ⟨[], 1, 0⟩ = some ⟨h0, 1, 0⟩ := by rw [hh0]; rfl
  have f0 : Q0 h0 0 = some (.cells 29 3 [kv, .str g.start, rv] false) := by rw [hh0]; rfl
  have hb0 : HB ⟨h0, 1, 0⟩ := by
   intro p x hp
   rw [hh0] at hp
   rcases List.mem_cons.1 hp with e | e
   ·cases e; exact Nat.zero_lt_one
   ·cases e
  have rk : ∀ {h : Qc}, Q0 h 0 = some (.cells 29 3 [kv, .str g.start, rv] false) -> Q5 h (.pobj 0 0) = some kv := fun H => by rw [Q4 H]; rfl
  have r1 : ∀ {h : Qc}, Q0 h 0 = some (.cells 29 3 [kv, .str g.start, rv] false) -> Q5 h (.pobj 0 1) = some (.str g.start) := fun H => by rw [Q4 H]; rfl
  have r2 : ∀ {h : Qc}, Q0 h 0 = some (.cells 29 3 [kv, .str g.start, rv] false) -> Q5 h (.pobj 0 2) = some rv := fun H => by rw [Q4 H]; rfl
  have hlk : ∀ S' : St, Qw .slice kv S' = some (.int .i64 (g.kinds.length : Int), S') := fun S' => by have := hk.len (st := S'); simpa using this
  have hlr : ∀ S' : St, Qw .slice rv S' = some (.int .i64 (g.rules.length : Int), S') := fun S' => by have := hr.len (st := S'); rw [this, hln]
  have hr100 : ¬ (100 : Int) < (g.rules.length : Int) := by omega
  have hck := Qfx (k := k + 1) (st := ⟨h0, 1, 0⟩) hk hs
  by_cases hf0 : g.kindsF = 0
  ·rw [hf0] at hck
   by_cases hz : g.rules.length = 0
   ·have hfault : g.fault = 8 := by unfold Q7.fault; rw [if_neg (by simp [hf0]), if_pos hz]
    simp [C.f19, hbx, hn, rk f0, hck, r2 f0, hlr, hz, Qb, results, Q9, hfault]
   ·have hz' : ((g.rules.length : Int) == 0) = false := by simp only [beq_eq_false_iff_ne, ne_eq]; omega
    obtain ⟨h1, hh1⟩ : ∃ h : Qc, h = (2, Qe.cells 88 1 [.mobj 1] false) :: (1, .map [] [] [] 0) :: h0 := ⟨_, rfl⟩
    have n1 : newObj 1 (.map [] [] [] 0) ⟨h0, 3, 0⟩ = some ⟨(1, .map [] [] [] 0) :: h0, 3, 0⟩ := Qf hb0
    have hb1 : HB ⟨(1, .map [] [] [] 0) :: h0, 2, 0⟩ := HB.cons (h := h0) (c := 1) (lo := 0) hb0 (by omega) (by omega)
    have n2 : newObj 2 (.cells 88 1 [.mnil] false) ⟨(1, .map [] [] [] 0) :: h0, 3, 0⟩ = some ⟨(2, .cells 88 1 [.mnil] false) :: (1, .map [] [] [] 0) :: h0, 3, 0⟩ := Qf hb1
    have s2 : Q0n 1 (.pobj 2 0) (.mobj 1) ⟨(2, .cells 88 1 [.mnil] false) :: (1, .map [] [] [] 0) :: h0, 3, 0⟩ = some (.undef, ⟨h1, 3, 0⟩) := by
     rw [hh1]
     simp [Q0n, AV.isTuple, AV.cells, beq_eq, Q0m, Qm, Q3, Qi, splice, hset]
    have CS0 : CS [kv, .str g.start, rv] [] ⟨h1, 3, 0⟩ := by
     subst hh1
     refine ⟨HB.cons (h := (1, .map [] [] [] 0) :: h0) (c := 2) (lo := 0) hb1 (by omega) (by omega), ?_, ⟨[], 0, ?_⟩, ?_, rfl, by show 2 < 3; omega⟩
     ·simp [Q3, f0]
     ·simp [Q3, strs]
     ·simp [Q3]
    simp [C.f19, hbx, hn, rk f0, hck, r2 f0, hlr, hz', hr100, n1, n2, s2, rk CS0.g0, hlk]
    refine M.to_bind (Ql8 hk hs _ CS0 _ (by simp) (by simp) (by simp) (by simp) (by simp)) fun x hx => ?_
    obtain ⟨e, ts1, st1⟩ := x
    obtain ⟨h, g1, g4, hc, K, H1, hK⟩ := hx
    simp only at h g1 g4 hc H1
    subst h
    obtain ⟨h2, c2, lo2⟩ := st1
    have hlo2 : lo2 = 0 := H1.lo
    subst hlo2
    simp only at hc
    subst hc
    have n3 : newObj 3 (.map [] [] [] 0) ⟨h2, 4, 0⟩ = some ⟨(3, .map [] [] [] 0) :: h2, 4, 0⟩ := Qf H1.hb
    obtain ⟨h3, hh3⟩ : ∃ h : Qc, h = (3, Qe.map [] [] [] 0) :: h2 := ⟨_, rfl⟩
    rw [← hh3] at n3
    have fr : ∀ p, p < 3 -> Q0 h3 p = Q0 h2 p := fun p hp => by rw [hh3, Q3, if_neg (by omega)]
    have CS1 : CS [kv, .str g.start, rv] K ⟨h3, 4, 0⟩ := by
     refine ⟨hh3 ▸ HB.cons (h := h2) (c := 3) (lo := 0) H1.hb (by omega) (by omega), (fr 0 (by omega)).trans H1.g0, H1.m1.frame (fr 1 (by omega)), (fr 2 (by omega)).trans H1.k2, rfl, by show 2 < 4; omega⟩
    have M3 : Q0y h3 3 [] := ⟨[], 0, by rw [hh3, Q3, if_pos rfl]; rfl⟩
    simp [g1, g4, n3, r2 CS1.g0, hlr]
    refine M.to_bind (Ql7 (k := k) hk hr hrs hs _ CS1 hK M3 (by show 3 < 4; omega) _ (by simp [g1]) (by simp [g4]) (by simp) (by simp) (by simp) (by simp)) fun x hx => ?_
    obtain ⟨e, ts2, st2⟩ := x
    rcases hx with ⟨h, hf1, g1', g4', g7', hc3, K2, L2, H2, M3', hK2, hL2⟩ | ⟨h, hf1, g2'⟩
    ·simp only at h hf1 g1' g4' g7' hc3 H2 M3'
     subst h
     simp [g1', g4', g7', r2 H2.g0, hlr]
     refine M.to_bind (Ql6 (k := k + 2) hr hrs hs _ H2 hK2 M3' hc3 _ (by simp [g1']) (by simp [g4']) (by simp [g7']) (by simp) (by simp) (by simp)) fun x hx => ?_
     obtain ⟨e, ts3, st3⟩ := x
     rcases hx with ⟨h, hf2, g1'', g7'', H3, M3''⟩ | ⟨h, hf2, g2''⟩
     ·simp only at h hf2 g1'' g7'' H3 M3''
      subst h
      have hl := M3''.look (st := st3) g.start
      have hd : decide (g.start ∈ L2) = g.isLeft g.start := by rw [Bool.eq_iff_iff, decide_eq_true_eq]; exact hL2 _
      rw [hd] at hl
      cases hst : g.isLeft g.start with
      | true =>
       rw [hst] at hl
       have hfault : g.fault = 0 := by unfold Q7.fault; rw [if_neg (by simp [hf0]), if_neg hz, if_neg (by simp [hf1]), if_neg (by simp [hf2]), if_neg (by simp [hst])]
       simp [g1'', g7'', r1 H3.g0, hl, Qb, results, Q9, hfault]
      | false =>
       rw [hst] at hl
       have hfault : g.fault = 8 := by unfold Q7.fault; rw [if_neg (by simp [hf0]), if_neg hz, if_neg (by simp [hf1]), if_neg (by simp [hf2]), if_pos hst]
       simp [g1'', g7'', r1 H3.g0, hl, Qb, results, Q9, hfault]
     ·simp only at h hf2 g2''
      subst h
      have hfault : g.fault = 8 := by unfold Q7.fault; rw [if_neg (by simp [hf0]), if_neg hz, if_neg (by simp [hf1]), if_pos hf2]
      simp [g2'', Qb, results, Q9, hfault]
    ·simp only at h hf1 g2'
     subst h
     have hfault : g.fault = g.rulesF := by unfold Q7.fault; rw [if_neg (by simp [hf0]), if_neg hz, if_pos hf1]
     simp [g2', Qb, results, Q9, hfault]
  ·have hfault : g.fault = g.kindsF := by unfold Q7.fault; rw [if_pos hf0]
   have hne : (g.kindsF != 0) = true := by simpa using hf0
   simp [C.f19, hbx, hn, rk f0, hck, hne, hf0, Qb, results, Q9, hfault]
 obtain ⟨⟨v, st'⟩, h1, h2⟩ := goal
 simp only at h2
 subst h2
 rw [h1]
 simp
end Go.Am
end
