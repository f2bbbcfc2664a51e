/- A part of the proof of GrammarsChecked (merged by a program). -/
import Derived.Test.YtehhlchbbdaipaaGreatDoorA
import Derived.IntWalk
section
namespace Go.Am
open Go
@[simp] theorem M.ret_bind {α β : Type} (a : α) (f : α -> M β) : (M.ret a).bind f = f a := rfl
@[simp] theorem M.fail_bind {α β : Type} (f : α -> M β) : (M.fail : M α).bind f = .fail := rfl
@[simp] theorem M.ofOpt_some {α : Type} (a : α) : M.ofOpt (some a) = .ret a := rfl
@[simp] theorem M.ofOpt_none {α : Type} : M.ofOpt (none : Option α) = .fail := rfl
@[simp] theorem M.ret_all {α : Type} (a : α) (Q : α -> Prop) : (M.ret a).all Q ↔ Q a := Iff.rfl
@[simp] theorem M.fail_all {α : Type} (Q : α -> Prop) : (M.fail : M α).all Q ↔ False := Iff.rfl
theorem TS.get_nil0 (j : Nat) : TS.nil.get j = .undef := rfl
theorem TS.get_single0 (v : AV) : ∀ (n i j : Nat), i + 1 < 2 ^ n -> (TS.single v n i).get j = if i = j then v else .undef := by
 intro n
 induction n with
 | zero => intro i j h; simp at h
 | succ n ih =>
  intro i j h
  have hb : ∀ a b : Nat, Nat.beq a b = decide (a = b) := fun a b => by
   cases h : Nat.beq a b with
   | true => simp [Nat.eq_of_beq_eq_true h]
   | false => simp [Nat.ne_of_beq_eq_false h]
  have h2 : 2 ^ (n + 1) = 2 * 2 ^ n := by rw [Nat.pow_succ]; omega
  simp only [TS.single, hb, cond_eq_ite, decide_eq_true_eq]
  by_cases hi : i = 0
  ·subst hi
   simp only [if_true]
   rw [TS.get]
   simp only [hb, cond_eq_ite, decide_eq_true_eq]
   by_cases hj : j = 0
   ·simp [hj]
   ·have : ¬ (0 = j) := by omega
    simp only [hj, this, if_false]; split <;> rfl
  ·rw [if_neg hi]
   by_cases h1 : i % 2 = 1
   ·rw [if_pos h1, TS.get]
    simp only [hb, cond_eq_ite, decide_eq_true_eq]
    by_cases hj : j = 0
    ·rw [if_pos hj, if_neg (by omega)]
    ·rw [if_neg hj]
     by_cases hj1 : j % 2 = 1
     ·rw [if_pos hj1, ih _ _ (by omega)]
      by_cases e : i = j
      ·simp [e]
      ·rw [if_neg e, if_neg (by omega)]
     ·rw [if_neg hj1, if_neg (by omega)]; rfl
   ·rw [if_neg h1, TS.get]
    simp only [hb, cond_eq_ite, decide_eq_true_eq]
    by_cases hj : j = 0
    ·rw [if_pos hj, if_neg (by omega)]
    ·rw [if_neg hj]
     by_cases hj1 : j % 2 = 1
     ·rw [if_pos hj1, if_neg (by omega)]; rfl
     ·rw [if_neg hj1, ih _ _ (by omega)]
      by_cases e : i = j
      ·simp [e]
      ·rw [if_neg e, if_neg (by omega)]
theorem TS.get_set0 (v : AV) : ∀ (t : TS) (i j : Nat), i < 65535 -> (t.set i v).get j = if i = j then v else t.get j := by
 have hb : ∀ a b : Nat, Nat.beq a b = decide (a = b) := fun a b => by
  cases h : Nat.beq a b with
  | true => simp [Nat.eq_of_beq_eq_true h]
  | false => simp [Nat.ne_of_beq_eq_false h]
 intro t
 induction t with
 | nil => intro i j h; rw [TS.set, TS.get_single0 v 16 i j (by omega)]; rfl
 | node u l r ihl ihr =>
  intro i j h
  rw [TS.set]
  simp only [hb, cond_eq_ite, decide_eq_true_eq]
  by_cases hi : i = 0
  ·subst hi
   simp only [if_true]
   rw [TS.get, TS.get]
   simp only [hb, cond_eq_ite, decide_eq_true_eq]
   by_cases hj : j = 0
   ·simp [hj]
   ·have : ¬ (0 = j) := by omega
    simp only [hj, this, if_false]
  ·rw [if_neg hi]
   by_cases h1 : i % 2 = 1
   ·rw [if_pos h1, TS.get, TS.get]
    simp only [hb, cond_eq_ite, decide_eq_true_eq]
    by_cases hj : j = 0
    ·rw [if_pos hj, if_pos hj, if_neg (by omega)]
    ·rw [if_neg hj, if_neg hj]
     by_cases hj1 : j % 2 = 1
     ·rw [if_pos hj1, if_pos hj1, ihl _ _ (by omega)]
      by_cases e : i = j
      ·simp [e]
      ·rw [if_neg e, if_neg (by omega)]
     ·rw [if_neg hj1, if_neg hj1, if_neg (by omega)]
   ·rw [if_neg h1, TS.get, TS.get]
    simp only [hb, cond_eq_ite, decide_eq_true_eq]
    by_cases hj : j = 0
    ·rw [if_pos hj, if_pos hj, if_neg (by omega)]
    ·rw [if_neg hj, if_neg hj]
     by_cases hj1 : j % 2 = 1
     ·rw [if_pos hj1, if_pos hj1, if_neg (by omega)]
     ·rw [if_neg hj1, if_neg hj1, ihr _ _ (by omega)]
      by_cases e : i = j
      ·simp [e]
      ·rw [if_neg e, if_neg (by omega)]
end Go.Am
end
section
namespace Go.Am
open Go
def M.to {α : Type} (m : M α) (R : α -> Prop) : Prop := ∃ a, m = .ret a /\ R a
@[simp] theorem M.ret_to {α : Type} (a : α) (R : α -> Prop) : (M.ret a).to R ↔ R a := ⟨fun ⟨b, h, r⟩ => by cases h; exact r, fun r => ⟨a, rfl, r⟩⟩
@[simp] theorem M.fail_to {α : Type} (R : α -> Prop) : (M.fail : M α).to R ↔ False := ⟨fun ⟨b, h, r⟩ => (by cases h), False.elim⟩
theorem M.to_bind {α β : Type} {m : M α} {f : α -> M β} {R : α -> Prop} {S : β -> Prop} (h : m.to R) (k : ∀ a, R a -> (f a).to S) : (m.bind f).to S := by
 obtain ⟨a, rfl, r⟩ := h
 exact k a r
theorem M.to_mono {α : Type} {m : M α} {R S : α -> Prop} (h : m.to R) (k : ∀ a, R a -> S a) : m.to S := by
 obtain ⟨a, e, r⟩ := h
 exact ⟨a, e, k a r⟩
theorem M.to_eq {α : Type} {m : M α} {a : α} (h : m.to (· = a)) : m = .ret a := by
 obtain ⟨b, e, r⟩ := h; rw [e, r]
theorem M.eq_to {α : Type} {m : M α} {a : α} (h : m = .ret a) {R : α -> Prop} (r : R a) : m.to R := ⟨a, h, r⟩
theorem M.to_all {α : Type} {m : M α} {R : α -> Prop} (h : m.to R) : m.all R := by
 obtain ⟨a, rfl, r⟩ := h; exact r
theorem M.all_mono' {α : Type} {m : M α} {R S : α -> Prop} (h : m.all R) (k : ∀ a, R a -> S a) : m.all S := by
 induction m with
 | ret a => exact k a h
 | fail => exact h
 | ask n f ih => exact fun i hi => ih i (h i hi)
theorem M.all_bind' {α β : Type} {m : M α} {f : α -> M β} {S : β -> Prop} : (m.bind f).all S ↔ m.all fun a => (f a).all S := by
 induction m with
 | ret a => exact Iff.rfl
 | fail => exact Iff.rfl
 | ask n k ih => exact ⟨fun h i hi => (ih i).1 (h i hi), fun h i hi => (ih i).2 (h i hi)⟩
theorem Qs {body : TS -> St -> M (Q3f × TS × St)} {α : Type} (I : α -> TS -> St -> Prop) (m : α -> Nat) (R : Q3f -> TS -> St -> Prop)
  (step : ∀ a ts st, I a ts st -> (body ts st).to fun r => match r.1 with
   | .normal => ∃ b, m b < m a /\ I b r.2.1 r.2.2
   | e => R e r.2.1 r.2.2) :
  ∀ (k : Nat) (a : α) (ts : TS) (st : St), m a < k -> I a ts st -> (Q0l body k ts st).to fun r => R r.1 r.2.1 r.2.2 := by
 intro k
 induction k with
 | zero => intro a ts st h; omega
 | succ k ih =>
  intro a ts st h hI
  rw [Q0l]
  refine M.to_bind (step a ts st hI) fun r hr => ?_
  obtain ⟨e, ts', st'⟩ := r
  cases e with
  | normal => obtain ⟨b, h1, h2⟩ := hr; exact ih b _ _ (by omega) h2
  | exit i => exact (M.ret_to _ _).2 hr
  | ret => exact (M.ret_to _ _).2 hr
theorem Qx2 {body : TS -> St -> M (Q3f × TS × St)} {α : Type} (I : α -> TS -> St -> Prop) (m : α -> Nat) (R : Q3f -> TS -> St -> Prop)
  (step : ∀ a ts st, I a ts st -> (body ts st).all fun r => match r.1 with
   | .normal => ∃ b, m b < m a /\ I b r.2.1 r.2.2
   | e => R e r.2.1 r.2.2) :
  ∀ (k : Nat) (a : α) (ts : TS) (st : St), m a < k -> I a ts st -> (Q0l body k ts st).all fun r => R r.1 r.2.1 r.2.2 := by
 intro k
 induction k with
 | zero => intro a ts st h; omega
 | succ k ih =>
  intro a ts st h hI
  rw [Q0l, M.all_bind']
  refine M.all_mono' (step a ts st hI) fun r hr => ?_
  obtain ⟨e, ts', st'⟩ := r
  cases e with
  | normal => obtain ⟨b, h1, h2⟩ := hr; exact ih b _ _ (by omega) h2
  | exit i => exact hr
  | ret => exact hr
section
variable {E : Env} {n f : Nat} {fn : AFn} {args : List AV} {st : St}
theorem Qno {g : List AV -> Option AV} {v : AV} (hh : E.hook f = some g) (hv : g args = some v) : Q6 E (n + 1) f args st = .ret (v, st) := by
 unfold Q6; rw [hh]; simp only [hv]
theorem Qp (hh : E.hook f = none) (hc : E.code f = some fn) (hp : fn.pol = .keep) : Q6 E (n + 1) f args st = Q12 E (Q6 E n) fn args st := by
 rw [Q6]; simp only [hh, hc, hp]
theorem Qgu (hh : E.hook f = none) (hc : E.code f = some fn) (hp : fn.pol = .own) : Q6 E (n + 1) f args st = (Q12 E (Q6 E n) fn args st).bind (Q3h st.c) := by
 rw [Q6]; simp only [hh, hc, hp]
theorem Q0e (hh : E.hook f = none) (hc : E.code f = some fn) (hp : fn.pol = .pure) : Q6 E (n + 1) f args st = (Q12 E (Q6 E n) fn args { st with lo := st.c }).bind (Qt st.c st) := by
 rw [Q6]; simp only [hh, hc, hp]
theorem Qwl (hh : E.hook f = none) (hc : E.code f = some fn) (hp : fn.pol = .sole) : Q6 E (n + 1) f args st = Q4s st ((Q12 E (Q6 E n) fn args { st with lo := st.c }).bind (Qt st.c st)) := by
 rw [Q6]; simp only [hh, hc, hp]
theorem Q0b (hh : E.hook f = none) (hc : E.code f = some fn) (hp : fn.pol = .sealed) (ha : AV.olds 0 args = true) : Q6 E (n + 1) f args st = (Q12 E (Q6 E n) fn args ⟨[], 0, 0⟩).bind (Qt 0 st) := by
 rw [Q6]; simp only [hh, hc, hp, ha, cond_true]
end
end Go.Am
end
section
namespace Go.Am
open Go
inductive M.Le {α : Type} : M α -> M α -> Prop
 | fail (m : M α) : M.Le .fail m
 | ret (a : α) : M.Le (.ret a) (.ret a)
 | ask (n : Nat) (k k' : Nat -> M α) (h : ∀ i, M.Le (k i) (k' i)) : M.Le (.ask n k) (.ask n k')
theorem M.Le.refl {α : Type} (m : M α) : M.Le m m := by
 induction m with
 | ret a => exact .ret a
 | fail => exact .fail _
 | ask n k ih => exact .ask n k k ih
theorem M.Le.bind {α β : Type} {m m' : M α} {f f' : α -> M β} (h : M.Le m m') (hf : ∀ a, M.Le (f a) (f' a)) : M.Le (m.bind f) (m'.bind f') := by
 induction h with
 | fail m => exact .fail _
 | ret a => exact hf a
 | ask n k k' _ ih => exact .ask n _ _ ih
theorem M.Le.all {α : Type} {m m' : M α} {Q : α -> Prop} (h : M.Le m m') (hq : m.all Q) : m'.all Q := by
 induction h with
 | fail m => exact hq.elim
 | ret a => exact hq
 | ask n k k' _ ih => exact fun i hi => ih i (hq i hi)
theorem M.Le.eq {α : Type} {m m' : M α} {a : α} (h : M.Le m m') (e : m = .ret a) : m' = .ret a := by
 subst e; cases h; rfl
theorem M.Le.leftmost {α : Type} {m m' : M α} {r : α} (h : M.Le m m') (e : m.leftmost = some r) : m'.leftmost = some r := by
 induction h with
 | fail m => cases e
 | ret a => exact e
 | ask n k k' _ ih => exact ih 0 e
theorem M.Le.allB {α : Type} {m m' : M α} {f : α -> Bool} (h : M.Le m m') (e : m.allB f = true) : m'.allB f = true := by
 induction h with
 | fail m => cases e
 | ret a => exact e
 | ask n k k' _ ih => exact List.all_eq_true.2 fun i hi => ih i (List.all_eq_true.1 e i hi)
theorem Qig {st : St} {m m' : M (AV × St)} (h : M.Le m m') : M.Le (Q4s st m) (Q4s st m') := by
 unfold Q4s
 cases e : m.leftmost with
 | none => exact .fail _
 | some r =>
  rw [h.leftmost e]
  simp only
  cases e2 : m.allB fun r' => AV.beq r.1 r'.1 with
  | false => exact .fail _
  | true => rw [h.allB e2]; exact .ret _
section
variable {E : Env} {call call' : Nat -> List AV -> St -> M (AV × St)} (hc : ∀ f args st, M.Le (call f args st) (call' f args st))
 include hc
theorem Qus (s : Nat) (k : AK) (args : List AV) (st : St) : M.Le (aop E call s k args st) (aop E call' s k args st) := by
 cases k <;> try exact M.Le.refl _
 case call f => exact hc f args st
 case callv =>
  show M.Le (Q76 call args st) (Q76 call' args st)
  unfold Q76
  split
  ·exact hc _ _ _
  ·exact .fail _
 case invoke name =>
  show M.Le (callMethod E call name args st) (callMethod E call' name args st)
  unfold callMethod
  split
  ·split
   ·exact hc _ _ _
   ·exact .fail _
  ·exact .fail _
theorem Qm1 (s : Nat) (o : Q0q) (ts : TS) (st : St) : M.Le (Q31 E call s o ts st) (Q31 E call' s o ts st) := by
 unfold Q31
 cases wanted o.guard ts
 ·exact .ret _
 ·exact (Qus hc _ _ _ _).bind fun _ => .ret _
theorem Qlz (s : Nat) : ∀ (l : List Q0q) (ts : TS) (st : St), M.Le (Q23 E call s l ts st) (Q23 E call' s l ts st)
 | [], _, _ => .ret _
 | o :: l, ts, st => (Qm1 hc s o ts st).bind fun r => Qlz s l r.1 r.2
theorem Qjp (s : Nat) : ∀ (l : List (Nat × Q0q × List Nat)) (p : Q4d) (ts : TS) (st : St), M.Le (Q15 E call s l p ts st) (Q15 E call' s l p ts st)
 | [], _, _, _ => .ret _
 | (i, o, js) :: l, p, ts, st => (Qm1 hc s o ts st).bind fun r => by
   cases h : Q3l s i p r.2
   ·exact .fail _
   ·exact Qjp s l _ _ _
 omit hc in
theorem Qjn {b b' : TS -> St -> M (Q3f × TS × St)} (h : ∀ ts st, M.Le (b ts st) (b' ts st)) : ∀ (n : Nat) (ts : TS) (st : St), M.Le (Q0l b n ts st) (Q0l b' n ts st)
 | 0, _, _ => .fail _
 | n + 1, ts, st => (h ts st).bind fun r => by
   obtain ⟨e, ts', st'⟩ := r
   cases e
   ·exact Qjn h n ts' st'
   ·exact .ret _
   ·exact .ret _
theorem Qrq : ∀ (c : Qd) (ts : TS) (st : St), M.Le (Qn E call c ts st) (Qn E call' c ts st) := by
 intro c
 induction c with
 | skip => intro ts st; exact .ret _
 | region na l => intro ts st; exact (Qlz hc _ _ _ _).bind fun _ => .ret _
 | draw na l => intro ts st; exact (Qjp hc _ _ _ _ _).bind fun _ => .ret _
 | seq a b iha ihb =>
  intro ts st
  refine (iha ts st).bind fun r => ?_
  obtain ⟨e, ts', st'⟩ := r
  cases e
  ·exact ihb ts' st'
  ·exact .ret _
  ·exact .ret _
 | cond o a b iha ihb =>
  intro ts st
  show M.Le (match ev ts o with | .bool t => bif t then Qn E call a ts st else Qn E call b ts st | _ => .fail) (match ev ts o with | .bool t => bif t then Qn E call' a ts st else Qn E call' b ts st | _ => .fail)
  split
  ·rename_i t _; cases t
   ·exact ihb ts st
   ·exact iha ts st
  ·exact .fail _
 | block id a ih =>
  intro ts st
  refine (ih ts st).bind fun r => ?_
  obtain ⟨e, ts', st'⟩ := r
  cases e <;> exact .ret _
 | loop a ih => intro ts st; exact Qjn ih _ _ _
 | exit id => intro ts st; exact .ret _
 | ret => intro ts st; exact .ret _
 | bad => intro ts st; exact .fail _
theorem Q8a (fn : AFn) (args : List AV) (st : St) : M.Le (Q12 E call fn args st) (Q12 E call' fn args st) := by
 unfold Q12
 cases Nat.ble args.length 1000
 ·exact .fail _
 ·exact (Qrq hc _ _ _).bind fun _ => M.Le.refl _
end
theorem Qjr (E : Env) : ∀ (n f : Nat) (args : List AV) (st : St), M.Le (Q6 E n f args st) (Q6 E (n + 1) f args st) := by
 intro n
 induction n with
 | zero => intro f args st; exact .fail _
 | succ n ih =>
  intro f args st
  rw [Q6, Q6]
  cases hh : E.hook f with
  | some g => exact M.Le.refl _
  | none =>
   cases hc : E.code f with
   | none => exact M.Le.refl _
   | some fn =>
    simp only
    split
    ·exact Q8a ih _ _ _
    ·exact (Q8a ih _ _ _).bind fun _ => M.Le.refl _
    ·exact (Q8a ih _ _ _).bind fun _ => M.Le.refl _
    ·exact Qig ((Q8a ih _ _ _).bind fun _ => M.Le.refl _)
    ·cases AV.olds 0 args
     ·exact M.Le.refl _
     ·exact (Q8a ih _ _ _).bind fun _ => M.Le.refl _
theorem Qff {E : Env} {n f : Nat} {args : List AV} {st : St} {r : AV × St} (h : Q6 E n f args st = .ret r) (k : Nat) : Q6 E (n + k) f args st = .ret r := by
 induction k with
 | zero => exact h
 | succ k ih => exact (Qjr E (n + k) f args st).eq ih
theorem Qg0 {E : Env} {n f : Nat} {args : List AV} {st : St} {Q : AV × St -> Prop} (h : (Q6 E n f args st).all Q) (k : Nat) : (Q6 E (n + k) f args st).all Q := by
 induction k with
 | zero => exact h
 | succ k ih => exact (Qjr E (n + k) f args st).all ih
end Go.Am
end
section
namespace Go.Am
open Go
section
variable {E : Env} {call : Nat -> List AV -> St -> M (AV × St)} {s d q : Nat} {k : AK} {args : List Q1q} {ops : List Q0q} {ts : TS} {st : St} {b : Bool}
@[simp] theorem Qxm : Q23 E call s [] ts st = .ret (ts, st) := rfl
@[simp] theorem Qyr : Q23 E call s (⟨some d, none, k, args⟩ :: ops) ts st = (aop E call s k (evs ts args) st).bind fun r => Q23 E call s ops (ts.set d r.1) r.2 := by
 simp only [Q23, Q31, wanted, cond_true, put]
 cases aop E call s k (evs ts args) st <;> simp [M.bind]
 rename_i n f
 funext i
 induction f i with
 | ret a => rfl
 | fail => rfl
 | ask n k ih => simp only [M.bind]; congr 1; funext j; exact ih j
@[simp] theorem Qyq : Q23 E call s (⟨none, none, k, args⟩ :: ops) ts st = (aop E call s k (evs ts args) st).bind fun r => Q23 E call s ops ts r.2 := by
 simp only [Q23, Q31, wanted, cond_true, put]
 cases aop E call s k (evs ts args) st <;> simp [M.bind]
 rename_i n f
 funext i
 induction f i with
 | ret a => rfl
 | fail => rfl
 | ask n k ih => simp only [M.bind]; congr 1; funext j; exact ih j
theorem Q5a : Q23 E call s (⟨some d, some (q, b), k, args⟩ :: ops) ts st = bif isBool b (ts.get q) then Q23 E call s (⟨some d, none, k, args⟩ :: ops) ts st else Q23 E call s ops (ts.set d .undef) st := by
 rw [Q23, Q31]
 simp only [wanted, put]
 cases isBool b (ts.get q)
 ·simp
 ·simp only [cond_true, Q23, Q31, wanted, put]
@[simp] theorem Qx3 {p : Q4d} : Q15 E call s [] p ts st = .ret (ts, st) := rfl
@[simp] theorem M.bind_assoc {α β γ : Type} (m : M α) (f : α -> M β) (g : β -> M γ) : (m.bind f).bind g = m.bind fun a => (f a).bind g := by
 induction m with
 | ret a => rfl
 | fail => rfl
 | ask n k ih => simp only [M.bind]; congr 1; funext i; exact ih i
@[simp] theorem Qye {i : Nat} {l : List (Nat × Q0q × List Nat)} : Q15 E call s ((i, ⟨some d, none, k, args⟩, []) :: l) [] ts st = (aop E call s k (evs ts args) st).bind fun r => Q15 E call s l [] (ts.set d r.1) r.2 := by
 simp only [Q15, Q31, wanted, cond_true, put, M.bind_assoc, M.ret_bind, Q3l, pend]
@[simp] theorem Qyd {i : Nat} {l : List (Nat × Q0q × List Nat)} : Q15 E call s ((i, ⟨none, none, k, args⟩, []) :: l) [] ts st = (aop E call s k (evs ts args) st).bind fun r => Q15 E call s l [] ts r.2 := by
 simp only [Q15, Q31, wanted, cond_true, put, M.bind_assoc, M.ret_bind, Q3l, pend]
theorem Qm3 {i : Nat} {l : List (Nat × Q0q × List Nat)} : Q15 E call s ((i, ⟨some d, some (q, b), k, args⟩, []) :: l) [] ts st = bif isBool b (ts.get q) then Q15 E call s ((i, ⟨some d, none, k, args⟩, []) :: l) [] ts st else Q15 E call s l [] (ts.set d .undef) st := by
 rw [Q15, Q31]
 simp only [wanted, put]
 cases isBool b (ts.get q)
 ·simp [Q3l, pend]
 ·simp only [cond_true, Q15, Q31, wanted, put, pend]
@[simp] theorem Qy1 : evs ts [] = [] := rfl
@[simp] theorem Qy0 {j : Nat} {l : List Q1q} : evs ts (.tmp j :: l) = ts.get j :: evs ts l := rfl
@[simp] theorem Qxz {v : AV} {l : List Q1q} : evs ts (.val v :: l) = v :: evs ts l := rfl
@[simp] theorem Qyp {j : Nat} : ev ts (.tmp j) = ts.get j := rfl
@[simp] theorem Qyo {v : AV} : ev ts (.val v) = v := rfl
@[simp] theorem Qv5 {c : Bool} : isBool b (.bool c) = (c == b) := rfl
 attribute [simp] TS.get_set0
 attribute [simp] TS.get_nil0
@[simp] theorem Qvw {i : Nat} {t : TS} : TS.ofArgs [] i t = t := rfl
@[simp] theorem Qv0 {i : Nat} {t : TS} {v : AV} {l : List AV} : TS.ofArgs (v :: l) i t = TS.ofArgs l (i + 1) (t.set i v) := rfl
@[simp] theorem Qwg : Qn E call .skip ts st = .ret (.normal, ts, st) := rfl
@[simp] theorem Quu {na : Nat} : Qn E call (.region na ops) ts st = (Q23 E call st.c ops ts { st with c := st.c + na }).bind fun r => .ret (.normal, r) := rfl
@[simp] theorem Qwj {na : Nat} {l : List (Nat × Q0q × List Nat)} : Qn E call (.draw na l) ts st = (Q15 E call st.c l [] ts { st with c := st.c + na }).bind fun r => .ret (.normal, r) := rfl
@[simp] theorem Qgt {a c : Qd} : Qn E call (.seq a c) ts st = (Qn E call a ts st).bind fun r => match r.1 with
  | .normal => Qn E call c r.2.1 r.2.2
  | _ => .ret r := rfl
@[simp] theorem Qwk {o : Q1q} {a c : Qd} : Qn E call (.cond o a c) ts st = match ev ts o with
  | .bool t => bif t then Qn E call a ts st else Qn E call c ts st
  | _ => .fail := rfl
@[simp] theorem Qv6 {id : Nat} {a : Qd} : Qn E call (.block id a) ts st = (Qn E call a ts st).bind fun r => match r.1 with
  | .exit i => .ret (bif Nat.beq i id then .normal else .exit i, r.2)
  | _ => .ret r := rfl
@[simp] theorem Qwh {a : Qd} : Qn E call (.loop a) ts st = Q0l (Qn E call a) E.k ts st := rfl
@[simp] theorem Qwi {id : Nat} : Qn E call (.exit id) ts st = .ret (.exit id, ts, st) := rfl
@[simp] theorem Qx4 : Qn E call .ret ts st = .ret (.ret, ts, st) := rfl
theorem Qg {fn : AFn} {l : List AV} (h : l.length <= 1000) : Q12 E call fn l st = (Qn E call fn.body (TS.ofArgs l 0 .nil) st).bind (Qb fn.results) := by
 unfold Q12
 have : Nat.ble l.length 1000 = true := Nat.ble_eq_true_of_le h
 rw [this]; rfl
variable {x y z : AV} {op : BinOp}
@[simp] theorem Qyh : aop E call s .move [x] st = .ret (x, st) := rfl
@[simp] theorem Qyf : aop E call s .pick [x, y, z] st = M.ofOpt (Q6z x y z st) := rfl
@[simp] theorem Qxx {id ty sz : Nat} {zero : List AV} : aop E call s (.alloc id ty sz zero) [] st = M.ofOpt (Q0v (.pobj (s + id) 0) (newObj (s + id) (.cells ty sz zero false) st)) := rfl
@[simp] theorem Qyx {id ty sz : Nat} : aop E call s (.box id ty sz) [x] st = M.ofOpt (Q53 (s + id) (Q0z (s + id) ty sz x) st) := rfl
@[simp] theorem Qxw {zero : List AV} {places : List (Nat × Nat)} {l : List AV} : aop E call s (.build zero places) l st = M.ofOpt (give st ((Q00 zero places l).map .agg)) := rfl
@[simp] theorem Qtg {id ty sz len : Nat} {zero : List AV} {offs : List Nat} {l : List AV} : aop E call s (.buildSlice id ty sz len zero offs) l st = M.ofOpt (Q53 (s + id) (Qz (s + id) ty sz len zero offs l) st) := rfl
@[simp] theorem Qyj {agg : Option Nat} : aop E call s (.load agg) [x] st = M.ofOpt (give st (Q2x st.h agg x)) := rfl
@[simp] theorem Qxp {n : Nat} : aop E call s (.store n) [x, y] st = M.ofOpt (Q0n n x y st) := rfl
@[simp] theorem Qva : aop E call s .nilCheck [x] st = M.ofOpt (Q1v x st) := rfl
@[simp] theorem Qyy : aop E call s (.bin op) [x, y] st = M.ofOpt (give st (bin op x y)) := rfl
@[simp] theorem Qz1 {neg : Bool} {k : EK} : aop E call s (.eq neg k) [x, y] st = M.ofOpt (give st (Qar neg k x y)) := rfl
@[simp] theorem Qz0 {op : UnOp} : aop E call s (.un op) [x] st = M.ofOpt (give st (un op x)) := rfl
@[simp] theorem Qwr {k : IntKind} : aop E call s (.convInt k) [x] st = M.ofOpt (Q4o k x st) := rfl
@[simp] theorem Qwp : aop E call s .convStr [x] st = M.ofOpt (Q4n x st) := rfl
@[simp] theorem Qwq {id ty : Nat} : aop E call s (.convS2B id ty) [x] st = M.ofOpt (Q53 (s + id) (Qaz (s + id) ty x) st) := rfl
@[simp] theorem Qws : aop E call s .convB2S [x] st = M.ofOpt (Q5m x st) := rfl
@[simp] theorem Qyi {f : Fn} {n : Nat} {l : List AV} : aop E call s (.mkFn f n) l st = .ret (.fn f (l.take n) (l.drop n), st) := rfl
@[simp] theorem Qxr {id : Nat} : aop E call s (.mkMap id) [] st = M.ofOpt (Q0v (.mobj (s + id)) (newObj (s + id) (.map [] [] [] 0) st)) := rfl
@[simp] theorem Qwm {id ty sz bytes : Nat} {zero : List AV} : aop E call s (.mkSlice id ty sz bytes zero) [x, y] st = M.ofOpt (Q53 (s + id) (Q2n (s + id) ty sz bytes zero x y) st) := rfl
@[simp] theorem Qv8 {lo hi : Bool} {l : List AV} : aop E call s (.sliceStr lo hi) l st = M.ofOpt (Q41 lo hi l st) := rfl
@[simp] theorem Qxq {sz : Nat} {lo hi mx : Bool} {l : List AV} : aop E call s (.slice sz lo hi mx) l st = M.ofOpt (Q0o sz lo hi mx l st) := rfl
@[simp] theorem Qux {off : Nat} : aop E call s (.fieldAddr off) [x] st = M.ofOpt (Q1t off x st) := rfl
@[simp] theorem Qxs {off : Nat} {agg : Option Nat} : aop E call s (.field off agg) [x] st = M.ofOpt (Q7v off agg x st) := rfl
@[simp] theorem Quw {sz : Nat} : aop E call s (.indexAddr sz) [x, y] st = M.ofOpt (Qj sz x y st) := rfl
@[simp] theorem Qvd {len sz : Nat} : aop E call s (.indexArr len sz) [x, y] st = M.ofOpt (Q4u len sz x y st) := rfl
@[simp] theorem Qvc : aop E call s .indexStr [x, y] st = M.ofOpt (Q1b x y st) := rfl
@[simp] theorem Qx6 {kk : KK} {zero : AV} {ok : Bool} : aop E call s (.lookup kk zero ok) [x, y] st = M.ofOpt (Q1w kk zero ok x y st) := rfl
@[simp] theorem Quv {kk : KK} : aop E call s (.mapUpdate kk) [x, y, z] st = M.ofOpt (Q1s kk x y z st) := rfl
@[simp] theorem Qvb {kk : KK} {zero : AV} : aop E call s (.mapEntry kk zero) [x, y] st = M.ofOpt (Q5x kk zero x y st) := rfl
@[simp] theorem Qtf : aop E call s .entryStore [x, y, z] st = M.ofOpt (Q4m x y z st) := rfl
@[simp] theorem Qv9 {id : Nat} : aop E call s (.rangeMap id) [x] st = M.ofOpt (Q5w (s + id) x st) := rfl
@[simp] theorem Qyg {l : List AV} : aop E call s .next l st = Q80 l st := rfl
@[simp] theorem Qxt : aop E call s .entry [x] st = M.ofOpt (Q7w x st) := rfl
@[simp] theorem Qwo {i : Nat} : aop E call s (.extract i) [x] st = M.ofOpt (Q3y i x st) := rfl
@[simp] theorem Qyu {k : LK} : aop E call s (.len k) [x] st = M.ofOpt (Qw k x st) := rfl
@[simp] theorem Qyw : aop E call s .cap [x] st = M.ofOpt (Q6o x st) := rfl
@[simp] theorem Qys {l : List AV} : aop E call s .min l st = M.ofOpt (Q8j l st) := rfl
@[simp] theorem Qyt {l : List AV} : aop E call s .max l st = M.ofOpt (Q8k l st) := rfl
@[simp] theorem Qx7 {id ty sz bytes : Nat} : aop E call s (.append id ty sz bytes) [x, y] st = M.ofOpt (Q0f (s + id) ty sz bytes x y st) := rfl
@[simp] theorem Quy {id ty : Nat} : aop E call s (.appendStr id ty) [x, y] st = M.ofOpt (Q55 (s + id) ty x y st) := rfl
@[simp] theorem Qyk {sz : Nat} : aop E call s (.copy sz) [x, y] st = M.ofOpt (Q5y sz x y st) := rfl
@[simp] theorem Qxu {zero : List AV} : aop E call s (.clear zero) [x] st = M.ofOpt (Q28 zero x st) := rfl
@[simp] theorem Qx5 : aop E call s .usData [x] st = M.ofOpt (Q4l x st) := rfl
@[simp] theorem Qxo {ty n : Nat} : aop E call s (.usPtr ty n) [x] st = M.ofOpt (Q7u ty n x st) := rfl
@[simp] theorem Qv7 {ty : Nat} : aop E call s (.usString ty) [x, y] st = M.ofOpt (Q5v ty x y st) := rfl
@[simp] theorem Qyl {f : Nat} {l : List AV} : aop E call s (.call f) l st = call f l st := rfl
@[simp] theorem Qxv {f : Nat} {a b l : List AV} : aop E call s .callv (.fn (.func f) a b :: l) st = call f (a ++ (l ++ b)) st := rfl
@[simp] theorem Qyv {e : Ext} {l : List AV} : aop E call s (.ext e) l st = M.ofOpt (Qhm e l st) := rfl
@[simp] theorem Qwn {t : Nat} : aop E call s (.mkIface t) [x] st = .ret (.iface t x, st) := rfl
@[simp] theorem Qp8 {v : AV} : give st (some v) = some (v, st) := rfl
@[simp] theorem Qwz : give st none = none := rfl
@[simp] theorem Quk {v : AV} {st' : St} : Q0v v (some st') = some (v, st') := rfl
@[simp] theorem Qx1 {o : Nat} {v : AV} {ob : Qe} : Q53 o (some (v, ob)) st = Q0v v (newObj o ob st) := rfl
@[simp] theorem Quz {c : Bool} : Q6z (.bool c) x y st = some (bif c then x else y, st) := rfl
@[simp] theorem Qv3 {h : Qc} : Q2x h none x = Q5 h x := rfl
@[simp] theorem Qv2 {h : Qc} {n : Nat} : Q2x h (some n) x = (Ql h x n).map .agg := rfl
@[simp] theorem Qt8 {h : Qc} {v : AV} {l : List AV} : Q5 h (.pval (v :: l)) = some v := rfl
@[simp] theorem Q0i {h : Qc} {n : Nat} {l : List AV} : Ql h (.pval l) n = if n <= l.length then some (l.take n) else none := by
 simp only [Ql]
 by_cases hn : n <= l.length
 ·rw [if_pos hn, Nat.ble_eq_true_of_le hn]; rfl
 ·rw [if_neg hn]
  cases h : Nat.ble n l.length with
  | true => exact absurd (Nat.le_of_ble_eq_true h) hn
  | false => rfl
@[simp] theorem Qqm {o a n : Nat} : Q1t n (.pobj o a) st = some (.pobj o (a + n), st) := rfl
@[simp] theorem Qql {l : List AV} {n : Nat} : Q1t n (.pval l) st = some (.pval (l.drop n), st) := rfl
@[simp] theorem Qrw {o a : Nat} : Q1v (.pobj o a) st = some (.pobj o a, st) := rfl
@[simp] theorem Qrv {l : List AV} : Q1v (.pval l) st = some (.pval l, st) := rfl
@[simp] theorem Qt9 {f : Nat} {a b : List AV} : Q1v (.fn (.func f) a b) st = some (.fn (.func f) a b, st) := rfl
@[simp] theorem Qtb {k j : IntKind} {n : Int} : Q4o k (.int j n) st = some (.int k (k.wrap n), st) := rfl
@[simp] theorem Qta {l : List UInt8} : Q4n (.str l) st = some (.str l, st) := rfl
@[simp] theorem Qrx {l : List AV} {i : Nat} : Q3y i (.tuple l) st = give st l[i]? := rfl
@[simp] theorem Qym {c : Bool} : un .not (.bool c) = some (.bool !c) := rfl
@[simp] theorem Qyn {k : IntKind} {n : Int} : un .neg (.int k n) = some (.int k (k.wrap (0 - n))) := rfl
@[simp] theorem Qyc {n m : Int} : bin .add (.int .i64 n) (.int .i64 m) = some (.int .i64 (IntKind.i64.wrap (n + m))) := rfl
@[simp] theorem Qy3 {n m : Int} : bin .sub (.int .i64 n) (.int .i64 m) = some (.int .i64 (IntKind.i64.wrap (n - m))) := rfl
@[simp] theorem Qy7 {n m : Int} : bin .mul (.int .i64 n) (.int .i64 m) = some (.int .i64 (IntKind.i64.wrap (n * m))) := rfl
@[simp] theorem Qy5 {n m : Int} : bin .quo (.int .i64 n) (.int .i64 m) = if m = 0 then none else some (.int .i64 (IntKind.i64.wrap (n.tdiv m))) := rfl
@[simp] theorem Qy4 {n m : Int} : bin .rem (.int .i64 n) (.int .i64 m) = if m = 0 then none else some (.int .i64 (n.tmod m)) := rfl
@[simp] theorem Qyb {n m : Int} : bin .eql (.int .i64 n) (.int .i64 m) = some (.bool (n == m)) := rfl
@[simp] theorem Qy6 {n m : Int} : bin .neq (.int .i64 n) (.int .i64 m) = some (.bool (n != m)) := rfl
@[simp] theorem Qy8 {n m : Int} : bin .lss (.int .i64 n) (.int .i64 m) = some (.bool (decide (n < m))) := rfl
@[simp] theorem Qy9 {n m : Int} : bin .leq (.int .i64 n) (.int .i64 m) = some (.bool (decide (n <= m))) := rfl
@[simp] theorem Qd0 {n m : Int} : bin .gtr (.int .i64 n) (.int .i64 m) = some (.bool (decide (m < n))) := rfl
@[simp] theorem Qya {n m : Int} : bin .geq (.int .i64 n) (.int .i64 m) = some (.bool (decide (m <= n))) := rfl
@[simp] theorem Qxl {n m : Int} : bin .eql (.int .u8 n) (.int .u8 m) = some (.bool (n == m)) := rfl
@[simp] theorem Qxg {n m : Int} : bin .neq (.int .u8 n) (.int .u8 m) = some (.bool (n != m)) := rfl
@[simp] theorem Qxh {n m : Int} : bin .lss (.int .u8 n) (.int .u8 m) = some (.bool (decide (n < m))) := rfl
@[simp] theorem Qxi {n m : Int} : bin .leq (.int .u8 n) (.int .u8 m) = some (.bool (decide (n <= m))) := rfl
@[simp] theorem Qxj {n m : Int} : bin .gtr (.int .u8 n) (.int .u8 m) = some (.bool (decide (m < n))) := rfl
@[simp] theorem Qxk {n m : Int} : bin .geq (.int .u8 n) (.int .u8 m) = some (.bool (decide (m <= n))) := rfl
@[simp] theorem Qxf {n m : List UInt8} : bin .eql (.str n) (.str m) = some (.bool (n == m)) := rfl
@[simp] theorem Qxb {n m : List UInt8} : bin .neq (.str n) (.str m) = some (.bool !(n == m)) := rfl
@[simp] theorem Qxc {n m : List UInt8} : bin .lss (.str n) (.str m) = some (.bool (Op.bytesLess n m)) := rfl
@[simp] theorem Qje {n m : List UInt8} : bin .leq (.str n) (.str m) = some (.bool (Op.bytesLess n m || n == m)) := rfl
@[simp] theorem Qxd {n m : List UInt8} : bin .gtr (.str n) (.str m) = some (.bool !(Op.bytesLess n m || n == m)) := rfl
@[simp] theorem Qxe {n m : List UInt8} : bin .geq (.str n) (.str m) = some (.bool !(Op.bytesLess n m)) := rfl
@[simp] theorem Qwu {l : List UInt8} : Qw .str (.str l) st = some (.int .i64 l.length, st) := rfl
@[simp] theorem Qo9 {h : Qc} {t : Nat} : Qcs h ts (.tmp t) = some (ts.get t) := rfl
@[simp] theorem Qvu {h : Qc} {t : Nat} {a : Option Nat} : Qcs h ts (.cell t a) = Q2x h a (ts.get t) := rfl
theorem Qwx {r : Q99} {v : AV} {e : Q3f} (h : Qcs st.h ts r = some v) (he : ∀ i, e ≠ .exit i) : Qb [r] (e, ts, st) = .ret (v, st) := by
 unfold Qb
 cases e with
 | exit i => exact absurd rfl (he i)
 | normal => simp [results, Q9, h]
 | ret => simp [results, Q9, h]
structure Qr (v : AV) (sz : Nat) (xs : List AV) : Prop where
 out : (v = .snil /\ xs = []) ∨ ∃ t, v = .list t sz xs
variable {v : AV} {sz : Nat} {xs : List AV}
theorem Qr.lenS (h : Qr v sz xs) : Q0k v = some xs.length := by
 rcases h.out with ⟨rfl, rfl⟩ | ⟨t, rfl⟩ <;> rfl
theorem Qr.len (h : Qr v sz xs) : Qw .slice v st = some (.int .i64 xs.length, st) := by
 rcases h.out with ⟨rfl, rfl⟩ | ⟨t, rfl⟩ <;> rfl
theorem Q0a (i : Nat) : Q2j (.int .i64 (i : Int)) = some i := rfl
theorem Qr.idx (h : Qr v sz xs) {i : Nat} (hi : i < xs.length) : Qj sz v (.int .i64 i) st = some (.pval xs[i].cells, st) := by
 rcases h.out with ⟨rfl, rfl⟩ | ⟨t, rfl⟩
 ·simp at hi
 ·have hb : Nat.beq sz sz = true := Nat.beq_refl sz
  simp [Qj, Q0a, hb, hi]
end
@[simp] theorem St.eta (st : St) : St.mk st.h st.c st.lo = st := rfl
theorem wrap64 {n : Int} (h1 : -9223372036854775808 <= n) (h2 : n < 9223372036854775808) : IntKind.i64.wrap n = n := by
 exact IntWalk.i64_in n ⟨h1, by omega⟩
end Go.Am
end
