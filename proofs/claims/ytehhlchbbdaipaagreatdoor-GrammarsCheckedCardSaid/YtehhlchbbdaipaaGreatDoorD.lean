/- A part of the proof of GrammarsChecked (merged by a program). -/
import Derived.Test.YtehhlchbbdaipaaGreatDoorV
import Derived.Test.YtehhlchbbdaipaaGreatDoorC
import Derived.Test.YtehhlchbbdaipaaGreatDoorE
section
namespace Go.Am
open Go
abbrev Str := List UInt8
def strs (l : List Str) : List AV := l.map .str
@[simp] theorem Q1r (l : List Str) : (strs l).length = l.length := by simp [strs]
def idxOf (l : List Str) (x : List UInt8) : Int := match l.findIdx? (· == x) with | some i => i | none => -1
theorem Qr.idxS {v : AV} {l : List Str} {st : St} (h : Qr v 1 (strs l)) {i : Nat} (hi : i < l.length) : Qj 1 v (.int .i64 i) st = some (.pval [.str l[i]], st) := by
 rw [h.idx (by simpa using hi)]; simp [strs, AV.cells]
theorem Qy2 (a b : Nat) : Nat.blt a b = decide (a < b) := Qm a b
theorem Q8 {h : Qc} {o : Nat} {y x : Qe} (hx : Q0 h o = some x) (p : Nat) : Q0 (hset h o y) p = if o = p then some y else Q0 h p := Q4w h o y (by rw [hx]; rfl) p
theorem Qc7 (h : Qc) (o : Nat) (x y : Qe) : hset (hset h o x) o y = hset h o y := by
 induction h with
 | nil => rfl
 | cons p h ih =>
  obtain ⟨i, z⟩ := p
  simp only [hset, beq_eq, cond_eq_ite, decide_eq_true_eq]
  by_cases e : i = o
  ·simp [e, hset, beq_eq]
  ·simp [e, hset, beq_eq, ih]
theorem Q07 {st : St} {o off ty sz : Nat} {cs : List AV} {ext : Bool} {v : AV} (hf : Q0 st.h o = some (.cells ty sz cs ext)) (hlo : st.lo <= o) (ho : off < cs.length) (hv : v.isTuple = false) (hc : v.cells = [v]) :
  Q0n 1 (.pobj o off) v st = some (.undef, { st with h := hset st.h o (.cells ty sz (cs.set off v) ext) }) := by
 have h1 : Nat.blt o st.lo = false := by rw [Qm]; simp; omega
 have h2 : Nat.ble (off + 1) cs.length = true := Nat.ble_eq_true_of_le (by omega)
 have h3 : splice cs off [v] = cs.set off v := by
  unfold splice
  rw [List.set_eq_take_append_cons_drop, if_pos ho]; rfl
 simp only [Q0n, hv, hc, Q0m, h1, hf, h2, h3, Q0v, List.length_singleton, cond_true, cond_false, Bool.false_or]
 rfl
end Go.Am
end
section
namespace Go.Am
open Go
structure Q0h where
 left : Str
 right : List Str
 level : Int
 deriving DecidableEq, Inhabited
structure Q7 where
 kinds : List Str
 start : Str
 rules : List Q0h
 deriving DecidableEq, Inhabited
def Qcq (v : AV) (r : Q0h) : Prop := ∃ rv, v = .agg [.str r.left, rv, .int .i64 r.level] /\ Qr rv 1 (strs r.right)
inductive Q0p : List AV -> List Q0h -> Prop
 | nil : Q0p [] []
 | cons {v : AV} {r : Q0h} {l : List AV} {rs : List Q0h} (h : Qcq v r) (t : Q0p l rs) : Q0p (v :: l) (r :: rs)
def Q02 (v : AV) (g : Q7) : Prop := ∃ kv rv l, v = .agg [kv, .str g.start, rv] /\ Qr kv 1 (strs g.kinds) /\ Qr rv 3 l /\ Q0p l g.rules
theorem Q0p.length {l : List AV} {rs : List Q0h} (h : Q0p l rs) : l.length = rs.length := by
 induction h with
 | nil => rfl
 | cons _ _ ih => simp [ih]
theorem Q0p.get {l : List AV} {rs : List Q0h} (h : Q0p l rs) : ∀ (i : Nat) (hi : i < rs.length), ∃ hl : i < l.length, Qcq l[i] rs[i] := by
 induction h with
 | nil => intro i hi; simp at hi
 | cons h t ih =>
  intro i hi
  cases i with
  | zero => exact ⟨by simp, h⟩
  | succ i => obtain ⟨a, b⟩ := ih i (by simpa using hi); exact ⟨by simpa using a, by simpa using b⟩
theorem Q0p.append {a b : List AV} {r s : List Q0h} (h : Q0p a r) (k : Q0p b s) : Q0p (a ++ b) (r ++ s) := by
 induction h with
 | nil => exact k
 | cons h t ih => exact .cons h ih
structure Q0h.Small (r : Q0h) : Prop where
 left : r.left.length <= 50
 right : r.right.length <= 30
 names : ∀ s ∈ r.right, s.length <= 50
 level : -9223372036854775808 <= r.level /\ r.level < 9223372036854775808
structure Q7.Small (g : Q7) : Prop where
 kinds : g.kinds.length <= 10
 names : ∀ s ∈ g.kinds, s.length <= 50
 start : g.start.length <= 50
 many : g.rules.length <= 12
 rules : ∀ r ∈ g.rules, r.Small
def Qhp : AV -> Option (List Str)
 | .snil => some []
 | .list _ 1 l => strsOf l
 | _ => none
def Qfw : AV -> Option Q0h
 | .agg [.str a, rv, .int .i64 n] => match Qhp rv with
  | some r => some ⟨a, r, n⟩
  | none => none
 | _ => none
def Qat : List AV -> Option (List Q0h)
 | [] => some []
 | v :: l => match Qfw v with
  | some r => match Qat l with
   | some rs => some (r :: rs)
   | none => none
  | none => none
def Qcx : AV -> Option Q7
 | .agg [kv, .str s, .list _ 3 l] => match Qhp kv with
  | some ks => match Qat l with
   | some rs => some ⟨ks, s, rs⟩
   | none => none
  | none => none
 | _ => none
def Q6h : List AV -> Option (List Q7)
 | [] => some []
 | v :: l => match Qcx v with
  | some g => match Q6h l with
   | some gs => some (g :: gs)
   | none => none
  | none => none
theorem Qg3 : ∀ {l : List AV} {s : List Str}, strsOf l = some s -> l = strs s
 | [], s, h => by cases h; rfl
 | v :: l, s, h => by
  cases v <;> simp [strsOf] at h
  case str a =>
   split at h
   ·rename_i t ht
    cases h
    rw [Qg3 ht]; rfl
   ·cases h
theorem Qj7 {v : AV} {s : List Str} (h : Qhp v = some s) : Qr v 1 (strs s) := by
 unfold Qhp at h
 split at h
 ·cases h; exact ⟨.inl ⟨rfl, rfl⟩⟩
 ·rename_i t l; exact ⟨.inr ⟨t, by rw [Qg3 h]⟩⟩
 ·cases h
theorem Qna {v : AV} {r : Q0h} (h : Qfw v = some r) : Qcq v r := by
 unfold Qfw at h
 split at h
 ·split at h
  ·rename_i hs; cases h; exact ⟨_, rfl, Qj7 hs⟩
  ·cases h
 ·cases h
theorem Qds : ∀ {l : List AV} {rs : List Q0h}, Qat l = some rs -> Q0p l rs
 | [], rs, h => by cases h; exact .nil
 | v :: l, rs, h => by
  simp only [Qat] at h
  split at h
  ·rename_i r hr
   split at h
   ·rename_i t ht
    cases h
    exact .cons (Qna hr) (Qds ht)
   ·cases h
  ·cases h
theorem Qnb {v : AV} {g : Q7} (h : Qcx v = some g) : Q02 v g := by
 unfold Qcx at h
 split at h
 ·rename_i kv s t l
  split at h
  ·rename_i ks hk
   split at h
   ·rename_i rs hr
    cases h
    exact ⟨kv, _, l, rfl, Qj7 hk, ⟨.inr ⟨t, rfl⟩⟩, Qds hr⟩
   ·cases h
  ·cases h
 ·cases h
def Qa5 (r : Q0h) : Bool := decide (r.left.length <= 50) && decide (r.right.length <= 29) && r.right.all (fun s => decide (s.length <= 50)) && decide (-9223372036854775808 <= r.level) && decide (r.level < 9223372036854775808)
def Q5u (g : Q7) : Bool := decide (g.kinds.length <= 9) && g.kinds.all (fun s => decide (s.length <= 50)) && decide (g.start.length <= 50) && decide (g.rules.length <= 11) && decide (0 < g.rules.length) && g.rules.all Qa5
end Go.Am
end
section
namespace Go.Am
open Go
def M.allb {α : Type} (f : α -> Bool) : M α -> Bool
 | .ret a => f a
 | .fail => false
 | .ask n k => (List.range (n + 1)).all fun i => (k i).allb f
theorem M.allb_all {α : Type} {f : α -> Bool} : ∀ {m : M α}, m.allb f = true -> m.all fun a => f a = true
 | .ret a, h => h
 | .fail, h => by cases h
 | .ask n k, h => fun i hi => M.allb_all (List.all_eq_true.1 h i (List.mem_range.2 (by omega)))
def Q5e (c : Nat) (t : AV -> Bool) (r : AV × St) : Bool := match thaw c r.2.h Q0c r.1 with
 | some v => t v
 | none => false
theorem Q71 {c : Nat} {t : AV -> Bool} {m : M (AV × St)} {st : St} (h : m.allb (Q5e c t) = true) : (m.bind (Qt c st)).all fun r => t r.1 = true /\ r.2 = st := by
 rw [M.all_bind']
 refine M.all_mono' (M.allb_all h) fun r hr => ?_
 unfold Q5e at hr
 unfold Qt
 split at hr
 ·rename_i v hv; rw [hv]; exact ⟨hr, rfl⟩
 ·cases hr
def Q1j : AV := .agg [.list true 1 [.str [110, 117, 109], .str [112, 108, 117, 115]], .str [101], .list true 3 [.agg [.str [101], .list true 1 [.str [101], .str [112, 108, 117, 115], .str [110, 117, 109]], .int .i64 0], .agg [.str [101], .list true 1 [.str [110, 117, 109]], .int .i64 0]]]
def Qek : Qc := [(0, .cells 29 3 Q1j.cells false)]
def Q5t : Qc := (1, .cells 9 1 [.str [110, 117, 109], .str [112, 108, 117, 115], .str [110, 117, 109]] false) :: Qek
def Q9b : Qc := (2, .cells 9 1 [.str [110, 117, 109], .str [110, 117, 109]] false) :: Q5t
def Qew (v : AV) : Bool := AV.beq v Q1j
def Q9k (v : AV) : Bool := match v with | .tuple [w, .int .i64 n] => (match Q0k w with | some l => l == 2 | none => false) && n == 0 | _ => false
def Qc3 (v : AV) : Bool := match v with | .tuple [.int .i64 m, .int .i64 n] => decide (4 < m) && n == 0 | _ => false
def Q72 (v : AV) : Bool := match v with | .tuple [.bool b, .int .i64 m, .int .i64 n] => b && n == 0 | _ => false
def Q62 (v : AV) : Bool := match v with | .tuple [.int .i64 m, .int .i64 n] => m == 1 && n == 0 | _ => false
end Go.Am
end
