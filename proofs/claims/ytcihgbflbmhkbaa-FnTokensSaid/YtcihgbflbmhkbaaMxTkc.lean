/-
  What more of the functions compute, each by a small evaluation; no condition beyond what each says.
-/
import Derived.Lib.SlicesCompact
import Derived.HandedShaped
import Derived.Deep.Draws
import Derived.Test.YtcihgbflbmhkbaaMxTkb
set_option linter.unusedSimpArgs false
set_option linter.unusedVariables false
namespace Mx
open Go
def keepR (kt ko : List Nat) (n : Nat) : Option (List (Nat × V) × List (Nat × Ob)) → Option (Out × St)
  | none => none
  | some r => some (.normal, { t := keep kt r.1, o := keep ko r.2, n := n })
theorem keepR_some (kt ko : List Nat) (n : Nat) (t : List (Nat × V)) (o : List (Nat × Ob)) : keepR kt ko n (some (t, o)) = some (.normal, { t := keep kt t, o := keep ko o, n := n }) := rfl
theorem keepR_none (kt ko : List Nat) (n : Nat) : keepR kt ko n none = none := rfl
theorem exC_reg (cf : CallF) (k : Nat) (s : St) (ops : List Mop) (kt ko : List Nat) : exC cf k (.reg ops kt ko) s = keepR kt ko (s.n + 16 * ops.length) (steps cf s.n 0 ops s.t s.o) := by
  simp only [exC]; cases steps cf s.n 0 ops s.t s.o <;> rfl
theorem exC_regd (cf : CallF) (k : Nat) (s : St) (ops : List Mop) (anc : List (List Nat)) (kt ko : List Nat) : exC cf k (.regd ops anc kt ko) s = keepR kt ko (s.n + 16 * ops.length) (stepsD cf s.n 0 ops anc s.t s.o []) := by
  simp only [exC]; cases stepsD cf s.n 0 ops anc s.t s.o [] <;> rfl
theorem exC_skip (cf : CallF) (k : Nat) (s : St) : exC cf k .skip s = some (.normal, s) := rfl
theorem exC_seq (cf : CallF) (k : Nat) (s : St) (a b : C) : exC cf k (.seq a b) s = match exC cf k a s with | some (.normal, s') => exC cf k b s' | r => r := rfl
theorem exC_cond (cf : CallF) (k : Nat) (s : St) (c : Nat) (a b : C) : exC cf k (.cond (.t c) a b) s = match lookB s.t (.t c) with | some true => exC cf k a s | some false => exC cf k b s | none => none := rfl
theorem exC_block (cf : CallF) (k : Nat) (s : St) (id : Nat) (a : C) : exC cf k (.block id a) s = match exC cf k a s with | some (.exit id', s') => some (if id' = id then (.normal, s') else (.exit id', s')) | r => r := rfl
theorem exC_loop (cf : CallF) (k : Nat) (s : St) (a : C) : exC cf k (.loop a) s = loopN (exC cf k a) k s := rfl
theorem exC_exit (cf : CallF) (k : Nat) (s : St) (id : Nat) : exC cf k (.exit id) s = some (.exit id, s) := rfl
theorem exC_ret (cf : CallF) (k : Nat) (s : St) : exC cf k .ret s = some (.ret, s) := rfl
theorem exC_shut (cf : CallF) (k : Nat) (s : St) (ids : List Nat) (a : C) : exC cf k (.shut ids a) s = exC cf k a { s with o := sealOb ids s.o } := rfl
theorem lr_has (n i : Nat) : (lr n).contains i = decide (i < n) := by
  simp only [lr, List.contains_eq_mem, List.mem_range]
theorem lr_has2 (n i : Nat) (l : List Nat) : (lr n ++ l).contains i = (decide (i < n) || l.contains i) := by
  simp only [lr, List.contains_eq_mem, List.mem_append, List.mem_range, Bool.decide_or]
def idsB : Option Ob → List Nat
  | some b => if b.bx then b.rows.flatMap fun r => r.flatMap idsT else []
  | none => []
def idsN (o : List (Nat × Ob)) : List Nat → List Nat
  | [] => []
  | id :: r => idsB (get o id) ++ idsN o r
def idsKL (o : List (Nat × Ob)) : List T → List Nat
  | [] => []
  | t :: ts => (idsT t ++ idsN o (idsT t)) ++ idsKL o ts
def idsG (o : List (Nat × Ob)) : Option V → List Nat
  | some (.c t) => idsT t ++ idsN o (idsT t)
  | some (.a ts) => idsKL o ts
  | _ => []
def touchL (t : List (Nat × V)) (o : List (Nat × Ob)) : List Nat → List Nat
  | [] => []
  | x :: xs => idsG o (get t x) ++ touchL t o xs
theorem idsN_eq (o : List (Nat × Ob)) : ∀ l, l.flatMap (idsO o) = idsN o l
  | [] => rfl
  | x :: l => by
    rw [List.flatMap_cons, idsN_eq o l, idsN]
    congr 1
theorem idsKL_eq (o : List (Nat × Ob)) : ∀ ts : List T, (ts.flatMap fun t => idsT t ++ (idsT t).flatMap (idsO o)) = idsKL o ts
  | [] => rfl
  | t :: ts => by rw [List.flatMap_cons, idsKL_eq o ts, idsKL, idsN_eq]
theorem touchL_eq (t : List (Nat × V)) (o : List (Nat × Ob)) : ∀ l : List Nat, (l.flatMap fun x => match get t x with | some v => idsV o v | none => []) = touchL t o l
  | [] => rfl
  | x :: l => by
    rw [List.flatMap_cons, touchL_eq t o l, touchL]
    congr 1
    cases h : get t x with
    | none => rfl
    | some v =>
      cases v with
      | c t => simp only [idsV, idsG, idsN_eq]
      | a ts => simp only [idsV, idsG, idsKL_eq]
      | _ => rfl
theorem touch_eq (t : List (Nat × V)) (o : List (Nat × Ob)) (m : MO) : touch t o m = touchL t o m.eyes := touchL_eq t o _
attribute [simp] idsB idsN idsKL idsG touchL
def stepK (t : List (Nat × V)) (o : List (Nat × Ob)) (d : Option Nat) : Done → Option (List (Nat × V) × List (Nat × Ob))
  | none => none
  | some r => some (setT t d r.1, r.2 ++ o)
theorem stepK_some (t : List (Nat × V)) (o : List (Nat × Ob)) (d : Option Nat) (v : V) (u : List (Nat × Ob)) : stepK t o d (some (v, u)) = some (setT t d v, u ++ o) := rfl
theorem stepK_none (t : List (Nat × V)) (o : List (Nat × Ob)) (d : Option Nat) : stepK t o d none = none := rfl
theorem step_eq (cf : CallF) (n i : Nat) (m : Mop) (t : List (Nat × V)) (o : List (Nat × Ob)) : step cf n i m t o = match wanted t m.guard with
    | some true => stepK t o m.dst (act cf (n + 16 * i) (m.dst.getD 0) t o m.op)
    | some false => some (setT t m.dst .undef, o)
    | none => none := by
  unfold step
  cases wanted t m.guard with
  | none => rfl
  | some b => cases b with
    | false => rfl
    | true => simp only []; cases act cf (n + 16 * i) (m.dst.getD 0) t o m.op <;> rfl
def stepH (t : List (Nat × V)) (d : Option Nat) : Done → Option (List (Nat × V))
  | none => none
  | some r => some (setT t d r.1)
theorem stepH_some (t : List (Nat × V)) (d : Option Nat) (r : V × List (Nat × Ob)) : stepH t d (some r) = some (setT t d r.1) := rfl
theorem stepH_none (t : List (Nat × V)) (d : Option Nat) : stepH t d none = none := rfl
theorem stepE_eq (cf : CallF) (n i : Nat) (m : Mop) (t : List (Nat × V)) (o : List (Nat × Ob)) : stepE cf n i m t o = match wanted t m.guard with
    | some true => stepH t m.dst (actE cf (n + 16 * i) (m.dst.getD 0) t o m.op)
    | some false => some (setT t m.dst .undef)
    | none => none := by
  unfold stepE
  cases wanted t m.guard with
  | none => rfl
  | some b => cases b with
    | false => rfl
    | true => simp only []; cases actE cf (n + 16 * i) (m.dst.getD 0) t o m.op <;> rfl
def numbered {α : Type} : Nat → List α → List (Nat × α)
  | _, [] => []
  | i, x :: xs => (i, x) :: numbered (i + 1) xs
theorem zip_from {α : Type} : ∀ (l : List α) (a n : Nat), l.length ≤ n → (List.range' a n).zip l = numbered a l
  | [], a, n, _ => by simp [numbered]
  | x :: xs, a, 0, h => by simp at h
  | x :: xs, a, n + 1, h => by
    simp only [List.length_cons] at h
    rw [List.range'_succ, List.zip_cons_cons, numbered, zip_from xs (a + 1) n (by omega)]
theorem zip_range {α : Type} (n : Nat) (l : List α) (h : l.length ≤ n) : (List.range n).zip l = numbered 0 l := by
  rw [List.range_eq_range', zip_from l 0 n h]
attribute [simp] numbered zip_range
def verO : Option Ob → Nat
  | none => 0
  | some b => b.ver
def lendK (o : List (Nat × Ob)) : List (Nat × Nat × Ob) → List (Nat × Nat × Nat)
  | [] => []
  | l :: r => (l.1, l.2.1, verO (get o l.2.1)) :: lendK o r
theorem lendK_eq (o : List (Nat × Ob)) : ∀ ls : List (Nat × Nat × Ob), (ls.map fun l => (l.1, l.2.1, (get o l.2.1).elim 0 (·.ver))) = lendK o ls
  | [] => rfl
  | l :: r => by
    rw [List.map_cons, lendK_eq o r, lendK]
    congr 2
    cases get o l.2.1 <;> rfl
theorem doCall_eq (cf : CallF) (n : Nat) (o : List (Nat × Ob)) (f : Nat) (vals : List V) (lend : List Nat) (thaw : List (Nat × Nat)) : doCall cf n o f vals lend thaw =
  match args o lend 0 vals with
  | none => none
  | some (as, ls, b) =>
    if vals.length ≤ 1000 ∧ (ls.map (·.2.1)).all (fun id => !b.contains id) ∧ (ls.map (·.2.1)).Nodup then
      match cf f as (ls.map fun l => (l.1, l.2.2)) with
      | none => none
      | some (res, after) =>
        match lentBack n o after ls, back n (lendK o ls) thaw res with
        | some ups, some (v, ups') => if b.isEmpty ∨ (res.flat ∧ ups.all fun u => u.2.rows.all (·.all T.scalar)) then some (v, ups ++ ups') else none
        | _, _ => none
    else none := by
  unfold doCall
  cases args o lend 0 vals with
  | none => rfl
  | some r => obtain ⟨as, ls, b⟩ := r; simp only [lendK_eq]; rfl
attribute [simp] verO lendK
attribute [simp] keepR_some keepR_none exC_reg exC_regd exC_skip exC_seq exC_cond exC_block exC_loop exC_exit exC_ret exC_shut lr_has lr_has2 touch_eq stepK_some stepK_none step_eq stepH_some stepH_none stepE_eq doCall_eq
end Mx

namespace Mx
open Go
attribute [-simp] exC step stepE touch idsV idsO doCall
variable {M : Nat → Option Body}
abbrev tk0 : List T := [I 0, S []]
structure QuS where
  i : Nat
  x : List UInt8
  v2 : Nat
  v : Nat
  n : Nat
def quO (s : QuS) : List (Nat × Ob) := [(2, ⟨s.v2, 2, true, true, [tk0]⟩), (8, ⟨s.v, 1, true, false, brow s.x⟩)]
def quS (l : List UInt8) (s : QuS) : St := { t := [(0, .c (S l)), (2, .c (.ptr 2 s.v2 0 0)), (5, .c (.row 8 s.v 0 s.x.length)), (6, .c (I s.i))], o := quO s, n := s.n }
def quE (l : List UInt8) (s : QuS) : St := { t := [(0, .c (S l)), (2, .c (.ptr 2 s.v2 0 0)), (5, .c (.row 8 s.v 0 s.x.length)), (6, .c (I s.i)), (12, .c (.bool false))], o := quO s, n := s.n }
def quR (r : TokR) (v2 n : Nat) : St := { t := [(2, .c (.ptr 2 v2 0 0)), (3, .c (I r.2.1)), (4, .c (I r.2.2))], o := [(2, ⟨v2, 2, true, true, [encToken r.1]⟩)], n := n }
structure QuI (l : List UInt8) (r : TokR) (s : QuS) : Prop where
  i : 1 ≤ s.i
  r : qGo (l.drop s.i) s.x s.i = r
  x : s.x.length ≤ 60
def QuP (l : List UInt8) (r : TokR) (q : Out × St) : Prop := (∃ v2 n, q = (.ret, quR r v2 n)) ∨ (∃ s, q = (.exit 0, quE l s) ∧ r = tokMore)
set_option maxHeartbeats 8000000 in
theorem qu_turn (l : List UInt8) (hl : l.length ≤ 1048576) (r : TokR) (k : Nat) (s : QuS) (hs : QuI l r s) :
    (∃ s', exC (run M) k impl_quoted.l0 (quS l s) = some (.normal, quS l s') ∧ QuI l r s' ∧ l.length - s'.i < l.length - s.i) ∨
      (∃ q, exC (run M) k impl_quoted.l0 (quS l s) = some q ∧ q.1 ≠ .normal ∧ QuP l r q) := by
  obtain ⟨i, x, v2, v, n⟩ := s
  obtain ⟨hi, hr, hx⟩ := hs
  simp only at hi hr hx
  by_cases c0 : i < l.length
  rotate_left
  · right
    have hd : l.drop i = [] := List.drop_eq_nil_of_le (by omega)
    rw [hd] at hr
    have c1 : ¬ (i : Int) < l.length := by omega
    have hh : ∃ n', exC (run M) k impl_quoted.l0 (quS l ⟨i, x, v2, v, n⟩) = some (.exit 0, quE l ⟨i, x, v2, v, n'⟩) := by
      simp only [quS, quE, quO]
      simp (maxSteps := 1000000) [impl_quoted.l0, bs_get, List.take_of_length_le, setAt, str_add, c1]
    obtain ⟨n', hh⟩ := hh
    exact ⟨_, hh, by simp, .inr ⟨_, rfl, hr.symm⟩⟩
  have c1 : (i : Int) < l.length := by omega
  have e1 := wrap1 (i := i) (by omega)
  have hd := List.drop_eq_getElem_cons c0
  rw [hd] at hr
  obtain ⟨b, hb⟩ : ∃ b, b = l[i] := ⟨_, rfl⟩
  have hget : ∀ hh : i < l.length, l[i]'hh = b := fun _ => hb.symm
  rw [← hb] at hr
  by_cases b34 : b = 34
  · subst b34
    rw [qGo_34] at hr
    right
    have hh : ∃ v' n', exC (run M) k impl_quoted.l0 (quS l ⟨i, x, v2, v, n⟩) = some (.ret, quR r v' n') := by
      subst hr
      simp only [quS, quR, quO, encToken]
      simp (maxSteps := 1000000) [impl_quoted.l0, bs_get, List.take_of_length_le, setAt, str_add, c0, c1, e1, hget]
    obtain ⟨v', n', hh⟩ := hh
    exact ⟨_, hh, by simp, .inl ⟨_, _, rfl⟩⟩
  have n34 : ¬ (b.toNat : Int) = 34 := fun h => b34 ((u8_eq _ 34).1 h)
  by_cases b92 : b = 92
  · have n92 : (b.toNat : Int) = 92 := by rw [b92]; rfl
    by_cases c2 : i + 1 = l.length
    · right
      have hd2 : l.drop (i + 1) = [] := List.drop_eq_nil_of_le (by omega)
      rw [hd2, b92] at hr
      have hr2 : tokMore = r := by simpa [qGo] using hr
      have c3 : (i : Int) + 1 = l.length := by omega
      have ew : IntKind.i64.wrap (l.length : Int) = l.length := wrap_i64 (by omega) (by omega)
      have hh : ∃ v' n', exC (run M) k impl_quoted.l0 (quS l ⟨i, x, v2, v, n⟩) = some (.ret, quR r v' n') := by
        subst hr2
        simp only [quS, quR, quO, encToken, tokMore]
        simp (maxSteps := 1000000) [impl_quoted.l0, bs_get, List.take_of_length_le, setAt, str_add, c0, c1, c3, e1, ew, hget, n34, n92]
      obtain ⟨v', n', hh⟩ := hh
      exact ⟨_, hh, by simp, .inl ⟨_, _, rfl⟩⟩
    have c3 : ¬ (i : Int) + 1 = l.length := by omega
    have c4 : i + 1 < l.length := by omega
    have e2 : IntKind.i64.wrap ((i : Int) + 1 + 1) = (i : Int) + 1 + 1 := wrap_i64 (by omega) (by omega)
    rw [List.drop_eq_getElem_cons c4] at hr
    obtain ⟨c, hc⟩ : ∃ c, c = l[i + 1] := ⟨_, rfl⟩
    have hget2 : ∀ hh : i + 1 < l.length, l[i + 1]'hh = c := fun _ => hc.symm
    have t1 : ((i : Int) + 1).toNat = i + 1 := by omega
    have t2 : (0 : Int) ≤ (i : Int) + 1 := by omega
    rw [← hc, b92] at hr
    by_cases hq : c = 34 ∨ c = 92
    · have hcase : (c.toNat : Int) = 34 ∨ (c.toNat : Int) = 92 := by rcases hq with rfl | rfl <;> simp
      by_cases c5 : 60 ≤ x.length
      · right
        have hr2 : tokBad = r := by
          rw [qGo, if_neg (by decide), if_pos rfl, if_pos hq, if_pos c5] at hr
          exact hr
        have c6 : ¬ x.length < 60 := by omega
        have c7 : x.length + 1 ≤ 4294967296 := by omega
        have c8 : (60 : Int) < x.length + 1 := by omega
        have hh : ∃ v' n', exC (run M) k impl_quoted.l0 (quS l ⟨i, x, v2, v, n⟩) = some (.ret, quR r v' n') := by
          subst hr2
          simp only [quS, quR, quO, encToken, tokBad]
          rcases hcase with z | z
          · simp (maxSteps := 1000000) [impl_quoted.l0, bs_get, List.take_of_length_le, setAt, str_add, c0, c1, c3, c4, e1, e2, t1, t2, hget, hget2, n34, n92, z, c7, c8, brow_one]
          · simp (maxSteps := 1000000) [impl_quoted.l0, bs_get, List.take_of_length_le, setAt, str_add, c0, c1, c3, c4, e1, e2, t1, t2, hget, hget2, n34, n92, z, c7, c8, brow_one]
        obtain ⟨v', n', hh⟩ := hh
        exact ⟨_, hh, by simp, .inl ⟨_, _, rfl⟩⟩
      · left
        rw [qGo_esc hq _ _ (by omega)] at hr
        have c7 : x.length + 1 ≤ 4294967296 := by omega
        have c8 : ¬ (60 : Int) < x.length + 1 := by omega
        have hh : ∃ v' n', exC (run M) k impl_quoted.l0 (quS l ⟨i, x, v2, v, n⟩) = some (.normal, quS l ⟨i + 2, x ++ [c], v2, v', n'⟩) := by
          have e3 : ((i + 2 : Nat) : Int) = (i : Int) + 1 + 1 := by omega
          simp only [quS, quO, List.length_append, List.length_cons, List.length_nil, e3]
          rcases hcase with z | z
          · have : c = 34 := (u8_eq c 34).1 z
            subst this
            have e8 : [[T.int .u8 34]] = brow [34] := rfl
            simp (maxSteps := 1000000) [impl_quoted.l0, bs_get, List.take_of_length_le, setAt, str_add, c0, c1, c3, c4, e1, e2, t1, t2, hget, hget2, n34, n92, c7, c8, e8]
          · have : c = 92 := (u8_eq c 92).1 z
            subst this
            have e8 : [[T.int .u8 92]] = brow [92] := rfl
            simp (maxSteps := 1000000) [impl_quoted.l0, bs_get, List.take_of_length_le, setAt, str_add, c0, c1, c3, c4, e1, e2, t1, t2, hget, hget2, n34, n92, c7, c8, e8]
        obtain ⟨v', n', hh⟩ := hh
        exact ⟨_, hh, ⟨by simp only; omega, hr, by simp; omega⟩, by simp only; omega⟩
    · right
      have hr2 : tokBad = r := by
        rw [qGo, if_neg (by decide), if_pos rfl, if_neg hq] at hr
        exact hr
      have m34 : ¬ (c.toNat : Int) = 34 := fun h => hq (.inl ((u8_eq _ 34).1 h))
      have m92 : ¬ (c.toNat : Int) = 92 := fun h => hq (.inr ((u8_eq _ 92).1 h))
      have hh : ∃ v' n', exC (run M) k impl_quoted.l0 (quS l ⟨i, x, v2, v, n⟩) = some (.ret, quR r v' n') := by
        subst hr2
        simp only [quS, quR, quO, encToken, tokBad]
        simp (maxSteps := 1000000) [impl_quoted.l0, bs_get, List.take_of_length_le, setAt, str_add, c0, c1, c3, c4, e1, t1, t2, hget, hget2, n34, n92, m34, m92]
      obtain ⟨v', n', hh⟩ := hh
      exact ⟨_, hh, by simp, .inl ⟨_, _, rfl⟩⟩
  have n92 : ¬ (b.toNat : Int) = 92 := fun h => b92 ((u8_eq _ 92).1 h)
  by_cases hbad : bad b = true
  · right
    have hr2 : tokBad = r := by
      cases hz : l.drop (i + 1) with
      | nil => rw [hz, qGo, if_neg b34, if_neg b92, if_pos hbad] at hr; exact hr
      | cons c z => rw [hz, qGo, if_neg b34, if_neg b92, if_pos hbad] at hr; exact hr
    have hor : ((b.toNat : Int) < 32) ∨ (¬ (b.toNat : Int) < 32 ∧ (126 : Int) < b.toNat) := by
      simp only [bad, Bool.or_eq_true, decide_eq_true_eq] at hbad
      rcases hbad with z | z
      · exact .inl ((u8_lt b 32).2 z)
      · have := (u8_lt 126 b).2 z
        have e : ((126 : UInt8).toNat : Int) = 126 := rfl
        rw [e] at this
        exact .inr ⟨by omega, this⟩
    have hh : ∃ v' n', exC (run M) k impl_quoted.l0 (quS l ⟨i, x, v2, v, n⟩) = some (.ret, quR r v' n') := by
      subst hr2
      simp only [quS, quR, quO, encToken, tokBad]
      rcases hor with z | ⟨z, z2⟩
      · simp (maxSteps := 1000000) [impl_quoted.l0, bs_get, List.take_of_length_le, setAt, str_add, c0, c1, e1, hget, n34, n92, z]
      · simp (maxSteps := 1000000) [impl_quoted.l0, bs_get, List.take_of_length_le, setAt, str_add, c0, c1, e1, hget, n34, n92, z, z2]
    obtain ⟨v', n', hh⟩ := hh
    exact ⟨_, hh, by simp, .inl ⟨_, _, rfl⟩⟩
  have hbad' : bad b = false := by simpa using hbad
  have k1 : ¬ (b.toNat : Int) < 32 := by
    simp only [bad, Bool.or_eq_false_iff, decide_eq_false_iff_not] at hbad'
    exact fun h => hbad'.1 ((u8_lt b 32).1 h)
  have k2 : ¬ (126 : Int) < b.toNat := by
    simp only [bad, Bool.or_eq_false_iff, decide_eq_false_iff_not] at hbad'
    exact fun h => hbad'.2 ((u8_lt 126 b).1 h)
  have c7 : x.length + 1 ≤ 4294967296 := by omega
  by_cases c5 : 60 ≤ x.length
  · right
    have hr2 : tokBad = r := by
      cases hz : l.drop (i + 1) with
      | nil => rw [hz, qGo, if_neg b34, if_neg b92, if_neg hbad, if_pos c5] at hr; exact hr
      | cons c z => rw [hz, qGo, if_neg b34, if_neg b92, if_neg hbad, if_pos c5] at hr; exact hr
    have c8 : (60 : Int) < x.length + 1 := by omega
    have hh : ∃ v' n', exC (run M) k impl_quoted.l0 (quS l ⟨i, x, v2, v, n⟩) = some (.ret, quR r v' n') := by
      subst hr2
      simp only [quS, quR, quO, encToken, tokBad]
      simp (maxSteps := 1000000) [impl_quoted.l0, bs_get, List.take_of_length_le, setAt, str_add, c0, c1, e1, hget, n34, n92, k1, k2, c7, c8, brow_one]
    obtain ⟨v', n', hh⟩ := hh
    exact ⟨_, hh, by simp, .inl ⟨_, _, rfl⟩⟩
  · left
    rw [qGo_one (fun h => h.elim b34 b92) hbad' _ _ (by omega)] at hr
    have c8 : ¬ (60 : Int) < x.length + 1 := by omega
    have hh : ∃ v' n', exC (run M) k impl_quoted.l0 (quS l ⟨i, x, v2, v, n⟩) = some (.normal, quS l ⟨i + 1, x ++ [b], v2, v', n'⟩) := by
      simp only [quS, quO, List.length_append, List.length_cons, List.length_nil]
      simp (maxSteps := 1000000) [impl_quoted.l0, bs_get, List.take_of_length_le, setAt, str_add, c0, c1, e1, hget, n34, n92, k1, k2, c7, c8, brow_one]
    obtain ⟨v', n', hh⟩ := hh
    exact ⟨_, hh, ⟨by simp only; omega, hr, by simp; omega⟩, by simp only; omega⟩
theorem impl_quoted.says (h : impl_quoted.k M) (l : List UInt8) (hl : l.length ≤ 1048576) :
    run M 254 [.c (S l)] [] = some (.tup [.a (encToken (qGo (l.drop 1) [] 1).1), .c (I (qGo (l.drop 1) [] 1).2.1), .c (I (qGo (l.drop 1) [] 1).2.2)], []) := by
  obtain ⟨q, hr, hp⟩ := loop_ex (f := exC (run M) (l.length + 1) impl_quoted.l0) (quS l) (QuI l (qGo (l.drop 1) [] 1)) (fun s => l.length - s.i) (QuP l (qGo (l.drop 1) [] 1))
    (fun s hs => qu_turn l hl _ _ s hs) (l.length + 1) ⟨1, [], 2000000, 2000048, 2000096⟩ ⟨Nat.le_refl _, rfl, by simp⟩ (by simp only; omega)
  refine run_code (b := impl_quoted.m) h ⟨l.length + 1, ?_⟩
  generalize qGo (l.drop 1) [] 1 = r at *
  rcases hp with ⟨v2, n, rfl⟩ | ⟨s, rfl, rfl⟩
  · obtain ⟨⟨kd, tx⟩, a, b⟩ := r
    simp only [quS, quO, quR, encToken, brow, List.map_nil, List.length_nil] at hr ⊢
    have e0 : ((0 : Nat) : Int) = 0 := rfl
    have e1 : ((1 : Nat) : Int) = 1 := rfl
    simp only [e0, e1] at hr
    simp (maxSteps := 1000000) [exB, impl_quoted.m, impl_quoted.b, bs_get, List.take_of_length_le, setAt, str_add, hr]
  · obtain ⟨i, x, v2, v, n⟩ := s
    simp only [quS, quE, quO, encToken, brow, List.map_nil, List.length_nil, tokMore] at hr ⊢
    have e0 : ((0 : Nat) : Int) = 0 := rfl
    have e1 : ((1 : Nat) : Int) = 1 := rfl
    simp only [e0, e1] at hr ⊢
    simp (maxSteps := 1000000) [exB, impl_quoted.m, impl_quoted.b, bs_get, List.take_of_length_le, setAt, str_add, hr]
end Mx

namespace Mx
open Go
attribute [-simp] exC step stepE touch idsV idsO doCall
variable {M : Nat → Option Body}
theorem strings_HasPrefix.says (h : strings_HasPrefix.k M) (a b : List UInt8) (ha : a.length ≤ 4611686018427387904) : run M 215 [.c (S a), .c (S b)] [] = some (.c (.bool (decide (a.take b.length = b))), []) := by
  obtain ⟨h0, k1⟩ := h
  have h1 : run M 257 [.c (S a), .c (S b)] [] = some (.c (.bool (decide (a.take b.length = b))), []) := by
    refine run_code (b := internal_stringslite_HasPrefix.m) k1 ⟨0, ?_⟩
    by_cases c : b.length ≤ a.length
    · have c1 : (b.length : Int) ≤ a.length := by omega
      simp (maxSteps := 1000000) [exB, internal_stringslite_HasPrefix.m, internal_stringslite_HasPrefix.b, bs_get, List.take_of_length_le, setAt, str_add, c, c1, str_eql]
    · have c1 : ¬ (b.length : Int) ≤ a.length := by omega
      have c2 : ¬ a.take b.length = b := fun e => by
        have := congrArg List.length e
        rw [List.length_take] at this; omega
      simp (maxSteps := 1000000) [exB, internal_stringslite_HasPrefix.m, internal_stringslite_HasPrefix.b, bs_get, List.take_of_length_le, setAt, str_add, c1, c2]
  refine run_code (b := strings_HasPrefix.m) h0 ⟨0, ?_⟩
  simp (maxSteps := 1000000) [exB, strings_HasPrefix.m, strings_HasPrefix.b, bs_get, List.take_of_length_le, setAt, str_add, h1]
def cnO (v2 : Nat) : List (Nat × Ob) := [(2, ⟨v2, 2, true, true, [tk0]⟩)]
def cnS (l : List UInt8) (s : Nat × Nat) (x : Nat × Nat) : St := { t := [(0, .c (S l)), (2, .c (.ptr 2 x.1 0 0)), (5, .c (I s.1)), (6, .c (I s.2))], o := cnO x.1, n := x.2 }
def cnE (l : List UInt8) (s : Nat × Nat) (x : Nat × Nat) : St := { t := [(0, .c (S l)), (2, .c (.ptr 2 x.1 0 0)), (5, .c (I s.1)), (6, .c (I s.2)), (29, .c (.bool false))], o := cnO x.1, n := x.2 }
theorem dig_iff (b : UInt8) : isDig b = true ↔ (48 : Int) ≤ b.toNat ∧ (b.toNat : Int) ≤ 57 := by
  simp only [isDig, Bool.and_eq_true, decide_eq_true_eq]
  have h1 : ((48 : UInt8).toNat : Int) = 48 := rfl
  have h2 : ((57 : UInt8).toNat : Int) = 57 := rfl
  rw [UInt8.le_iff_toNat_le, UInt8.le_iff_toNat_le]
  omega
theorem cn_go (cf : CallF) (k : Nat) (l : List UInt8) (hl : l.length ≤ 1048576) (n i : Nat) (hn : n ≤ 100) (c0 : i < l.length) (c1 : i < 3) (hd : isDig l[i] = true) (x : Nat × Nat) :
    ∃ y, exC cf k impl_counted.l0 (cnS l (n, i) x) = some (.normal, cnS l (10 * n + (l[i].toNat - 48), i + 1) y) := by
  obtain ⟨d1, d2⟩ := (dig_iff _).1 hd
  have e1 := wrap1 (i := i) (by omega)
  have c2 : (i : Int) < l.length := by omega
  have c3 : (i : Int) < 3 := by omega
  obtain ⟨b, hb⟩ : ∃ b, b = l[i] := ⟨_, rfl⟩
  have hget : ∀ hh : i < l.length, l[i]'hh = b := fun _ => hb.symm
  rw [← hb] at d1 d2 ⊢
  obtain ⟨z, hz⟩ : ∃ z : Nat, z = b.toNat := ⟨_, rfl⟩
  rw [← hz] at d1 d2 ⊢
  have e2 : IntKind.i64.wrap (10 * (n : Int)) = 10 * (n : Int) := wrap_i64 (by omega) (by omega)
  have e3 : IntKind.u8.wrap ((z : Int) - 48) = (z : Int) - 48 := by
    unfold IntKind.wrap; simp [IntKind.bits, IntKind.signed]; omega
  have e4 : IntKind.i64.wrap ((z : Int) - 48) = (z : Int) - 48 := wrap_i64 (by omega) (by omega)
  have e5 : IntKind.i64.wrap (10 * (n : Int) + ((z : Int) - 48)) = 10 * (n : Int) + ((z : Int) - 48) := wrap_i64 (by omega) (by omega)
  have e6 : ((10 * n + (z - 48) : Nat) : Int) = 10 * (n : Int) + ((z : Int) - 48) := by omega
  simp only [cnS, cnO, Prod.exists, e6]
  have hz2 : (b.toNat : Int) = z := by omega
  simp (maxSteps := 1000000) [impl_counted.l0, bs_get, List.take_of_length_le, setAt, str_add, c0, c2, c3, hget, hz2, d1, d2, e1, e2, e3, e4, e5]
theorem cn_end (cf : CallF) (k : Nat) (l : List UInt8) (hl : l.length ≤ 1048576) (n i : Nat) (hi : i ≤ 3) (hc : ¬ (∃ c0 : i < l.length, i < 3 ∧ isDig l[i] = true)) (x : Nat × Nat) :
    ∃ y, exC cf k impl_counted.l0 (cnS l (n, i) x) = some (.exit 0, cnE l (n, i) y) := by
  by_cases c0 : i < l.length
  · have c2 : (i : Int) < l.length := by omega
    by_cases c1 : i < 3
    · have c3 : (i : Int) < 3 := by omega
      have hd : ¬ isDig l[i] = true := fun h => hc ⟨c0, c1, h⟩
      rw [dig_iff] at hd
      obtain ⟨b, hb⟩ : ∃ b, b = l[i] := ⟨_, rfl⟩
      have hget : ∀ hh : i < l.length, l[i]'hh = b := fun _ => hb.symm
      rw [← hb] at hd
      simp only [cnS, cnE, cnO, Prod.exists]
      by_cases d1 : (48 : Int) ≤ b.toNat
      · have d2 : ¬ (b.toNat : Int) ≤ 57 := fun h => hd ⟨d1, h⟩
        simp (maxSteps := 1000000) [impl_counted.l0, bs_get, List.take_of_length_le, setAt, str_add, c0, c2, c3, hget, d1, d2]
      · simp (maxSteps := 1000000) [impl_counted.l0, bs_get, List.take_of_length_le, setAt, str_add, c0, c2, c3, hget, d1]
    · have c3 : ¬ (i : Int) < 3 := by omega
      simp only [cnS, cnE, cnO, Prod.exists]
      simp (maxSteps := 1000000) [impl_counted.l0, bs_get, List.take_of_length_le, setAt, str_add, c0, c2, c3]
  · have c2 : ¬ (i : Int) < l.length := by omega
    simp only [cnS, cnE, cnO, Prod.exists]
    simp (maxSteps := 1000000) [impl_counted.l0, bs_get, List.take_of_length_le, setAt, str_add, c2]
theorem cn_loop (cf : CallF) (k : Nat) (l : List UInt8) (hl : l.length ≤ 1048576) (x : Nat × Nat) :
    ∃ y, loopN (exC cf k impl_counted.l0) 4 (cnS l (0, 1) x) = some (.exit 0, cnE l (cNum (l.drop 1)) y) := by
  have big : ∀ b : UInt8, isDig b = true → b.toNat - 48 ≤ 9 := fun b h => by have := (dig_iff b).1 h; omega
  by_cases a1 : ∃ c0 : 1 < l.length, isDig l[1] = true
  · obtain ⟨c0, a1⟩ := a1
    obtain ⟨y1, h1⟩ := cn_go cf k l hl 0 1 (by omega) c0 (by omega) a1 x
    rw [Nat.mul_zero, Nat.zero_add] at h1
    by_cases a2 : ∃ c0 : 2 < l.length, isDig l[2] = true
    · obtain ⟨c2, a2⟩ := a2
      obtain ⟨y2, h2⟩ := cn_go cf k l hl (l[1].toNat - 48) 2 (by have := big _ a1; omega) c2 (by omega) a2 y1
      obtain ⟨y3, h3⟩ := cn_end cf k l hl (10 * (l[1].toNat - 48) + (l[2].toNat - 48)) 3 (Nat.le_refl _) (by rintro ⟨_, h, _⟩; omega) y2
      refine ⟨y3, ?_⟩
      have e : cNum (l.drop 1) = (10 * (l[1].toNat - 48) + (l[2].toNat - 48), 3) := by
        rw [List.drop_eq_getElem_cons c0, List.drop_eq_getElem_cons c2, cNum, if_pos a1, if_pos a2]
      rw [e]
      simp only [loopN, h1, h2, h3]
    · obtain ⟨y3, h3⟩ := cn_end cf k l hl (l[1].toNat - 48) 2 (by omega) (by rintro ⟨g, _, h⟩; exact a2 ⟨g, h⟩) y1
      refine ⟨y3, ?_⟩
      have e : cNum (l.drop 1) = (l[1].toNat - 48, 2) := by
        rw [List.drop_eq_getElem_cons c0]
        by_cases c2 : 2 < l.length
        · rw [List.drop_eq_getElem_cons c2, cNum, if_pos a1, if_neg (fun h => a2 ⟨c2, h⟩)]
        · rw [List.drop_eq_nil_of_le (by omega), cNum, if_pos a1]
      rw [e]
      simp only [loopN, h1, h3]
  · obtain ⟨y3, h3⟩ := cn_end cf k l hl 0 1 (by omega) (by rintro ⟨g, _, h⟩; exact a1 ⟨g, h⟩) x
    refine ⟨y3, ?_⟩
    have e : cNum (l.drop 1) = (0, 1) := by
      by_cases c0 : 1 < l.length
      · rw [List.drop_eq_getElem_cons c0]
        by_cases c2 : 2 < l.length
        · rw [List.drop_eq_getElem_cons c2, cNum, if_neg (fun h => a1 ⟨c0, h⟩)]
        · rw [List.drop_eq_nil_of_le (by omega), cNum, if_neg (fun h => a1 ⟨c0, h⟩)]
      · rw [List.drop_eq_nil_of_le (by omega), cNum]
    rw [e]
    simp only [loopN, h3]
end Mx

namespace Mx
open Go
attribute [-simp] exC step stepE touch idsV idsO doCall
variable {M : Nat → Option Body}
theorem eql_nil (l : List UInt8) : strBin .eql (bs l) { data := #[] } = some (.bool (decide (l = []))) := str_eql l []
theorem cNum_le (l : List UInt8) : 1 ≤ (cNum l).2 ∧ (cNum l).2 ≤ 3 ∧ (cNum l).1 ≤ 99 ∧ (cNum l).2 ≤ l.length + 1 := by
  have big : ∀ b : UInt8, isDig b = true → b.toNat - 48 ≤ 9 := fun b h => by have := (dig_iff b).1 h; omega
  match l with
  | [] => simp [cNum]
  | [a] =>
    rw [cNum]; split
    · rename_i h; have := big a h; simp only [List.length_cons]; omega
    · simp
  | a :: b :: r =>
    rw [cNum]; split
    · rename_i h
      have := big a h
      split
      · rename_i g; have := big b g; simp only [List.length_cons]; omega
      · simp only [List.length_cons]; omega
    · simp
set_option maxHeartbeats 8000000 in
theorem impl_counted.says (h : impl_counted.k M) (l : List UInt8) (hl : l.length ≤ 1048576) (h1 : 1 ≤ l.length) :
    run M 255 [.c (S l)] [] = some (.tup [.a (encToken (counted l).1), .c (I (counted l).2.1), .c (I (counted l).2.2)], []) := by
  obtain ⟨h0, kp⟩ := h
  obtain ⟨⟨v2, n'⟩, hr⟩ := cn_loop (run M) 4 l hl (2000000, 2000080)
  have hb := cNum_le (l.drop 1)
  rw [List.length_drop] at hb
  unfold counted
  generalize cNum (l.drop 1) = z at *
  obtain ⟨n, i⟩ := z
  simp only at hb ⊢
  obtain ⟨b1, b2, b3, b4⟩ := hb
  refine run_code (b := impl_counted.m) h0 ⟨4, ?_⟩
  obtain ⟨r, hrest⟩ : ∃ r, l.drop i = r := ⟨_, rfl⟩
  have hrl : r.length = l.length - i := by rw [← hrest, List.length_drop]
  have hp1 := strings_HasPrefix.says kp hd3 r (by simp [hd3])
  have hp2 := strings_HasPrefix.says kp r hd3 (by omega)
  have hd3l : hd3.length = 3 := rfl
  have j1 : i ≤ l.length := by omega
  have j2 : (i : Int) < 4 := by omega
  have e0 : ((0 : Nat) : Int) = 0 := rfl
  have e1 : ((1 : Nat) : Int) = 1 := rfl
  simp only [cnS, cnE, cnO, e0, e1] at hr
  unfold cText
  rw [hrest]
  by_cases c1 : r = [] ∧ n ≤ 60
  · rw [if_pos c1]
    obtain ⟨c2, c3⟩ := c1
    have c4 : (n : Int) ≤ 60 := by omega
    simp only [encToken, tokMore, e0, e1]
    simp (maxSteps := 1000000) [exB, impl_counted.m, impl_counted.b, bs_get, List.take_of_length_le, setAt, str_add, hr, hrest, j1, j2, c2, c4, eql_nil]
  rw [if_neg c1]
  have c1' : r = [] → ¬ (n : Int) ≤ 60 := fun a b => c1 ⟨a, by omega⟩
  have first : ∀ P : Prop, (r = [] → (60 : Int) < n → P) → (¬ r = [] → P) → P := fun P f g => by
    by_cases q : r = []
    · exact f q (by have := c1' q; omega)
    · exact g q
  by_cases c2 : i = 1 ∨ 60 < n
  · rw [if_pos c2]
    simp only [encToken, tokBad, e0]
    by_cases c3 : i = 1
    · subst c3
      simp only [e1] at hr
      by_cases q : r = []
      · have q2 := c1' q
        simp (maxSteps := 1000000) [exB, impl_counted.m, impl_counted.b, bs_get, List.take_of_length_le, setAt, str_add, hr, hrest, j1, q, q2, eql_nil]
      · simp (maxSteps := 1000000) [exB, impl_counted.m, impl_counted.b, bs_get, List.take_of_length_le, setAt, str_add, hr, hrest, j1, q, eql_nil]
    · have c4 : 60 < n := c2.resolve_left c3
      have c5 : (60 : Int) < n := by omega
      have c6 : ¬ (i : Int) = 1 := by omega
      have c7 : ¬ (n : Int) ≤ 60 := by omega
      by_cases q : r = []
      · simp (maxSteps := 1000000) [exB, impl_counted.m, impl_counted.b, bs_get, List.take_of_length_le, setAt, str_add, hr, hrest, j1, j2, q, c5, c6, c7, eql_nil]
      · simp (maxSteps := 1000000) [exB, impl_counted.m, impl_counted.b, bs_get, List.take_of_length_le, setAt, str_add, hr, hrest, j1, j2, q, c5, c6, c7, eql_nil]
  rw [if_neg c2]
  have c3 : ¬ (i : Int) = 1 := fun e => c2 (.inl (by omega))
  have c4 : ¬ (60 : Int) < n := fun e => c2 (.inr (by omega))
  have q : ¬ r = [] := fun e => c1' e (by omega)
  by_cases d1 : r.length < 3 ∧ r = hd3.take r.length
  · rw [if_pos d1]
    have d2 : (r.length : Int) < 3 := by omega
    have d3 : decide (hd3.take r.length = r) = true := decide_eq_true d1.2.symm
    rw [d3] at hp1
    simp only [hd3] at hp1
    simp only [encToken, tokMore, e0, e1]
    simp (maxSteps := 1000000) [exB, impl_counted.m, impl_counted.b, bs_get, List.take_of_length_le, setAt, str_add, hr, hrest, j1, j2, q, c3, c4, d2, hp1, eql_nil]
  rw [if_neg d1]
  have second : r.length < 3 → decide (hd3.take r.length = r) = false := fun a => decide_eq_false fun e => d1 ⟨a, e.symm⟩
  by_cases d2 : r.take 3 = hd3
  · rw [if_neg (by simp [d2])]
    have d5 : 3 ≤ r.length := by have := congrArg List.length d2; rw [List.length_take] at this; simp [hd3] at this; omega
    have d6 : ¬ (r.length : Int) < 3 := by omega
    rw [hd3l, decide_eq_true d2] at hp2
    simp only [hd3] at hp2
    have e2 : IntKind.i64.wrap (3 + (n : Int)) = 3 + (n : Int) := wrap_i64 (by omega) (by omega)
    by_cases d3 : r.length < 3 + n
    · rw [if_pos d3]
      have d4 : (r.length : Int) < 3 + n := by omega
      simp only [encToken, tokMore, e0, e1]
      simp (maxSteps := 1000000) [exB, impl_counted.m, impl_counted.b, bs_get, List.take_of_length_le, setAt, str_add, hr, hrest, j1, j2, q, c3, c4, d6, d4, hp2, e2, eql_nil]
    · rw [if_neg d3]
      have d4 : ¬ (r.length : Int) < 3 + n := by omega
      have e3 : IntKind.i64.wrap ((i : Int) + 3) = ((i + 3 : Nat) : Int) := wrap_i64 (by omega) (by omega)
      have e4 : IntKind.i64.wrap (((i + 3 : Nat) : Int) + n) = ((i + 3 + n : Nat) : Int) := wrap_i64 (by omega) (by omega)
      have e5 : (l.take (i + 3 + n)).drop (i + 3) = (l.drop (i + 3)).take n := by
        rw [List.drop_take]; congr 1; omega
      have j3 : i + 3 + n ≤ l.length := by omega
      have j4 : i + 3 ≤ i + 3 + n := by omega
      simp only [encToken, e0]
      generalize hm : i + 3 = m at *
      generalize hm2 : m + n = m2 at *
      clear hm hm2
      simp (maxSteps := 1000000) [exB, impl_counted.m, impl_counted.b, bs_get, List.take_of_length_le, setAt, str_add, hr, hrest, j1, j2, j3, j4, q, c3, c4, d6, d4, hp2, e2, e3, e4, e5, eql_nil]
  · rw [if_pos d2]
    rw [hd3l, decide_eq_false d2] at hp2
    simp only [hd3] at hp2
    simp only [encToken, tokBad, e0]
    by_cases d3 : r.length < 3
    · have d4 : (r.length : Int) < 3 := by omega
      rw [second d3] at hp1
      simp only [hd3] at hp1
      simp (maxSteps := 1000000) [exB, impl_counted.m, impl_counted.b, bs_get, List.take_of_length_le, setAt, str_add, hr, hrest, j1, j2, q, c3, c4, d4, hp1, hp2, eql_nil]
    · have d4 : ¬ (r.length : Int) < 3 := by omega
      simp (maxSteps := 1000000) [exB, impl_counted.m, impl_counted.b, bs_get, List.take_of_length_le, setAt, str_add, hr, hrest, j1, j2, q, c3, c4, d4, hp2, eql_nil]
end Mx

namespace Mx
open Go
abbrev Asc (l : List Int) : Prop := l.Pairwise (· < ·)
end Mx

namespace Mx
open Go
theorem andI_eq (k : IntKind) (x y : Int) : andI k x y = k.wrap (((x % ((2 ^ k.bits : Nat) : Int)).toNat &&& (y % ((2 ^ k.bits : Nat) : Int)).toNat : Nat) : Int) := by
  unfold andI; rw [BitVec.toNat_and, BitVec.toNat_ofInt, BitVec.toNat_ofInt]
theorem brow_nil : brow [] = [] := rfl
attribute [simp] brow_nil
end Mx

namespace Mx
open Go
variable {M : Nat → Option Body}
structure Reg where
  val : Int
  time : Int
  who : Int
structure Mail where
  gid : Int
  uid : Int
  flags : List Reg
  text : List UInt8
structure Box where
  gid : Int
  name : List UInt8
  time : Int
  who : Int
  next : Int
  mails : List Mail
  gone : List Int
abbrev encReg (r : Reg) : List T := [I r.val, I r.time, I r.who]
abbrev regs (l : List Reg) : T := .sl false 3 (l.map encReg)
abbrev encMail (m : Mail) : List T := [I m.gid, I m.uid, regs m.flags, S m.text]
abbrev mails (l : List Mail) : T := .sl false 4 (l.map encMail)
theorem has_int {k : IntKind} {u : T} (h : Has (.int k) u) : ∃ n, u = .int k n := by cases h; exact ⟨_, rfl⟩
end Mx

namespace Mx
open Go
variable {M : Nat → Option Body}
/-- the first mail of this number, from a place on -/
def atO (l : List Mail) (g : Int) : Nat → Nat → Option Nat
  | 0, _ => none
  | d + 1, i => if h : i < l.length then (if l[i].gid = g then some i else atO l g d (i + 1)) else none
def mailO (l : List Mail) (g : Int) : Option Nat := atO l g l.length 0
def intO : Option Nat → Int
  | some i => i
  | none => -1
def holds (b : Box) (g : Int) : Bool := decide (0 ≤ intO (mailO b.mails g))
end Mx

namespace Mx
open Go
/-- the first place from i on, of the d places there, of which p says yes -/
def firstF (p : Nat → Bool) : Nat → Nat → Option Nat
  | 0, _ => none
  | d + 1, i => if p i = true then some i else firstF p d (i + 1)
def firstN (p : Nat → Bool) (n : Nat) : Option Nat := firstF p n 0
/-- texts one behind the other -/
def texts {α : Type} (t : α → List UInt8) (l : List α) : List UInt8 := l.flatMap t
end Mx

namespace Mx
open Go
variable {M : Nat → Option Body}
def inR (a n b : Int) : Bool := decide (a ≤ n) && decide (n ≤ b)
def stampOk (t w : Int) : Bool := inR 0 t 100000 && inR 0 w 2
def regOk (r : Reg) : Bool := stampOk r.time r.who && inR 0 r.val 1000000000
def badFlag (l : List Reg) (i : Nat) : Bool := match l[i]? with
  | some r => !regOk r || decide (1 < r.val)
  | none => false
def flagsOk (l : List Reg) : Bool := (firstN (badFlag l) l.length).isNone && decide (l.length = 3)
def mailOk (m : Mail) : Bool := inR 1 m.gid 9999 && inR 1 m.uid 9999 && flagsOk m.flags && decide (m.text.length ≤ 60)
def badSign (l : List UInt8) (i : Nat) : Bool := match l[i]? with
  | some b => (decide ((b.toNat : Int) < 97) || decide (122 < (b.toNat : Int))) && (decide ((b.toNat : Int) < 48) || decide (57 < (b.toNat : Int)))
  | none => false
def nameOk (l : List UInt8) : Bool := (firstN (badSign l) l.length).isNone && inR 1 l.length 12
end Mx

namespace Mx
open Go
variable {M : Nat → Option Body}
structure GX where
  w : Nat
  v8 : Nat
  v1 : Nat
  v2 : Nat
  r8 : List (List T)
  r1 : List (List T)
  n : Nat
theorem GX.of {p : GX → Prop} (w r8 r1) (h : ∃ v8 v1 v2 n, p ⟨w, v8, v1, v2, r8, r1, n⟩) : ∃ x, p x := by
  obtain ⟨v8, v1, v2, n, h⟩ := h; exact ⟨_, h⟩
end Mx

namespace Mx
open Go
variable {M : Nat → Option Body}
def named (l : List Box) (s : List UInt8) : Option Nat := l.findIdx? fun b => decide (b.name = s)
end Mx

namespace Mx
open Go
variable {M : Nat → Option Body}
/-- small enough to be walked -/
structure BoxIn (b : Box) : Prop where
  m : b.mails.length ≤ 1048576
  g : b.gone.length ≤ 1048576
  n : b.name.length ≤ 1048576
  f : ∀ m ∈ b.mails, m.flags.length ≤ 1048576
theorem BoxIn.ok {b : Box} (h : BoxIn b) : b.mails.length ≤ 1048576 ∧ b.gone.length ≤ 4611686018427387904 ∧ b.name.length ≤ 4611686018427387904 ∧ ∀ m ∈ b.mails, m.flags.length ≤ 1048576 := ⟨h.m, by have := h.g; omega, by have := h.n; omega, h.f⟩
end Mx

namespace Mx
open Go
variable {M : Nat → Option Body}
structure Four where
  a : Nat
  b : Nat
  c : Nat
  d : Nat
theorem Four.ex {p : Four → Prop} : (∃ x, p x) ↔ ∃ a b c d, p ⟨a, b, c, d⟩ := ⟨fun ⟨⟨a, b, c, d⟩, h⟩ => ⟨a, b, c, d, h⟩, fun ⟨a, b, c, d, h⟩ => ⟨⟨a, b, c, d⟩, h⟩⟩
end Mx

namespace Mx
open Go
variable {M : Nat → Option Body}
/-- a loop that counts -/
theorem count_loop {β γ : Type} (n : Nat) {f : St → Option (Out × St)} (S : Nat → β → St) (e : Nat) (E : γ → St)
    (h1 : ∀ i, i < n → ∀ x, ∃ y, f (S i x) = some (.normal, S (i + 1) y)) (h3 : ∀ x, ∃ y, f (S n x) = some (.exit e, E y)) :
    ∃ g : β → γ, ∀ x, loopN f (n + 1) (S 0 x) = some (.exit e, E (g x)) := by
  refine loop_all (f := f) S (fun i => i ≤ n) (fun i => n - i) (fun _ => ()) (fun _ m => (.exit e, E m)) ?_ (n + 1) 0 (Nat.zero_le _) (by omega)
  intro i x hi
  by_cases hlt : i < n
  · left
    obtain ⟨y, hy⟩ := h1 i hlt x
    exact ⟨i + 1, y, hy, hlt, by omega, rfl⟩
  · have : i = n := by omega
    subst this
    right
    obtain ⟨y, hy⟩ := h3 x
    exact ⟨y, by simp [hy], by simp⟩
end Mx

namespace Mx
open Go
attribute [-simp] exC step stepE touch idsV idsO doCall
variable {M : Nat → Option Body}
def taS (l : List UInt8) (i : Nat) (x : Nat × Nat) : St := { t := [(0, .c (S l)), (2, .c (.ptr 2 x.1 0 0)), (5, .c (I i))], o := cnO x.1, n := x.2 }
def taE (l : List UInt8) (i : Nat) (x : Nat × Nat) : St := { t := [(0, .c (S l)), (2, .c (.ptr 2 x.1 0 0)), (5, .c (I i)), (31, .c (.bool false))], o := cnO x.1, n := x.2 }
theorem atomN_le (l : List UInt8) : atomN l ≤ l.length := by
  unfold atomN
  exact (List.takeWhile_sublist _).length_le
theorem atomN_at {l : List UInt8} {i : Nat} (hi : i < atomN l) : ∃ h : i < l.length, atomB l[i].toNat = true := by
  have hl : i < l.length := Nat.lt_of_lt_of_le hi (atomN_le l)
  refine ⟨hl, ?_⟩
  have hm : (l.takeWhile fun b => atomB b.toNat)[i]'hi ∈ l.takeWhile fun b => atomB b.toNat := List.getElem_mem hi
  have h1 : atomB ((l.takeWhile fun b => atomB b.toNat)[i]'hi).toNat = true := by
    have := List.all_takeWhile (p := fun b : UInt8 => atomB b.toNat) (l := l)
    rw [List.all_eq_true] at this
    exact this _ hm
  have h2 : (l.takeWhile fun b => atomB b.toNat)[i]'hi = l[i] := by
    have e : l.takeWhile (fun b => atomB b.toNat) <+: l := List.takeWhile_prefix _
    exact e.getElem hi
  rwa [h2] at h1
theorem atomN_cons (b : UInt8) (l : List UInt8) : atomN (b :: l) = if atomB b.toNat = true then atomN l + 1 else 0 := by
  unfold atomN; rw [List.takeWhile_cons]; split <;> simp
theorem atomN_stop : ∀ (l : List UInt8) (b : UInt8), l[atomN l]? = some b → atomB b.toNat = false
  | [], b, h => by simp at h
  | c :: l, b, h => by
    rw [atomN_cons] at h
    split at h
    · rw [List.getElem?_cons_succ] at h; exact atomN_stop l b h
    · rename_i q; rw [List.getElem?_cons_zero] at h; cases h; simpa using q
theorem atomN_end {l : List UInt8} (h : atomN l < l.length) : atomB l[atomN l].toNat = false := atomN_stop l _ (List.getElem?_eq_getElem h)
set_option maxHeartbeats 8000000 in
theorem ta_loop (ka : impl_isAtom.k M) (k : Nat) (l : List UInt8) (hl : l.length ≤ 1048576) :
    ∃ g : Nat × Nat → Nat × Nat, ∀ x, loopN (exC (run M) k impl_tokenAt.l0) (atomN l + 1) (taS l 0 x) = some (.exit 1, taE l (atomN l) (g x)) := by
  have hn := atomN_le l
  refine count_loop (f := exC (run M) k impl_tokenAt.l0) (atomN l) (taS l) 1 (taE l (atomN l)) (fun i hi x => ?_) (fun x => ?_)
  · obtain ⟨h1, h2⟩ := atomN_at hi
    have c1 : (i : Int) < l.length := by omega
    have e1 := wrap1 (i := i) (by omega)
    have h3 := impl_isAtom.says ka l[i]
    rw [h2] at h3
    obtain ⟨b, hb⟩ : ∃ b, b = l[i] := ⟨_, rfl⟩
    have hget : ∀ hh : i < l.length, l[i]'hh = b := fun _ => hb.symm
    rw [← hb] at h3
    simp only [taS, cnO, Prod.exists]
    simp (maxSteps := 1000000) [impl_tokenAt.l0, bs_get, List.take_of_length_le, setAt, str_add, h1, c1, e1, h3, hget]
  · by_cases c : atomN l < l.length
    · have h2 := atomN_end c
      have c1 : (atomN l : Int) < l.length := by omega
      have h3 := impl_isAtom.says ka l[atomN l]
      rw [h2] at h3
      generalize atomN l = i at *
      obtain ⟨b, hb⟩ : ∃ b, b = l[i] := ⟨_, rfl⟩
      have hget : ∀ hh : i < l.length, l[i]'hh = b := fun _ => hb.symm
      rw [← hb] at h3
      simp only [taS, taE, cnO, Prod.exists]
      simp (maxSteps := 1000000) [impl_tokenAt.l0, bs_get, List.take_of_length_le, setAt, str_add, c, c1, h3, hget]
    · have c1 : ¬ (atomN l : Int) < l.length := by omega
      generalize atomN l = i at *
      simp only [taS, taE, cnO, Prod.exists]
      simp (maxSteps := 1000000) [impl_tokenAt.l0, bs_get, List.take_of_length_le, setAt, str_add, c1]
set_option maxHeartbeats 8000000 in
theorem impl_tokenAt.says (h : impl_tokenAt.k M) (l : List UInt8) (hl : l.length ≤ 1048576) (h1 : 1 ≤ l.length) :
    run M 214 [.c (S l)] [] = some (.tup [.a (encToken (tokenAt l).1), .c (I (tokenAt l).2.1), .c (I (tokenAt l).2.2)], []) := by
  obtain ⟨h0, kw, kq, kc, ka⟩ := h
  have h2 := impl_quoted.says kq l hl
  have h3 := impl_counted.says kc l hl h1
  obtain ⟨g, hr⟩ := ta_loop ka (atomN l + 1) l hl
  have h4 := impl_within.says kw (atomN l : Int) 1 40
  have hn := atomN_le l
  refine run_code (b := impl_tokenAt.m) h0 ⟨atomN l + 1, ?_⟩
  have e0 : ((0 : Nat) : Int) = 0 := rfl
  have hh : l.head? = some l[0] := by
    cases l with
    | nil => simp at h1
    | cons b r => rfl
  unfold tokenAt
  rw [hh]
  obtain ⟨b, hb⟩ : ∃ b, b = l[0] := ⟨_, rfl⟩
  have hget : ∀ hh : 0 < l.length, l[0]'hh = b := fun _ => hb.symm
  rw [← hb]
  simp only [Option.some.injEq]
  have h1' : 0 < l.length := by omega
  by_cases b34 : b = 34
  · have n34 : (b.toNat : Int) = 34 := by rw [b34]; rfl
    rw [if_pos b34]
    simp only [encToken] at h2 ⊢
    generalize qGo (l.drop 1) [] 1 = r at *
    obtain ⟨⟨kd, tx⟩, a, c⟩ := r
    simp only at h2 ⊢
    simp (maxSteps := 1000000) [exB, impl_tokenAt.m, impl_tokenAt.b, bs_get, List.take_of_length_le, setAt, str_add, h2, h1', hget, n34]
  rw [if_neg b34]
  have n34 : ¬ (b.toNat : Int) = 34 := fun h => b34 ((u8_eq _ 34).1 h)
  by_cases b123 : b = 123
  · have n123 : (b.toNat : Int) = 123 := by rw [b123]; rfl
    rw [if_pos b123]
    simp only [encToken] at h3 ⊢
    generalize counted l = r at *
    obtain ⟨⟨kd, tx⟩, a, c⟩ := r
    simp only at h3 ⊢
    simp (maxSteps := 1000000) [exB, impl_tokenAt.m, impl_tokenAt.b, bs_get, List.take_of_length_le, setAt, str_add, h3, h1', hget, n34, n123]
  rw [if_neg b123]
  have n123 : ¬ (b.toNat : Int) = 123 := fun h => b123 ((u8_eq _ 123).1 h)
  generalize atomN l = m at *
  simp only [taS, taE, cnO, e0, Prod.forall] at hr
  by_cases c1 : m < 1 ∨ 40 < m
  · rw [if_pos c1]
    have hb' : (decide ((1 : Int) ≤ m) && decide ((m : Int) ≤ 40)) = false := by
      rw [Bool.and_eq_false_iff, decide_eq_false_iff_not, decide_eq_false_iff_not]; omega
    rw [hb'] at h4
    simp only [encToken, tokBad, e0]
    simp (maxSteps := 1000000) [exB, impl_tokenAt.m, impl_tokenAt.b, bs_get, List.take_of_length_le, setAt, str_add, hr, h1', hget, n34, n123, h4]
  rw [if_neg c1]
  have hb' : (decide ((1 : Int) ≤ m) && decide ((m : Int) ≤ 40)) = true := by
    rw [Bool.and_eq_true, decide_eq_true_eq, decide_eq_true_eq]; omega
  rw [hb'] at h4
  by_cases c2 : m = l.length
  · rw [if_pos c2]
    subst c2
    simp only [encToken, tokMore, e0]
    simp (maxSteps := 1000000) [exB, impl_tokenAt.m, impl_tokenAt.b, bs_get, List.take_of_length_le, setAt, str_add, hr, h1', hget, n34, n123, h4]
  · rw [if_neg c2]
    have c3 : ¬ (m : Int) = l.length := by omega
    simp only [encToken, e0]
    simp (maxSteps := 1000000) [exB, impl_tokenAt.m, impl_tokenAt.b, bs_get, List.take_of_length_le, setAt, str_add, hr, h1', hget, n34, n123, h4, c2, c3, hn]
end Mx

namespace Mx
open Go
variable {M : Nat → Option Body}
def byteOf (x : Int) : UInt8 := UInt8.ofNat (x % 256).toNat
def four (x : Int) : List UInt8 := [byteOf (x / 16777216), byteOf (x / 65536), byteOf (x / 256), byteOf x]
end Mx

namespace Mx
open Go
variable {M : Nat → Option Body}
def srow (l : List (List UInt8)) : List (List T) := l.map fun s => [S s]
theorem srow_len (l : List (List UInt8)) : (srow l).length = l.length := by simp [srow]
theorem srow_at (l : List (List UInt8)) (i : Nat) (h : i < (srow l).length) : (srow l)[i] = [S (l[i]'(by simpa [srow] using h))] := by simp [srow]
theorem srow_append (a b : List (List UInt8)) : srow a ++ srow b = srow (a ++ b) := by simp [srow]
theorem srow_nil : srow [] = [] := rfl
theorem srow_take (l : List (List UInt8)) (n : Nat) : (srow l).take n = srow (l.take n) := by simp [srow]
theorem srow_flat (l : List (List UInt8)) : (srow l).all (fun r => r.all T.scalar) = true := by
  simp only [srow, List.all_map, List.all_eq_true]
  intro n _; rfl
attribute [simp] srow_len srow_at srow_append srow_nil srow_take srow_flat
def markT (k : Nat) : List UInt8 := 109 :: digs k []
def marks (k : Nat) : Nat → List (List UInt8)
  | 0 => []
  | n + 1 => marks k n ++ [markT (k + n)]
theorem marks_len (k n : Nat) : (marks k n).length = n := by
  induction n with
  | zero => rfl
  | succ n ih => simp [marks, ih]
attribute [simp] marks_len
end Mx

namespace Mx
open Go
attribute [-simp] exC step stepE touch idsV idsO doCall
variable {M : Nat → Option Body}
theorem qGo_le : ∀ (l x : List UInt8) (i : Nat), (qGo l x i).2.1 ≤ i + l.length ∧ (qGo l x i).1.text.length ≤ x.length + l.length ∧ ((qGo l x i).2.2 = 0 → i < (qGo l x i).2.1) ∧ (qGo l x i).2.2 ≤ 2 ∧ 0 ≤ (qGo l x i).2.2
  | [], x, i => by simp [qGo, tokMore]
  | [b], x, i => by
    rw [qGo]
    split
    · simp
    · split
      · simp [tokMore]
      · split
        · simp [tokBad]
        · split <;> simp [tokBad, tokMore]
  | b :: c :: r, x, i => by
    rw [qGo]
    split
    · simp only [List.length_cons]; omega
    · split
      · split
        · split
          · simp [tokBad]
          · have := qGo_le r (x ++ [c]) (i + 2)
            simp only [List.length_append, List.length_cons, List.length_nil] at this ⊢
            refine ⟨by omega, by omega, fun h => by have := this.2.2.1 h; omega, this.2.2.2⟩
        · simp [tokBad]
      · split
        · simp [tokBad]
        · split
          · simp [tokBad]
          · have := qGo_le (c :: r) (x ++ [b]) (i + 1)
            simp only [List.length_append, List.length_cons, List.length_nil] at this ⊢
            refine ⟨by omega, by omega, fun h => by have := this.2.2.1 h; omega, this.2.2.2⟩
theorem counted_le (l : List UInt8) : (counted l).2.1 ≤ l.length ∧ (counted l).1.text.length ≤ l.length ∧ ((counted l).2.2 = 0 → 0 < (counted l).2.1) ∧ (counted l).2.2 ≤ 2 ∧ 0 ≤ (counted l).2.2 := by
  unfold counted cText
  split
  · simp [tokMore]
  split
  · simp [tokBad]
  split
  · simp [tokMore]
  split
  · simp [tokBad]
  split
  · simp [tokMore]
  · rename_i h1 h2 h3 h4 h5
    rw [List.length_drop] at h5
    have hb := cNum_le (l.drop 1)
    have h6 : 3 ≤ l.length - (cNum (l.drop 1)).2 := by
      have : (l.drop (cNum (l.drop 1)).2).take 3 = hd3 := by simpa using h4
      have := congrArg List.length this
      rw [List.length_take, List.length_drop] at this
      simp [hd3] at this; omega
    simp only [List.length_take, List.length_drop]
    omega
theorem tokenAt_le (l : List UInt8) (h1 : 1 ≤ l.length) : (tokenAt l).2.1 ≤ l.length ∧ (tokenAt l).1.text.length ≤ l.length ∧ ((tokenAt l).2.2 = 0 → 0 < (tokenAt l).2.1) ∧ (tokenAt l).2.2 ≤ 2 ∧ 0 ≤ (tokenAt l).2.2 := by
  unfold tokenAt
  split
  · have := qGo_le (l.drop 1) [] 1
    rw [List.length_drop, List.length_nil] at this
    refine ⟨by omega, by omega, fun h => by have := this.2.2.1 h; omega, this.2.2.2⟩
  split
  · exact counted_le l
  split
  · simp [tokBad]
  split
  · simp [tokMore]
  · have := atomN_le l
    simp only [List.length_take]; omega
structure SdS where
  d : Nat
  a : Nat
  acc : List Token
  v : Nat
  n : Nat
def sdS (l : List UInt8) (s : SdS) : St := { t := [(0, .c (S l)), (5, .c (.row 11 s.v 0 s.acc.length)), (6, .c (I s.a))], o := [(11, ⟨s.v, 2, true, false, s.acc.map encToken⟩)], n := s.n }
structure SdI (l : List UInt8) (q : SaidR) (s : SdS) : Prop where
  a : s.a ≤ l.length
  d : l.length < s.a + s.d
  acc : s.acc.length ≤ 7
  q : saidGo l s.d s.a s.acc = q
def sdOk (ts : List Token) (m : Nat) (v n : Nat) : St := { t := [(2, .c (.row 11 v 0 ts.length)), (3, .c (I m)), (4, .c (I 0))], o := [(11, ⟨v, 2, true, false, ts.map encToken⟩)], n := n }
def sdNo (c : Int) (v2 v n : Nat) (ra : List (List T)) : St := { t := [(2, .c (.row 2 v2 0 0)), (3, .c (I 0)), (4, .c (I c))], o := [(2, ⟨v2, 2, true, false, []⟩), (11, ⟨v, 2, true, false, ra⟩)], n := n }
def SdP (q : SaidR) (r : Out × St) : Prop := (∃ ts m v n, r = (.ret, sdOk ts m v n) ∧ q = (ts, m, 0)) ∨ (∃ c v2 v n ra, r = (.ret, sdNo c v2 v n ra) ∧ q = ([], 0, c))
set_option maxHeartbeats 8000000 in
theorem sd_turn (kt : impl_tokenAt.k M) (kp : strings_HasPrefix.k M) (k : Nat) (l : List UInt8) (hl : l.length ≤ 1048576) (q : SaidR) (s : SdS) (hs : SdI l q s) :
    (∃ s', exC (run M) k impl_said.l0 (sdS l s) = some (.normal, sdS l s') ∧ SdI l q s' ∧ s'.d < s.d) ∨
      (∃ r, exC (run M) k impl_said.l0 (sdS l s) = some r ∧ r.1 ≠ .normal ∧ SdP q r) := by
  obtain ⟨d, a, acc, v, n⟩ := s
  obtain ⟨h1, h2, h3, hq⟩ := hs
  simp only at h1 h2 h3 hq
  cases d with
  | zero => omega
  | succ d =>
  rw [saidGo] at hq
  have er : (acc.map encToken).length = acc.length := by simp
  have et : (acc.map encToken).take acc.length = acc.map encToken := List.take_of_length_le (by omega)
  by_cases c0 : l.length ≤ a
  · right
    have : a = l.length := by omega
    subst this
    rw [if_pos c0] at hq
    suffices hh : ∃ v2 n', exC (run M) k impl_said.l0 (sdS l ⟨d + 1, l.length, acc, v, n⟩) = some (.ret, sdNo 1 v2 v n' (acc.map encToken)) by
      obtain ⟨v2, n', hh⟩ := hh; exact ⟨_, hh, by simp, .inr ⟨_, _, _, _, _, rfl, hq.symm⟩⟩
    simp only [sdS, sdNo]
    generalize acc.map encToken = ra at *
    simp (maxSteps := 1000000) [impl_said.l0, bs_get, List.take_of_length_le, setAt, str_add]
  rw [if_neg c0] at hq
  have c1 : a < l.length := by omega
  have c2 : ¬ (a : Int) = l.length := by omega
  have j1 : a ≤ l.length := by omega
  have g1 := impl_tokenAt.says kt (l.drop a) (by rw [List.length_drop]; omega) (by rw [List.length_drop]; omega)
  have g2 := tokenAt_le (l.drop a) (by rw [List.length_drop]; omega)
  rw [List.length_drop] at g2
  generalize hd0 : l.drop a = la at *
  generalize tokenAt la = tk at *
  obtain ⟨tk, tn, tc⟩ := tk
  simp only at hq g1 g2
  by_cases c3 : tc = 0
  rotate_left
  · right
    rw [if_pos c3] at hq
    suffices hh : ∃ v2 n', exC (run M) k impl_said.l0 (sdS l ⟨d + 1, a, acc, v, n⟩) = some (.ret, sdNo tc v2 v n' (acc.map encToken)) by
      obtain ⟨v2, n', hh⟩ := hh; exact ⟨_, hh, by simp, .inr ⟨_, _, _, _, _, rfl, hq.symm⟩⟩
    simp only [sdS, sdNo]
    simp only [encToken] at g1
    generalize acc.map encToken = ra at *
    simp (maxSteps := 1000000) [impl_said.l0, bs_get, List.take_of_length_le, setAt, str_add, c2, j1, hd0, g1, c3]
  subst c3
  rw [if_neg (by simp)] at hq
  have hn := g2.2.2.1 rfl
  have e1 : IntKind.i64.wrap ((a : Int) + (tn : Int)) = ((a + tn : Nat) : Int) := wrap_i64 (by omega) (by omega)
  have j2 : a + tn ≤ l.length := by omega
  have e5 : acc.length + 1 ≤ 4294967296 := by omega
  generalize hb : a + tn = b at *
  generalize hd1 : l.drop b = lb at *
  have hp := strings_HasPrefix.says kp lb [13, 10] (by rw [← hd1, List.length_drop]; omega)
  have hpl : ([13, 10] : List UInt8).length = 2 := rfl
  rw [hpl] at hp
  by_cases c4 : lb = [] ∨ lb = [13]
  · right
    rw [if_pos c4] at hq
    suffices hh : ∃ v2 v' n', exC (run M) k impl_said.l0 (sdS l ⟨d + 1, a, acc, v, n⟩) = some (.ret, sdNo 1 v2 v' n' ((acc.map encToken) ++ [encToken tk])) by
      obtain ⟨v2, v', n', hh⟩ := hh; exact ⟨_, hh, by simp, .inr ⟨_, _, _, _, _, rfl, hq.symm⟩⟩
    simp only [sdS, sdNo]
    simp only [encToken] at g1 ⊢
    generalize (acc.map fun x : Token => [I x.kind, S x.text]) = ra at *
    rcases c4 with c4 | c4
    · simp (maxSteps := 1000000) [impl_said.l0, bs_get, List.take_of_length_le, setAt, str_add, c2, j1, j2, hd0, hd1, g1, e1, e5, er, et, c4, eql_nil]
    · have c5 : ¬ lb = [] := by rw [c4]; simp
      simp (maxSteps := 1000000) [impl_said.l0, bs_get, List.take_of_length_le, setAt, str_add, c2, j1, j2, hd0, hd1, g1, e1, e5, er, et, c4, c5, eql_nil, str_eql]
  rw [if_neg c4] at hq
  have c5 : ¬ lb = [] := fun e => c4 (.inl e)
  have c6 : ¬ lb = [13] := fun e => c4 (.inr e)
  have c7 : 0 < lb.length := by cases lb with | nil => exact (c5 rfl).elim | cons x y => simp
  by_cases d1 : lb.take 2 = [13, 10]
  · right
    rw [if_pos d1] at hq
    rw [decide_eq_true d1] at hp
    have e2 : IntKind.i64.wrap ((b : Int) + 2) = ((b + 2 : Nat) : Int) := wrap_i64 (by omega) (by omega)
    suffices hh : ∃ v' n', exC (run M) k impl_said.l0 (sdS l ⟨d + 1, a, acc, v, n⟩) = some (.ret, sdOk (acc ++ [tk]) (b + 2) v' n') by
      obtain ⟨v', n', hh⟩ := hh; exact ⟨_, hh, by simp, .inl ⟨_, _, _, _, rfl, hq.symm⟩⟩
    simp only [sdS, sdOk, List.map_append, List.map_cons, List.map_nil, List.length_append, List.length_cons, List.length_nil]
    simp only [encToken] at g1 ⊢
    generalize (acc.map fun x : Token => [I x.kind, S x.text]) = ra at *
    generalize hb2 : b + 2 = b2 at *
    simp (maxSteps := 1000000) [impl_said.l0, bs_get, List.take_of_length_le, setAt, str_add, c2, j1, j2, hd0, hd1, g1, e1, e2, e5, er, et, c5, c6, hp, eql_nil, str_eql]
  rw [if_neg d1] at hq
  rw [decide_eq_false d1] at hp
  obtain ⟨x, hx⟩ : ∃ x, x = lb[0] := ⟨_, rfl⟩
  have hget : ∀ hh : 0 < lb.length, lb[0]'hh = x := fun _ => hx.symm
  have hhead : lb.head? = some x := by
    rw [hx]; cases lb with | nil => exact (c5 rfl).elim | cons y z => rfl
  rw [hhead] at hq
  by_cases d2 : some x ≠ some 32 ∨ acc.length = 7
  · right
    rw [if_pos d2] at hq
    suffices hh : ∃ v2 v' n', exC (run M) k impl_said.l0 (sdS l ⟨d + 1, a, acc, v, n⟩) = some (.ret, sdNo 2 v2 v' n' ((acc.map encToken) ++ [encToken tk])) by
      obtain ⟨v2, v', n', hh⟩ := hh; exact ⟨_, hh, by simp, .inr ⟨_, _, _, _, _, rfl, hq.symm⟩⟩
    simp only [sdS, sdNo]
    simp only [encToken] at g1 ⊢
    generalize (acc.map fun x : Token => [I x.kind, S x.text]) = ra at *
    by_cases d3 : x = 32
    · have d4 : (x.toNat : Int) = 32 := by rw [d3]; rfl
      have d5 : acc.length = 7 := by rcases d2 with z | z; · exact (z (by rw [d3])).elim
                                     · exact z
      have d6 : (acc.length : Int) + 1 = 8 := by omega
      simp (maxSteps := 1000000) [impl_said.l0, bs_get, List.take_of_length_le, setAt, str_add, c2, j1, j2, hd0, hd1, g1, e1, e5, er, et, c5, c6, c7, hp, hget, d4, d6, eql_nil, str_eql]
    · have d4 : ¬ (x.toNat : Int) = 32 := fun h => d3 ((u8_eq _ 32).1 h)
      simp (maxSteps := 1000000) [impl_said.l0, bs_get, List.take_of_length_le, setAt, str_add, c2, j1, j2, hd0, hd1, g1, e1, e5, er, et, c5, c6, c7, hp, hget, d4, eql_nil, str_eql]
  · left
    rw [if_neg d2] at hq
    simp only [not_or, ne_eq, Classical.not_not, Option.some.injEq] at d2
    obtain ⟨d3, d5⟩ := d2
    have d4 : (x.toNat : Int) = 32 := by rw [d3]; rfl
    have d6 : ¬ (acc.length : Int) + 1 = 8 := by omega
    have e3 := wrap1 (i := b) (by omega)
    have hlb : lb.length = l.length - b := by rw [← hd1, List.length_drop]
    suffices hh : ∃ v' n', exC (run M) k impl_said.l0 (sdS l ⟨d + 1, a, acc, v, n⟩) = some (.normal, sdS l ⟨d, b + 1, acc ++ [tk], v', n'⟩) by
      obtain ⟨v', n', hh⟩ := hh
      exact ⟨_, hh, ⟨by simp only; omega, by simp only; omega, by simp; omega, hq⟩, Nat.lt_succ_self _⟩
    simp only [sdS, List.map_append, List.map_cons, List.map_nil, List.length_append, List.length_cons, List.length_nil]
    simp only [encToken] at g1 ⊢
    generalize (acc.map fun x : Token => [I x.kind, S x.text]) = ra at *
    simp (maxSteps := 1000000) [impl_said.l0, bs_get, List.take_of_length_le, setAt, str_add, c2, j1, j2, hd0, hd1, g1, e1, e3, e5, er, et, c5, c6, c7, hp, hget, d4, d6, eql_nil, str_eql]
theorem impl_said.says (h : impl_said.k M) (l : List UInt8) (hl : l.length ≤ 1048576) :
    run M 129 [.c (S l)] [] = some (.tup [.c (.sl true 2 ((said l).1.map encToken)), .c (I (said l).2.1), .c (I (said l).2.2)], []) := by
  obtain ⟨h0, kt, kp⟩ := h
  obtain ⟨r, hr, hp⟩ := loop_ex (f := exC (run M) (l.length + 2) impl_said.l0) (sdS l) (SdI l (said l)) (fun s => s.d) (SdP (said l))
    (fun s hs => sd_turn kt kp _ l hl _ s hs) (l.length + 2) ⟨l.length + 1, 0, [], 2000048, 2000096⟩ ⟨Nat.zero_le _, by simp only; omega, by simp, rfl⟩ (by simp only; omega)
  refine run_code (b := impl_said.m) h0 ⟨l.length + 2, ?_⟩
  have e0 : ((0 : Nat) : Int) = 0 := rfl
  rcases hp with ⟨ts, m, v, n, rfl, hq⟩ | ⟨c, v2, v, n, ra, rfl, hq⟩
  · rw [hq]
    have er : (ts.map encToken).length = ts.length := by simp
    have et : (ts.map encToken).take ts.length = ts.map encToken := List.take_of_length_le (by omega)
    simp only [sdS, sdOk, List.map_nil, List.length_nil, e0] at hr ⊢
    generalize ts.map encToken = rt at *
    simp (maxSteps := 1000000) [exB, impl_said.m, impl_said.b, bs_get, List.take_of_length_le, setAt, str_add, hr, er, et]
  · rw [hq]
    simp only [sdS, sdNo, List.map_nil, List.length_nil, e0] at hr ⊢
    simp (maxSteps := 1000000) [exB, impl_said.m, impl_said.b, bs_get, List.take_of_length_le, setAt, str_add, hr]
end Mx

namespace Mx
open Go
variable {M : Nat → Option Body}
abbrev curD (R : List (List T)) (i : Nat) (h : Int) : Nat × Ob := (0, ⟨0, 3, true, true, [[.sl false 1 R, I i, I h]]⟩)
def Bytes (R : List (List T)) : Prop := R.length ≤ 1048576 ∧ ∀ (i : Nat) (r : List T), R[i]? = some r → ∃ n : Int, r = [.int .u8 n]
theorem and_255 (x : Int) : ∃ n : Nat, n < 256 ∧ andI .i64 x 255 = (n : Int) := by
  rw [andI_eq]
  refine ⟨(x % ((2 ^ IntKind.i64.bits : Nat) : Int)).toNat &&& 255, ?_, ?_⟩
  · have : (x % ((2 ^ IntKind.i64.bits : Nat) : Int)).toNat &&& 255 ≤ 255 := Nat.and_le_right
    omega
  · have h : (x % ((2 ^ IntKind.i64.bits : Nat) : Int)).toNat &&& 255 ≤ 255 := Nat.and_le_right
    have e : ((255 : Int) % ((2 ^ IntKind.i64.bits : Nat) : Int)).toNat = 255 := by decide
    rw [e]
    exact wrap_i64 (by omega) (by omega)
theorem spec_l01Byte.says (h : spec_l01Byte.k M) {R : List (List T)} (hR : Bytes R) (i : Nat) (q : Int) (hi : i ≤ R.length) :
    ∃ (x i' : Nat) (q' : Int), x < 256 ∧ i' ≤ R.length ∧ run M 131 [.c (.ptr 0 0 0 0)] [curD R i q] = some (.c (I x), [curD R i' q']) := by
  obtain ⟨hl, hb⟩ := hR
  obtain ⟨q1, hq1⟩ : ∃ q1, IntKind.i64.wrap (IntKind.i64.wrap (q * 6364136223846793005) + 1442695040888963407) = q1 := ⟨_, rfl⟩
  obtain ⟨x, hx, e1⟩ := and_255 (xorI .i64 (q1.fdiv ((2 : Int) ^ min 33 IntKind.i64.bits)) (q1.fdiv ((2 : Int) ^ min 45 IntKind.i64.bits)))
  by_cases hlt : i < R.length
  · obtain ⟨n, hn⟩ := hb i R[i] (List.getElem?_eq_getElem hlt)
    obtain ⟨y, hy, e2⟩ := and_255 (IntKind.i64.wrap (x + IntKind.i64.wrap n))
    refine ⟨y, i + 1, q1, hy, by omega, ?_⟩
    refine run_code (b := spec_l01Byte.m) h ⟨0, ?_⟩
    have e3 := wrap1 (i := i) (by omega)
    simp (maxSteps := 1000000) [exB, spec_l01Byte.m, spec_l01Byte.b, List.range_succ, setAt, hq1, e1, e2, e3, hlt, hn]
  · refine ⟨x, i, q1, hx, hi, ?_⟩
    refine run_code (b := spec_l01Byte.m) h ⟨0, ?_⟩
    simp (maxSteps := 1000000) [exB, spec_l01Byte.m, spec_l01Byte.b, List.range_succ, setAt, hq1, e1, hlt]
theorem tmod_small (x n : Nat) (hn : 0 < n) : ∃ y : Nat, y < n ∧ ((x : Int).tmod (n : Int)) = (y : Int) := ⟨x % n, Nat.mod_lt _ hn, by rw [Int.tmod_eq_emod_of_nonneg (by omega)]; rfl⟩
/-- a number below n (at most 256, or a drawn one of four bytes) -/
theorem spec_l01Below.says (h : spec_l01Below.k M) {R : List (List T)} (hR : Bytes R) (i : Nat) (q : Int) (hi : i ≤ R.length) (n : Nat) (hn : 0 < n) (hn2 : n ≤ 1000000000) :
    ∃ (x i' : Nat) (q' : Int), x < n ∧ i' ≤ R.length ∧ run M 125 [.c (.ptr 0 0 0 0), .c (I n)] [curD R i q] = some (.c (I x), [curD R i' q']) := by
  obtain ⟨h0, k1⟩ := h
  have n0 : ¬ (n : Int) ≤ 0 := by omega
  have n1 : ¬ n = 0 := by omega
  obtain ⟨x1, i1, q1, hx1, hi1, h1⟩ := spec_l01Byte.says k1 hR i q hi
  by_cases hs : n ≤ 256
  · have hs2 : (n : Int) ≤ 256 := by omega
    obtain ⟨y, hy, e⟩ := tmod_small x1 n hn
    refine ⟨y, i1, q1, hy, hi1, ?_⟩
    refine run_code (b := spec_l01Below.m) h0 ⟨0, ?_⟩
    simp (maxSteps := 1000000) [exB, spec_l01Below.m, spec_l01Below.b, List.range_succ, h1, n1, hs2, e]
  · have hs2 : ¬ (n : Int) ≤ 256 := by omega
    obtain ⟨x2, i2, q2, hx2, hi2, h2⟩ := spec_l01Byte.says k1 hR i1 q1 hi1
    obtain ⟨x3, i3, q3, hx3, hi3, h3⟩ := spec_l01Byte.says k1 hR i2 q2 hi2
    obtain ⟨x4, i4, q4, hx4, hi4, h4⟩ := spec_l01Byte.says k1 hR i3 q3 hi3
    have w1 : IntKind.i64.wrap ((x1 : Int) * 16777216) = ((x1 * 16777216 : Nat) : Int) := wrap_i64 (by omega) (by omega)
    have w2 : IntKind.i64.wrap ((x2 : Int) * 65536) = ((x2 * 65536 : Nat) : Int) := wrap_i64 (by omega) (by omega)
    have w3 : IntKind.i64.wrap ((x3 : Int) * 256) = ((x3 * 256 : Nat) : Int) := wrap_i64 (by omega) (by omega)
    obtain ⟨y1, hy1⟩ : ∃ y1, x1 * 16777216 = y1 := ⟨_, rfl⟩
    obtain ⟨y2, hy2⟩ : ∃ y2, x2 * 65536 = y2 := ⟨_, rfl⟩
    obtain ⟨y3, hy3⟩ : ∃ y3, x3 * 256 = y3 := ⟨_, rfl⟩
    rw [hy1] at w1; rw [hy2] at w2; rw [hy3] at w3
    have w4 : IntKind.i64.wrap ((y1 : Int) + y2) = ((y1 + y2 : Nat) : Int) := wrap_i64 (by omega) (by omega)
    obtain ⟨z1, hz1⟩ : ∃ z1, y1 + y2 = z1 := ⟨_, rfl⟩
    rw [hz1] at w4
    have w5 : IntKind.i64.wrap ((z1 : Int) + y3) = ((z1 + y3 : Nat) : Int) := wrap_i64 (by omega) (by omega)
    obtain ⟨z2, hz2⟩ : ∃ z2, z1 + y3 = z2 := ⟨_, rfl⟩
    rw [hz2] at w5
    have w6 : IntKind.i64.wrap ((z2 : Int) + x4) = ((z2 + x4 : Nat) : Int) := wrap_i64 (by omega) (by omega)
    obtain ⟨z3, hz3⟩ : ∃ z3, z2 + x4 = z3 := ⟨_, rfl⟩
    rw [hz3] at w6
    obtain ⟨y, hy, e⟩ := tmod_small z3 n hn
    refine ⟨y, i4, q4, hy, hi4, ?_⟩
    refine run_code (b := spec_l01Below.m) h0 ⟨0, ?_⟩
    simp (maxSteps := 1000000) [exB, spec_l01Below.m, spec_l01Below.b, List.range_succ, h1, h2, h3, h4, w1, w2, w3, w4, w5, w6, n1, hs2, e]
theorem spec_l01Pick.says (h : spec_l01Pick.k M) {R : List (List T)} (hR : Bytes R) (i : Nat) (q : Int) (hi : i ≤ R.length) (ss : List (List UInt8)) (h0 : 0 < ss.length) (hn : ss.length ≤ 256) :
    ∃ (s : List UInt8) (i' : Nat) (q' : Int), s ∈ ss ∧ i' ≤ R.length ∧ run M 185 [.c (.ptr 0 0 0 0), .c (.sl false 1 (ss.map fun s => [S s]))] [curD R i q] = some (.c (S s), [curD R i' q']) := by
  obtain ⟨hm, k1⟩ := h
  obtain ⟨x, i1, q1, hx, hi1, h1⟩ := spec_l01Below.says k1 hR i q hi ss.length h0 (by omega)
  refine ⟨ss[x], i1, q1, List.getElem_mem hx, hi1, ?_⟩
  refine run_code (b := spec_l01Pick.m) hm ⟨0, ?_⟩
  simp (maxSteps := 1000000) [exB, spec_l01Pick.m, spec_l01Pick.b, List.range_succ, h1, hx]
end Mx

namespace Mx
open Go
variable {M : Nat → Option Body}
def byteAt (R : List (List T)) (i : Nat) : Int := match R[i]? with
  | some [.int _ n] => IntKind.i64.wrap n
  | _ => 0
def hAt (R : List (List T)) : Nat → Int
  | 0 => 77201 + R.length
  | i + 1 => andI .i64 (IntKind.i64.wrap (IntKind.i64.wrap (IntKind.i64.wrap (hAt R i * 131) + byteAt R i) + 7)) 1073741823
def lnN (R : List (List T)) : Nat := min R.length 4000
def lnS (R : List (List T)) (i : Nat) (x : Nat) : St := { t := [(0, .c (.sl false 1 R)), (3, .c (I (hAt R i))), (4, .c (I i))], o := [], n := x }
def lnE (R : List (List T)) (x : Nat) : St := { t := [(0, .c (.sl false 1 R)), (3, .c (I (hAt R (lnN R)))), (4, .c (I (lnN R))), (15, .c (.bool false))], o := [], n := x }
theorem spec_l01New.says (h : spec_l01New.k M) {R : List (List T)} (hR : Bytes R) :
    ∃ q : Int, run M 124 [.c (.sl false 1 R)] [] = some (.c (.vp [.sl false 1 R, I 0, I q] 0), []) := by
  refine ⟨hAt R (lnN R), run_code (b := spec_l01New.m) h ⟨lnN R + 1, ?_⟩⟩
  have hl := hR.1
  obtain ⟨g, hr⟩ := count_loop (f := exC (run M) (lnN R + 1) spec_l01New.l0) (lnN R) (lnS R) 0 (lnE R)
    (fun i hi x => by
      have h1 : i < R.length := by unfold lnN at hi; omega
      have h2 : i < 4000 := by unfold lnN at hi; omega
      have h3 : (i : Int) < 4000 := by omega
      obtain ⟨n, hn⟩ := hR.2 i R[i] (List.getElem?_eq_getElem h1)
      have hb : byteAt R i = IntKind.i64.wrap n := by simp [byteAt, h1, hn]
      have e3 := wrap1 (i := i) (by omega)
      simp only [lnS, hAt, hb]
      generalize hAt R i = q
      simp (maxSteps := 1000000) [spec_l01New.l0, h1, h3, hn, e3])
    (fun x => by
      simp only [lnS, lnE]
      generalize hAt R (lnN R) = q
      by_cases c : R.length < 4000
      · have e : lnN R = R.length := by unfold lnN; omega
        rw [e]
        simp (maxSteps := 1000000) [spec_l01New.l0]
      · have e : lnN R = 4000 := by unfold lnN; omega
        rw [e]
        simp only [Int.cast_ofNat_Int]
        by_cases c2 : 4000 < R.length
        · have c3 : (4000 : Int) < (R.length : Int) := by omega
          simp (maxSteps := 1000000) [spec_l01New.l0, c3]
        · have c3 : ¬ (4000 : Int) < (R.length : Int) := by omega
          simp (maxSteps := 1000000) [spec_l01New.l0, c3])
  simp only [lnS, lnE, hAt] at hr
  generalize hAt R (lnN R) = q at *
  simp at hr
  have e : IntKind.i64.wrap (77201 + (R.length : Int)) = 77201 + (R.length : Int) := wrap_i64 (by omega) (by omega)
  simp (maxSteps := 1000000) [exB, spec_l01New.m, spec_l01New.b, List.range_succ, setAt, hr, e]
end Mx

namespace Mx
open Go
variable {M : Nat → Option Body}
structure PlS where
  i : Nat
  rows : List (List T)
  v : Nat
  vc : Nat
  ic : Nat
  q : Int
  n : Nat
theorem PlS.ex {p : PlS → Prop} : (∃ s, p s) ↔ ∃ i rows v vc ic q n, p ⟨i, rows, v, vc, ic, q, n⟩ := ⟨fun ⟨⟨i, rows, v, vc, ic, q, n⟩, h⟩ => ⟨i, rows, v, vc, ic, q, n, h⟩, fun ⟨i, rows, v, vc, ic, q, n, h⟩ => ⟨⟨i, rows, v, vc, ic, q, n⟩, h⟩⟩
def plO (R : List (List T)) (s : PlS) : List (Nat × Ob) := [(10, ⟨s.v, 1, true, false, s.rows⟩), (10700, ⟨s.vc, 3, true, true, [[.sl false 1 R, I s.ic, I s.q]]⟩)]
def plS (R : List (List T)) (s : PlS) : St := { t := [(3, .c (.ptr 10700 s.vc 0 0)), (4, .c (.row 10 s.v 0 s.i)), (5, .c (I s.i))], o := plO R s, n := s.n }
def plE (R : List (List T)) (s : PlS) : St := { t := [(3, .c (.ptr 10700 s.vc 0 0)), (4, .c (.row 10 s.v 0 s.i)), (5, .c (I s.i)), (12, .c (.bool false))], o := plO R s, n := s.n }
structure PlI (R : List (List T)) (s : PlS) : Prop where
  i : s.i ≤ 12
  l : s.rows.length = s.i
  r : ∀ r ∈ s.rows, ∃ x : Nat, x < 10000 ∧ r = [I x]
  c : s.ic ≤ R.length
theorem pl_turn (hb : spec_l01Below.k M) {R : List (List T)} (hR : Bytes R) (k : Nat) (s : PlS) (hs : PlI R s) :
    (∃ s', exC (run M) k spec_DrawPlaces.l0 (plS R s) = some (.normal, plS R s') ∧ PlI R s' ∧ 12 - s'.i < 12 - s.i) ∨
      (∃ r, exC (run M) k spec_DrawPlaces.l0 (plS R s) = some r ∧ r.1 ≠ .normal ∧ ∃ s', r = (.exit 0, plE R s') ∧ s'.i = 12 ∧ PlI R s') := by
  obtain ⟨i, rows, v, vc, ic, q, n⟩ := s
  obtain ⟨hi, hl, hr, hc⟩ := hs
  simp only at hi hl hr hc
  obtain ⟨x, ic', q', hx, hic, h1⟩ := spec_l01Below.says hb hR ic q hc 10000 (by omega) (by omega)
  simp only [Int.cast_ofNat_Int] at h1
  by_cases hlt : i < 12
  · left
    have hlt2 : (i : Int) < 12 := by omega
    have e3 := wrap1 (i := i) (by omega)
    have e4 : rows.take i = rows := List.take_of_length_le (by omega)
    have e5 : i + 1 ≤ 4294967296 := by omega
    have e6 : i ≤ rows.length := by omega
    have hh : ∃ v' n', exC (run M) k spec_DrawPlaces.l0 (plS R ⟨i, rows, v, vc, ic, q, n⟩) = some (.normal, plS R ⟨i + 1, rows ++ [[I x]], v', vc, ic', q', n'⟩) := by
      simp only [plS, plO]
      simp (maxSteps := 1000000) [spec_DrawPlaces.l0, h1, hl, hlt2, e3, e4, e5]
    obtain ⟨v', n', hh⟩ := hh
    refine ⟨_, hh, ⟨by simp only; omega, by simp [hl], fun r hr' => ?_, hic⟩, by simp only; omega⟩
    rcases List.mem_append.1 hr' with h | h
    · exact hr r h
    · simp only [List.mem_singleton] at h
      exact ⟨x, hx, h⟩
  · right
    have hlt2 : ¬ (i : Int) < 12 := by omega
    refine ⟨(.exit 0, plE R ⟨i, rows, v, vc, ic, q, n + 32⟩), ?_, by simp, ⟨i, rows, v, vc, ic, q, n + 32⟩, rfl, by simp only; omega, ⟨hi, hl, hr, hc⟩⟩
    simp only [plS, plE, plO]
    simp (maxSteps := 1000000) [spec_DrawPlaces.l0, hlt2]
theorem spec_DrawPlaces.says (h : spec_DrawPlaces.k M) {R : List (List T)} (hR : Bytes R) :
    ∃ rows : List (List T), rows.length = 12 ∧ (∀ r ∈ rows, ∃ x : Nat, x < 10000 ∧ r = [I x]) ∧ run M 40 [.c (.sl false 1 R)] [] = some (.c (.sl true 1 rows), []) := by
  obtain ⟨h0, k1, k2, k3⟩ := h
  obtain ⟨q0, h1⟩ := spec_l01New.says k1 hR
  obtain ⟨x, ic, q, hx, hic, h2⟩ := spec_l01Byte.says k3 hR 0 q0 (Nat.zero_le _)
  obtain ⟨r, hr, ⟨⟨i, rows, v, vc, ic', q', n⟩, rfl, hi, hI⟩⟩ := loop_ex (f := exC (run M) 13 spec_DrawPlaces.l0) (plS R) (PlI R) (fun s => 12 - s.i) (fun r => ∃ s', r = (.exit 0, plE R s') ∧ s'.i = 12 ∧ PlI R s')
    (fun s hs => pl_turn k2 hR 13 s hs) 13 ⟨0, [], 2000096, 2000032, ic, q, 2000144⟩ ⟨by simp, by simp, by simp, hic⟩ (by simp)
  obtain ⟨_, hl, hr', _⟩ := hI
  simp only at hi hl hr'
  refine ⟨rows, by omega, hr', run_code (b := spec_DrawPlaces.m) h0 ⟨13, ?_⟩⟩
  have e : rows.take i = rows := List.take_of_length_le (by omega)
  have e2 : i ≤ rows.length := by omega
  simp only [plS, plE, plO] at hr
  simp at hr
  have e0 : ((0 : Nat) : Int) = 0 := rfl
  simp only [curD, e0] at h2
  simp (maxSteps := 1000000) [exB, spec_DrawPlaces.m, spec_DrawPlaces.b, List.range_succ, hr, h1, h2, e, e2]
end Mx

namespace Mx
open Go
def later (t w u x : Int) : Bool := decide (u < t) || (decide (t = u) && decide (x < w))
def gids (l : List Mail) : List Int := l.map (·.gid)
end Mx

namespace Mx
attribute [simp] oTmps
open Go
variable {M : Nat → Option Body}
end Mx

namespace Mx
open Go
/-- a right box -/
structure Good (b : Box) : Prop where
  gid : 1 ≤ b.gid ∧ b.gid ≤ 9999
  name : nameOk b.name = true
  st : stampOk b.time b.who = true
  next : 1 ≤ b.next ∧ b.next ≤ 10000
  len : b.mails.length ≤ 10
  gone : Asc b.gone
  goneR : ∀ g ∈ b.gone, 1 ≤ g ∧ g ≤ 9999
  goneL : b.gone.length ≤ 40
  mail : ∀ m ∈ b.mails, mailOk m = true ∧ m.uid < b.next ∧ ¬ m.gid ∈ b.gone
  uids : b.mails.Pairwise (fun a c => a.uid < c.uid)
  gids : b.mails.Pairwise (fun a c => a.gid ≠ c.gid)
end Mx

namespace Mx
open Go
/-- a drawn box after i turns -/
structure Drawn (i : Nat) (b : Box) : Prop where
  good : Good b
  m : ∀ m ∈ b.mails, 10 ≤ m.gid ∧ m.gid ≤ 18
  g : ∀ g ∈ b.gone, 10 ≤ g ∧ g ≤ 18
  nx : b.next ≤ 4 + i
  gl : b.gone.length ≤ i
theorem Drawn.mono {i j : Nat} {b : Box} (h : Drawn i b) (hij : i ≤ j) : Drawn j b := ⟨h.good, h.m, h.g, by have := h.nx; omega, by have := h.gl; omega⟩
end Mx

namespace Mx
open Go
variable {M : Nat → Option Body}
theorem spec_l01Once.says (h : spec_l01Once.k M) {R : List (List T)} (hR : Bytes R) (i : Nat) (q : Int) (hi : i ≤ R.length) (n : Nat) (h0 : 0 < n) (hn : n ≤ 256) :
    ∃ (s : Bool) (i' : Nat) (q' : Int), i' ≤ R.length ∧ run M 175 [.c (.ptr 0 0 0 0), .c (I n)] [curD R i q] = some (.c (.bool s), [curD R i' q']) := by
  obtain ⟨hm, k1⟩ := h
  obtain ⟨x, i1, q1, hx, hi1, h1⟩ := spec_l01Below.says k1 hR i q hi n h0 (by omega)
  refine ⟨decide (x = 0), i1, q1, hi1, ?_⟩
  refine run_code (b := spec_l01Once.m) hm ⟨0, ?_⟩
  simp (maxSteps := 1000000) [exB, spec_l01Once.m, spec_l01Once.b, List.range_succ, h1]
end Mx

namespace Mx
open Go
variable {M : Nat → Option Body}
structure LgS where
  i : Nat
  l : List UInt8
  n : Nat
def lgS (v m : Nat) (s : LgS) : St := { t := [(0, .c (I m)), (1, .c (.int .u8 97)), (5, .c (.row 8 v 0 m)), (6, .c (I s.i))], o := [(8, ⟨v, 1, true, false, brow s.l⟩)], n := s.n }
def lgE (v m : Nat) (s : LgS) : St := { t := [(0, .c (I m)), (1, .c (.int .u8 97)), (5, .c (.row 8 v 0 m)), (6, .c (I s.i)), (11, .c (.bool false))], o := [(8, ⟨v, 1, true, false, brow s.l⟩)], n := s.n }
theorem brow_set (l : List UInt8) (i : Nat) (b : UInt8) : (brow l).set i [.int .u8 (b.toNat : Int)] = brow (l.set i b) := by
  simp [brow, List.map_set]
theorem lg_turn (k v m : Nat) (hm : m ≤ 1000) (s : LgS) (hs : s.i ≤ m ∧ s.l.length = m) :
    (∃ s', exC (run M) k spec_l01Long.l0 (lgS v m s) = some (.normal, lgS v m s') ∧ (s'.i ≤ m ∧ s'.l.length = m) ∧ m - s'.i < m - s.i) ∨
      (∃ r, exC (run M) k spec_l01Long.l0 (lgS v m s) = some r ∧ r.1 ≠ .normal ∧ ∃ s', r = (.exit 0, lgE v m s') ∧ s'.l.length = m) := by
  obtain ⟨i, l, n⟩ := s
  obtain ⟨hi, hl⟩ := hs
  simp only at hi hl
  by_cases hlt : i < m
  · left
    have hlt2 : (i : Int) < (m : Int) := by omega
    have e3 := wrap1 (i := i) (by omega)
    have e7 : (brow l).length = m := by simp [brow, hl]
    have e6 : (brow l).set i [.int .u8 97] = brow (l.set i 97) := brow_set l i 97
    have e8 : ∀ hh, ((brow l)[i]'hh).length = 1 := by intro hh; simp [brow]
    have e9 : ∀ hh, ((brow l)[i]'hh).drop 1 = [] := by intro hh; simp [brow]
    have hh : ∃ n', exC (run M) k spec_l01Long.l0 (lgS v m ⟨i, l, n⟩) = some (.normal, lgS v m ⟨i + 1, l.set i 97, n'⟩) := by
      simp only [lgS, ← e6]
      generalize brow l = rl at *
      simp (maxSteps := 1000000) [spec_l01Long.l0, setAt, hlt, hlt2, e3, e7, e8, e9]
    obtain ⟨n', hh⟩ := hh
    exact ⟨_, hh, ⟨by simp only; omega, by simp [hl]⟩, by simp only; omega⟩
  · right
    have hlt2 : ¬ (i : Int) < (m : Int) := by omega
    have hh : ∃ n', exC (run M) k spec_l01Long.l0 (lgS v m ⟨i, l, n⟩) = some (.exit 0, lgE v m ⟨i, l, n'⟩) := by
      simp only [lgS, lgE]
      simp (maxSteps := 1000000) [spec_l01Long.l0, hlt2]
    obtain ⟨n', hh⟩ := hh
    exact ⟨_, hh, by simp, _, rfl, hl⟩
theorem brow_zeros (m : Nat) : brow (List.replicate m 0) = List.replicate m [.int .u8 0] := by simp [brow]
theorem spec_l01Long.says (h : spec_l01Long.k M) (m : Nat) (hm : m ≤ 1000) : ∃ s : List UInt8, s.length = m ∧ run M 176 [.c (I m), .c (.int .u8 97)] [] = some (.c (S s), []) := by
  obtain ⟨r, hr, ⟨⟨j, l, n⟩, rfl, hl⟩⟩ := loop_ex (f := exC (run M) (m + 1) spec_l01Long.l0) (lgS 2000032 m) (fun s => s.i ≤ m ∧ s.l.length = m) (fun s => m - s.i) (fun r => ∃ s', r = (.exit 0, lgE 2000032 m s') ∧ s'.l.length = m)
    (fun s hs => lg_turn (m + 1) 2000032 m hm s hs) (m + 1) ⟨0, List.replicate m 0, 2000080⟩ ⟨by simp, by simp⟩ (by simp)
  simp only at hl
  refine ⟨l, hl, run_code (b := spec_l01Long.m) h ⟨m + 1, ?_⟩⟩
  simp only [lgS, lgE, brow_zeros] at hr
  have e7 : (brow l).length = m := by simp [brow, hl]
  have e8 : (brow l).take m = brow l := List.take_of_length_le (by omega)
  have e9 : m ≤ 4294967296 := by omega
  have e10 : m ≤ 140737488355328 := by omega
  simp at hr
  simp (maxSteps := 1000000) [exB, spec_l01Long.m, spec_l01Long.b, List.range_succ, hr, e7, e8, e9, e10]
end Mx

namespace Mx
open Go
variable {M : Nat → Option Body}
deriving instance DecidableEq for Reg
deriving instance DecidableEq for Mail
deriving instance DecidableEq for Box
end Mx

namespace Mx
open Go
variable {M : Nat → Option Body}
theorem laws_big.says (h : laws_big.k M) (R : List (List T)) (hl : R.length ≤ 9223372036854775807) : run M 36 [.c (.sl false 1 R)] [] = some (.c (.bool (decide (1048576 < R.length))), []) := by
  refine run_code (b := laws_big.m) h ⟨0, ?_⟩
  simp (maxSteps := 1000000) [exB, laws_big.m, laws_big.b, List.range_succ]
  omega
end Mx

namespace Mx
open Go
attribute [-simp] exC step stepE touch idsV idsO doCall
variable {M : Nat → Option Body}
def crlf : List UInt8 := [13, 10]
def readTokens (l : List UInt8) : List Token × List UInt8 × Int :=
  if (said l).2.2 = 0 ∧ (said l).2.1 ≤ 200 then ((said l).1, l.drop (said l).2.1, 0) else if (said l).2.2 = 1 ∧ l.length ≤ 200 then ([], l, 1) else ([], (Lib.cut l crlf).2.1, 2)
theorem cut_run {M : Nat → Option Body} (h : M 130 = some (.ext cutG)) (l s : List UInt8) (hl : l.length < 4294967281) :
    run M 130 [.c (S l), .c (S s)] [] = some (.tup [.c (S (Lib.cut l s).1), .c (S (Lib.cut l s).2.1), .c (.bool (Lib.cut l s).2.2)], []) := by
  refine run_ext h ?_
  have e : (bs l).size < 4294967281 := by simpa using hl
  simp only [cutG, e, if_true]
  rfl
theorem saidGo_le (l : List UInt8) (hl : 1 ≤ 1) : ∀ d a acc, a ≤ l.length → (saidGo l d a acc).2.1 ≤ l.length
  | 0, a, acc, h => by simp [saidGo]
  | d + 1, a, acc, h => by
    rw [saidGo]
    by_cases c0 : l.length ≤ a
    · rw [if_pos c0]; simp
    rw [if_neg c0]
    have g := tokenAt_le (l.drop a) (by rw [List.length_drop]; omega)
    rw [List.length_drop] at g
    split
    · simp
    split
    · simp
    split
    · rename_i h1 h2 h3
      have := congrArg List.length h3
      rw [List.length_take, List.length_drop] at this
      simp at this
      simp only; omega
    split
    · simp
    · rename_i h1 h2 h3 h4
      refine saidGo_le l hl d _ _ ?_
      simp only [not_or] at h2
      have : 0 < (l.drop (a + (tokenAt (l.drop a)).2.1)).length := by
        cases q : l.drop (a + (tokenAt (l.drop a)).2.1) with
        | nil => exact (h2.1 q).elim
        | cons x y => simp
      rw [List.length_drop] at this; omega
set_option maxHeartbeats 4000000 in
theorem impl_ReadTokens.says (h : impl_ReadTokens.k M) (l : List UInt8) (hl : l.length ≤ 1048576) :
    run M 39 [.c (S l)] [] = some (.tup [.c (.sl true 2 ((readTokens l).1.map encToken)), .c (S (readTokens l).2.1), .c (I (readTokens l).2.2)], []) := by
  obtain ⟨h0, ks, kc⟩ := h
  have h1 := impl_said.says ks l hl
  have h2 := cut_run kc l crlf (by omega)
  have h3 := saidGo_le l (Nat.le_refl _) (l.length + 1) 0 [] (Nat.zero_le _)
  change (said l).2.1 ≤ l.length at h3
  refine run_code (b := impl_ReadTokens.m) h0 ⟨0, ?_⟩
  unfold readTokens
  generalize said l = r at *
  obtain ⟨ts, m, c⟩ := r
  simp only at h1 h3 ⊢
  have er : (ts.map encToken).length = ts.length := by simp
  by_cases c1 : c = 0 ∧ m ≤ 200
  · rw [if_pos c1]
    obtain ⟨c2, c3⟩ := c1
    have c4 : (m : Int) ≤ 200 := by omega
    have et : (ts.map encToken).take ts.length = ts.map encToken := List.take_of_length_le (by omega)
    subst c2
    generalize ts.map encToken = rt at *
    simp (maxSteps := 1000000) [exB, impl_ReadTokens.m, impl_ReadTokens.b, bs_get, List.take_of_length_le, setAt, str_add, h1, h3, c4, er, et]
  rw [if_neg c1]
  simp only [crlf] at h2 ⊢
  generalize Lib.cut l [13, 10] = ct at *
  obtain ⟨x1, x2, x3⟩ := ct
  simp only at h2 ⊢
  have hfirst : c = 0 → ¬ (m : Int) ≤ 200 := fun a b => c1 ⟨a, by omega⟩
  by_cases c2 : c = 1 ∧ l.length ≤ 200
  · rw [if_pos c2]
    obtain ⟨c3, c4⟩ := c2
    have c5 : (l.length : Int) ≤ 200 := by omega
    subst c3
    generalize ts.map encToken = rt at *
    simp (maxSteps := 1000000) [exB, impl_ReadTokens.m, impl_ReadTokens.b, bs_get, List.take_of_length_le, setAt, str_add, h1, c5]
  · rw [if_neg c2]
    have hsec : c = 1 → ¬ (l.length : Int) ≤ 200 := fun a b => c2 ⟨a, by omega⟩
    generalize ts.map encToken = rt at *
    by_cases d0 : c = 0
    · have d1 := hfirst d0
      subst d0
      simp (maxSteps := 1000000) [exB, impl_ReadTokens.m, impl_ReadTokens.b, bs_get, List.take_of_length_le, setAt, str_add, h1, h2, d1]
    · by_cases d2 : c = 1
      · have d3 := hsec d2
        subst d2
        simp (maxSteps := 1000000) [exB, impl_ReadTokens.m, impl_ReadTokens.b, bs_get, List.take_of_length_le, setAt, str_add, h1, h2, d3]
      · simp (maxSteps := 1000000) [exB, impl_ReadTokens.m, impl_ReadTokens.b, bs_get, List.take_of_length_le, setAt, str_add, h1, h2, d0, d2]
def atoms6 : List (List UInt8) := [[97,49], [76,79,71,73,78], [78,79,79,80], [120], [49,58,51,44,42], [33,126]]
def texts8 (s : List UInt8) : List (List UInt8) := [[], [97,110,110], [97,32,98], [113,34,113], [98,92,115], [108,105,110,101,13,10,101,110,100], [0,255], s]
theorem spec_l13Token.says (h : spec_l13Token.k M) {R : List (List T)} (hR : Bytes R) (i : Nat) (q : Int) (hi : i ≤ R.length) :
    ∃ (t : Token) (i' : Nat) (q' : Int), goodTok t ∧ i' ≤ R.length ∧ run M 126 [.c (.ptr 0 0 0 0)] [curD R i q] = some (.a (encToken t), [curD R i' q']) := by
  obtain ⟨h0, ko, kl, kp⟩ := h
  obtain ⟨b, i1, q1, hi1, h1⟩ := spec_l01Once.says ko hR i q hi 2 (by omega) (by omega)
  simp only [Int.cast_ofNat_Int] at h1
  cases b with
  | true =>
    obtain ⟨s, i2, q2, hs, hi2, h2⟩ := spec_l01Pick.says kp hR i1 q1 hi1 atoms6 (by decide) (by decide)
    have hat : ∀ s ∈ atoms6, atomOk s = true := by decide
    refine ⟨⟨1, s⟩, i2, q2, .inl ⟨rfl, hat s hs⟩, hi2, run_code (b := spec_l13Token.m) h0 ⟨0, ?_⟩⟩
    simp only [curD, atoms6, encToken, List.map_cons, List.map_nil] at h1 h2 ⊢
    simp (maxSteps := 1000000) [exB, spec_l13Token.m, spec_l13Token.b, bs_get, List.take_of_length_le, setAt, str_add, h1, h2]
  | false =>
    obtain ⟨w, hw, h3⟩ := spec_l01Long.says kl 60 (by omega)
    obtain ⟨s, i2, q2, hs, hi2, h2⟩ := spec_l01Pick.says kp hR i1 q1 hi1 (texts8 w) (by simp [texts8]) (by simp [texts8])
    have hle : s.length ≤ 60 := by
      simp only [texts8, List.mem_cons, List.not_mem_nil, or_false] at hs
      rcases hs with rfl | rfl | rfl | rfl | rfl | rfl | rfl | rfl <;> first | omega | simp
    refine ⟨⟨2, s⟩, i2, q2, .inr ⟨rfl, hle⟩, hi2, run_code (b := spec_l13Token.m) h0 ⟨0, ?_⟩⟩
    simp only [Int.cast_ofNat_Int] at h3
    simp only [curD, texts8, encToken, List.map_cons, List.map_nil] at h1 h2 ⊢
    simp (maxSteps := 1000000) [exB, spec_l13Token.m, spec_l13Token.b, bs_get, List.take_of_length_le, setAt, str_add, h1, h2, h3]
end Mx

namespace Mx
open Go
attribute [-simp] exC step stepE touch idsV idsO doCall
variable {M : Nat → Option Body}
structure DtS where
  ts : List Token
  i : Nat
  ic : Nat
  q : Int
  v : Nat
  vc : Nat
  n : Nat
def dtO (R : List (List T)) (s : DtS) : List (Nat × Ob) := [(8, ⟨s.v, 2, true, false, s.ts.map encToken⟩), (10700, ⟨s.vc, 3, true, true, [[.sl false 1 R, I s.ic, I s.q]]⟩)]
def dtT (s : DtS) : List (Nat × V) := [(3, .c (.ptr 10700 s.vc 0 0)), (4, .c (.row 8 s.v 0 s.i)), (5, .c (I s.i))]
def dtS (R : List (List T)) (s : DtS) : St := { t := dtT s, o := dtO R s, n := s.n }
def dtE (R : List (List T)) (s : DtS) : St := { t := dtT s ++ [(13, .c (.bool false))], o := dtO R s, n := s.n }
structure DtI (R : List (List T)) (s : DtS) : Prop where
  i : s.i ≤ 4
  l : s.ts.length = s.i
  c : s.ic ≤ R.length
  g : ∀ t ∈ s.ts, goodTok t
set_option maxHeartbeats 4000000 in
theorem dt_turn (kb : spec_l01Below.k M) (kt : spec_l13Token.k M) {R : List (List T)} (hR : Bytes R) (k : Nat) (s : DtS) (hs : DtI R s) :
    (∃ s', exC (run M) k spec_DrawTokens.l0 (dtS R s) = some (.normal, dtS R s') ∧ DtI R s' ∧ 4 - s'.i < 4 - s.i) ∨
      (∃ r, exC (run M) k spec_DrawTokens.l0 (dtS R s) = some r ∧ r.1 ≠ .normal ∧ ∃ s', r = (.exit 0, dtE R s') ∧ 0 < s'.i ∧ DtI R s') := by
  obtain ⟨ts, i, ic, q, v, vc, n⟩ := s
  obtain ⟨hi, hl, hic, hg⟩ := hs
  simp only at hi hl hic hg
  obtain ⟨z, ic1, q1, hz, hic1, g1⟩ := spec_l01Below.says kb hR ic q hic 4 (by omega) (by omega)
  simp only [Int.cast_ofNat_Int, curD] at g1
  have e1 : IntKind.i64.wrap (1 + (z : Int)) = 1 + (z : Int) := wrap_i64 (by omega) (by omega)
  have er : (ts.map encToken).length = i := by simp [hl]
  have et : (ts.map encToken).take i = ts.map encToken := List.take_of_length_le (by omega)
  by_cases c0 : i < 1 + z
  · left
    have e4 := wrap1 (i := i) (by omega)
    have c1 : (i : Int) < 1 + (z : Int) := by omega
    have e5 : i + 1 ≤ 4294967296 := by omega
    obtain ⟨t, ic2, q2, ht, hic2, g2⟩ := spec_l13Token.says kt hR ic1 q1 hic1
    have hh : ∃ v' n', exC (run M) k spec_DrawTokens.l0 (dtS R ⟨ts, i, ic, q, v, vc, n⟩) = some (.normal, dtS R ⟨ts ++ [t], i + 1, ic2, q2, v', vc, n'⟩) := by
      simp only [dtS, dtT, dtO, List.map_append, List.map_cons, List.map_nil]
      simp only [curD, encToken] at g2 er et ⊢
      generalize (ts.map fun x : Token => [I x.kind, S x.text]) = rt at *
      simp (maxSteps := 1000000) [spec_DrawTokens.l0, bs_get, List.take_of_length_le, setAt, str_add, g1, g2, e1, e4, e5, c1, er, et]
    obtain ⟨v', n', hh⟩ := hh
    refine ⟨_, hh, ⟨by simp only; omega, by simp [hl], hic2, fun x hx => ?_⟩, by simp only; omega⟩
    rcases List.mem_append.1 hx with y | y
    · exact hg x y
    · rw [List.mem_singleton.1 y]; exact ht
  · right
    have c1 : ¬ (i : Int) < 1 + (z : Int) := by omega
    have hh : ∃ n', exC (run M) k spec_DrawTokens.l0 (dtS R ⟨ts, i, ic, q, v, vc, n⟩) = some (.exit 0, dtE R ⟨ts, i, ic1, q1, v, vc, n'⟩) := by
      simp only [dtS, dtE, dtT, dtO]
      simp (maxSteps := 1000000) [spec_DrawTokens.l0, bs_get, List.take_of_length_le, setAt, str_add, g1, e1, c1]
    obtain ⟨n', hh⟩ := hh
    exact ⟨_, hh, by simp, _, rfl, by simp only; omega, ⟨hi, hl, hic1, hg⟩⟩
theorem spec_DrawTokens.says (h : spec_DrawTokens.k M) {R : List (List T)} (hR : Bytes R) :
    ∃ ts : List Token, ts ≠ [] ∧ ts.length ≤ 4 ∧ (∀ t ∈ ts, goodTok t) ∧ run M 37 [.c (.sl false 1 R)] [] = some (.c (.sl true 2 (ts.map encToken)), []) := by
  obtain ⟨h0, k1, kb, kt⟩ := h
  obtain ⟨q0, h1⟩ := spec_l01New.says k1 hR
  obtain ⟨r, hr, ⟨⟨ts, i, ic, q, v, vc, n⟩, rfl, hj, hI⟩⟩ := loop_ex (f := exC (run M) 5 spec_DrawTokens.l0) (dtS R) (DtI R) (fun s => 4 - s.i) (fun r => ∃ s', r = (.exit 0, dtE R s') ∧ 0 < s'.i ∧ DtI R s')
    (fun s hs => dt_turn kb kt hR 5 s hs) 5 ⟨[], 0, 0, q0, 2000064, 2000032, 2000112⟩ ⟨by simp, rfl, Nat.zero_le _, fun _ h => absurd h (by simp)⟩ (by simp)
  obtain ⟨h2, h3, h4, h5⟩ := hI
  simp only at hj h2 h3 h4 h5
  refine ⟨ts, fun e => by rw [e] at h3; simp at h3; omega, by omega, h5, run_code (b := spec_DrawTokens.m) h0 ⟨5, ?_⟩⟩
  have er : (ts.map encToken).length = i := by simp [h3]
  have et : (ts.map encToken).take i = ts.map encToken := List.take_of_length_le (by omega)
  have e0 : ((0 : Nat) : Int) = 0 := rfl
  simp only [dtS, dtE, dtT, dtO, List.map_nil, e0, curD] at hr h1
  generalize ts.map encToken = rt at *
  simp (maxSteps := 1000000) [exB, spec_DrawTokens.m, spec_DrawTokens.b, bs_get, List.take_of_length_le, setAt, str_add, h1, hr, er, et]
abbrev toks (l : List Token) : T := .sl false 2 (l.map encToken)
def stS (l : List Token) (i : Nat) (x : Nat) : St := { t := [(0, .c (toks l)), (1, .c (toks l)), (5, .c (I i))], o := [], n := x }
theorem sameTokens_self (h : laws_sameTokens.k M) (l : List Token) (hl : l.length ≤ 1048576) : run M 41 [.c (toks l), .c (toks l)] [] = some (.c (.bool true), []) := by
  have er : (l.map encToken).length = l.length := by simp
  obtain ⟨g, hr⟩ := count_loop (f := exC (run M) (l.length + 1) laws_sameTokens.l0) l.length (stS l) 0 (fun x => { t := [(0, .c (toks l)), (1, .c (toks l)), (5, .c (I l.length)), (14, .c (.bool false))], o := [], n := x })
    (fun i hi x => by
      have e5 := wrap1 (i := i) (by omega)
      have a1 : ∀ hh, (l.map encToken)[i]'hh = encToken l[i] := by intro hh; simp
      have hi2 : (i : Int) < l.length := by omega
      simp only [stS, toks]
      generalize l[i] = t at *
      obtain ⟨kd, tx⟩ := t
      simp only [encToken] at a1 er ⊢
      generalize (l.map fun x : Token => [I x.kind, S x.text]) = rt at *
      simp (maxSteps := 1000000) [laws_sameTokens.l0, bs_get, List.take_of_length_le, setAt, str_add, a1, er, hi, hi2, e5])
    (fun x => by
      simp only [stS, toks]
      generalize l.map encToken = rt at *
      simp (maxSteps := 1000000) [laws_sameTokens.l0, bs_get, List.take_of_length_le, setAt, str_add, er])
  refine run_code (b := laws_sameTokens.m) h ⟨l.length + 1, ?_⟩
  have e0 : ((0 : Nat) : Int) = 0 := rfl
  simp only [stS, toks, e0] at hr ⊢
  generalize l.map encToken = rt at *
  simp (maxSteps := 1000000) [exB, laws_sameTokens.m, laws_sameTokens.b, bs_get, List.take_of_length_le, setAt, str_add, hr, er]
end Mx

namespace Mx
open Go
attribute [-simp] exC step stepE touch idsV idsO doCall
variable {M : Nat → Option Body}
def joinT : List Token → List UInt8
  | [] => []
  | [t] => tokenText t
  | t :: u :: ts => tokenText t ++ 32 :: joinT (u :: ts)
theorem joinT_said : ∀ ts : List Token, ts ≠ [] → joinT ts ++ [13, 10] = saidT ts
  | [], h => (h rfl).elim
  | [t], _ => rfl
  | t :: u :: ts, _ => by
    have := joinT_said (u :: ts) (by simp)
    simp only [joinT, saidT, List.append_assoc, List.cons_append, this]
theorem joinT_snoc (t : Token) : ∀ ts : List Token, joinT (ts ++ [t]) = (if ts = [] then [] else joinT ts ++ [32]) ++ tokenText t
  | [] => by simp [joinT]
  | [u] => by simp [joinT]
  | u :: w :: ts => by
    have := joinT_snoc t (w :: ts)
    rw [if_neg (by simp)] at this ⊢
    rw [List.cons_append] at this
    simp only [List.cons_append, joinT, this, List.append_assoc, List.nil_append]
theorem joinT_take {ts : List Token} {i : Nat} (hi : i < ts.length) : joinT (ts.take (i + 1)) = (if i = 0 then [] else joinT (ts.take i) ++ [32]) ++ tokenText ts[i] := by
  rw [List.take_succ_eq_append_getElem hi, joinT_snoc]
  congr 1
  by_cases c : i = 0
  · subst c; simp
  · rw [if_neg c, if_neg (fun e => by have := congrArg List.length e; rw [List.length_take, List.length_nil] at this; omega)]
theorem tokenText_len {t : Token} (h : goodTok t) : (tokenText t).length ≤ 130 := by
  unfold tokenText
  rcases h with ⟨h1, h2⟩ | ⟨h1, h2⟩
  · rw [if_pos h1]
    simp only [atomOk, Bool.and_eq_true, decide_eq_true_eq] at h2
    omega
  · rw [if_neg (by omega)]
    split
    · rename_i c
      obtain ⟨q1, q2, q3⟩ := quoted_parts c
      have := escs_len t.text
      rw [q3]; simp only [List.length_cons, List.length_append, List.length_nil]; omega
    · have := dec_len (n := t.text.length) (by omega) (by omega)
      simp only [List.length_append, List.length_cons, List.length_nil]; omega
theorem goodTok_len {t : Token} (h : goodTok t) : t.text.length ≤ 60 := by
  rcases h with ⟨h1, h2⟩ | ⟨h1, h2⟩
  · simp only [atomOk, Bool.and_eq_true, decide_eq_true_eq] at h2
    omega
  · exact h2
theorem joinT_len : ∀ {ts : List Token}, (∀ t ∈ ts, goodTok t) → (joinT ts).length ≤ 131 * ts.length
  | [], _ => by simp [joinT]
  | [t], h => by have := tokenText_len (h t (List.mem_cons_self ..)); simp only [joinT, List.length_cons, List.length_nil]; omega
  | t :: u :: ts, h => by
    have h1 := tokenText_len (h t (List.mem_cons_self ..))
    have h2 := joinT_len (ts := u :: ts) (fun x hx => h x (List.mem_cons_of_mem _ hx))
    simp only [joinT, List.length_append, List.length_cons] at h2 ⊢
    omega
def ftS (R : List (List T)) (ts : List Token) (i : Nat) (x : Nat) : St := { t := [(0, .c (.sl false 1 R)), (3, .c (toks ts)), (4, .c (S (joinT (ts.take i)))), (5, .c (I i))], o := [], n := x }
def ftE (R : List (List T)) (ts : List Token) (x : Nat) : St := { t := [(0, .c (.sl false 1 R)), (3, .c (toks ts)), (4, .c (S (joinT ts))), (5, .c (I ts.length)), (20, .c (.bool false))], o := [], n := x }
set_option maxHeartbeats 4000000 in
theorem ft_loop (kt : impl_TokenText.k M) (k : Nat) (R : List (List T)) (ts : List Token) (hl : ts.length ≤ 4) (hg : ∀ t ∈ ts, goodTok t) :
    ∃ g : Nat → Nat, ∀ x, loopN (exC (run M) k laws_FnTokens.l0) (ts.length + 1) (ftS R ts 0 x) = some (.exit 0, ftE R ts (g x)) := by
  have er : (ts.map encToken).length = ts.length := by simp
  refine count_loop (f := exC (run M) k laws_FnTokens.l0) ts.length (ftS R ts) 0 (ftE R ts) (fun i hi x => ?_) (fun x => ?_)
  · have ht := hg _ (List.getElem_mem hi)
    have h1 := impl_TokenText.says kt ts[i] (by have := goodTok_len ht; omega)
    have hl1 := tokenText_len ht
    have hl2 := joinT_len (ts := ts.take i) (fun t ht => hg t (List.mem_of_mem_take ht))
    rw [List.length_take] at hl2
    have a1 : ∀ hh, (ts.map encToken)[i]'hh = encToken ts[i] := by intro hh; simp
    have e5 := wrap1 (i := i) (by omega)
    have hi2 : (i : Int) < ts.length := by omega
    simp only [ftS, joinT_take hi, toks]
    generalize joinT (ts.take i) = jt at *
    generalize tokenText ts[i] = tt at *
    simp only [encToken] at h1 a1 er ⊢
    generalize (ts.map fun x : Token => [I x.kind, S x.text]) = rt at *
    have s2 : (jt ++ [32]).length + tt.length ≤ 4611686018427387904 := by simp; omega
    by_cases c : i = 0
    · subst c
      have hj : jt.length = 0 := by omega
      have hjn : jt = [] := List.eq_nil_of_length_eq_zero hj
      subst hjn
      have e0 : ((0 : Nat) : Int) = 0 := rfl
      have e1 : IntKind.i64.wrap 1 = 1 := by decide
      simp only [e0] at hi2 e5 ⊢
      have s3 : ([] : List UInt8).length + tt.length ≤ 4611686018427387904 := by simp; omega
      have s4 : strBin .add { data := #[] } (bs tt) = some (S tt) := str_add [] tt s3
      simp (maxSteps := 1000000) [laws_FnTokens.l0, bs_get, List.take_of_length_le, setAt, str_add, h1, a1, er, hi, hi2, e5, e1, s3, s4]
    · have c2 : (0 : Int) < i := by omega
      have c3 : 0 < i := by omega
      have s3 : jt.length + ([32] : List UInt8).length ≤ 4611686018427387904 := by simp; omega
      have s4 : strBin .add (bs jt) { data := #[32] } = some (S (jt ++ [32])) := str_add jt [32] s3
      rw [if_neg c]
      generalize jt ++ [32] = jt2 at *
      have s5 := str_add jt2 tt s2
      simp (maxSteps := 1000000) [laws_FnTokens.l0, bs_get, List.take_of_length_le, setAt, str_add, h1, a1, er, hi, hi2, e5, c2, c3, s4, s5]
  · simp only [ftS, ftE, toks, List.take_length]
    generalize ts.map encToken = rt at *
    simp (maxSteps := 1000000) [laws_FnTokens.l0, bs_get, List.take_of_length_le, setAt, str_add, er]
theorem read_full {ts : List Token} (h : ts ≠ []) (hg : ∀ t ∈ ts, goodTok t) (hl : ts.length ≤ 8) (q : List UInt8) :
    (¬ 200 < (saidT ts).length → readTokens (saidT ts ++ q) = (ts, q, 0)) ∧ (200 < (saidT ts).length → ∃ y, readTokens (saidT ts ++ q) = ([], y, 2)) := by
  have r1 := said_full h hg hl q
  unfold readTokens
  rw [r1]
  constructor
  · intro c
    rw [if_pos ⟨rfl, by simp only; omega⟩, List.drop_left]
  · intro c
    rw [if_neg (by simp only; omega), if_neg (by simp)]
    exact ⟨_, rfl⟩
theorem read_less {ts : List Token} (h : ts ≠ []) (hg : ∀ t ∈ ts, goodTok t) (hl : ts.length ≤ 8) {z : Nat} (hz : z < (saidT ts).length) :
    (z ≤ 200 → readTokens ((saidT ts).take z) = ([], (saidT ts).take z, 1)) ∧ (¬ z ≤ 200 → ∃ y, readTokens ((saidT ts).take z) = ([], y, 2)) := by
  have r1 := said_less h hg hl hz
  have hk : ((saidT ts).take z).length = z := by rw [List.length_take]; omega
  unfold readTokens
  rw [r1, hk]
  constructor
  · intro c
    rw [if_neg (by simp), if_pos ⟨rfl, c⟩]
  · intro c
    rw [if_neg (by simp), if_neg (fun e => c e.2)]
    exact ⟨_, rfl⟩
set_option maxHeartbeats 8000000 in
theorem laws_FnTokens.says (h : laws_FnTokens.k M) (R : List (List T)) (hl : R.length ≤ 9223372036854775807) (hr : ∀ (i : Nat) (r : List T), R[i]? = some r → ∃ n : Int, r = [.int .u8 n]) :
    run M 521 [.c (.sl false 1 R)] [] = some (.c (.bool true), []) := by
  obtain ⟨h0, kbig, kdt, ktt, krt, kdp, kst⟩ := h
  have hbig := laws_big.says kbig R hl
  by_cases cb : 1048576 < R.length
  · refine run_code (b := laws_FnTokens.m) h0 ⟨0, ?_⟩
    rw [decide_eq_true cb] at hbig
    simp (maxSteps := 1000000) [exB, laws_FnTokens.m, laws_FnTokens.b, bs_get, List.take_of_length_le, setAt, str_add, hbig]
  rw [decide_eq_false cb] at hbig
  have hR : Bytes R := ⟨by omega, hr⟩
  obtain ⟨ts, hne, hlen, hg, h1⟩ := spec_DrawTokens.says kdt hR
  obtain ⟨rows, hrl, hrr, h2⟩ := spec_DrawPlaces.says kdp hR
  obtain ⟨x, hx, hx2⟩ := hrr rows[0] (List.getElem_mem (by omega))
  have hs := joinT_said ts hne
  have hjl := joinT_len hg
  have hsl : (saidT ts).length = (joinT ts).length + 2 := by rw [← hs]; simp
  obtain ⟨g, hloop⟩ := ft_loop ktt (ts.length + 1) R ts hlen hg
  obtain ⟨f1, f2⟩ := read_full hne hg (by omega) [110, 101, 120, 116]
  have h3 := impl_ReadTokens.says krt (saidT ts ++ [110, 101, 120, 116]) (by simp only [List.length_append, List.length_cons, List.length_nil]; omega)
  obtain ⟨z, hz, ez⟩ := tmod_small x (saidT ts).length (by omega)
  obtain ⟨f3, f4⟩ := read_less hne hg (by omega) hz
  have h4 := impl_ReadTokens.says krt ((saidT ts).take z) (by rw [List.length_take]; omega)
  have h5 := sameTokens_self kst ts (by omega)
  have a1 : ∀ hh : 0 < rows.length, rows[0]'hh = [I x] := fun _ => hx2
  have s1 : strBin .add (bs (joinT ts)) { data := #[13, 10] } = some (S (saidT ts)) := by rw [← hs]; exact str_add _ [13, 10] (by simp; omega)
  have s2 : strBin .add (bs (saidT ts)) { data := #[110, 101, 120, 116] } = some (S (saidT ts ++ [110, 101, 120, 116])) := str_add _ [110, 101, 120, 116] (by simp; omega)
  have e4 : rows.length = 12 := hrl
  have er : (ts.map encToken).length = ts.length := by simp
  have et : (ts.map encToken).take ts.length = ts.map encToken := List.take_of_length_le (by omega)
  refine run_code (b := laws_FnTokens.m) h0 ⟨ts.length + 1, ?_⟩
  have e0 : ((0 : Nat) : Int) = 0 := rfl
  simp only [ftS, ftE, toks, List.take_zero, joinT, e0] at hloop h5
  have hz2 : z ≤ (saidT ts).length := by omega
  have hz0 : ¬ (saidT ts).length = 0 := by omega
  generalize saidT ts ++ [110, 101, 120, 116] = sn at *
  clear hs hjl
  generalize joinT ts = jt at *
  generalize hw : (saidT ts).take z = w at *
  generalize saidT ts = st at *
  by_cases c : 200 < st.length
  · obtain ⟨y1, f2⟩ := f2 c
    rw [f2] at h3
    have c1 : (200 : Int) < st.length := by omega
    by_cases c3 : z ≤ 200
    · rw [f3 c3] at h4
      simp only [List.map_nil] at h3 h4
      generalize ts.map encToken = rt at *
      simp (maxSteps := 1000000) [exB, laws_FnTokens.m, laws_FnTokens.b, bs_get, List.take_of_length_le, setAt, str_add, hbig, h1, h2, h3, h4, hloop, a1, e4, s1, s2, ez, er, c1, hz2, hz0, hw]
    · obtain ⟨y2, f4⟩ := f4 c3
      rw [f4] at h4
      simp only [List.map_nil] at h3 h4
      generalize ts.map encToken = rt at *
      simp (maxSteps := 1000000) [exB, laws_FnTokens.m, laws_FnTokens.b, bs_get, List.take_of_length_le, setAt, str_add, hbig, h1, h2, h3, h4, hloop, a1, e4, s1, s2, ez, er, c1, hz2, hz0, hw]
  · rw [f1 c] at h3
    rw [f3 (by omega)] at h4
    have c1 : ¬ (200 : Int) < st.length := by omega
    simp only [List.map_nil] at h3 h4
    generalize ts.map encToken = rt at *
    simp (maxSteps := 1000000) [exB, laws_FnTokens.m, laws_FnTokens.b, bs_get, List.take_of_length_le, setAt, str_add, hbig, h1, h2, h3, h4, h5, hloop, a1, e4, s1, s2, ez, er, et, c1, hz2, hz0, hw, str_eql]
theorem laws_FnTokens.row (h : laws_FnTokens.k M) {as : List V} (ha : HasVs [.cell (.sl [.int .u8])] as) : run M 521 as [] = some (.c (.bool true), []) := by
  cases ha with | cons h0 ha =>
  cases ha
  cases h0 with | cell h0 =>
  cases h0 with | sl _ rows hl h1 h2 =>
  refine laws_FnTokens.says h rows (Nat.le_trans hl (by decide)) fun i r hr => ?_
  have hlen := h1 i r hr
  match r, hlen with
  | [a], _ =>
    obtain ⟨n, rfl⟩ := has_int (h2 i 0 [a] (.int .u8) a hr rfl rfl)
    exact ⟨n, rfl⟩
end Mx

namespace Mx
open Go Go.RowKit Go.ChangeShapes
variable {P : Program} {F : Nat → FuncId}
theorem drewN_heap : ∀ (n : Nat) (w : World), (w.drewN n).heap = w.heap ∧ (w.drewN n).os = w.os ∧ (w.drewN n).tape = w.tape ∧ (w.drewN n).output = w.output := by
  intro n w
  exact ⟨rfl, rfl, rfl, rfl⟩
theorem ext_cut {f : Nat} (hf : okFn P F f = true) (hne : F 999998 ≠ 0)
    (h : ∀ (s sep : ByteArray) (m : Int) (w : World), s.size < 4294967281 → w.cell? ⟨F 999999, 0, none⟩ = some (.int .i64 m) → Calls P (F f) #[.string s, .string sep] w fun e w' => e = .returned (.tuple #[.string ⟨(Lib.cut s.data.toList sep.data.toList).1.toArray⟩, .string ⟨(Lib.cut s.data.toList sep.data.toList).2.1.toArray⟩, .bool (Lib.cut s.data.toList sep.data.toList).2.2]) ∧ ∃ n, w' = w.drewN n) : ExtOk P F f cutG := by
  intro as lent res after hg
  refine ⟨hf, fun Pr E0 vals w En => ?_⟩
  unfold cutG at hg
  split at hg
  · rename_i s sep
    split at hg
    · rename_i hs
      cases hg
      have hn := En.n
      have hv : vals = #[.string s, .string sep] := by
        have h0 := En.args 0 _ (vals[0]'(by rw [← hn]; simp)) rfl (Array.getElem?_eq_getElem _)
        have h1 := En.args 1 _ (vals[1]'(by rw [← hn]; simp)) rfl (Array.getElem?_eq_getElem _)
        have g0 := repV_val h0 (v := .string s) rfl
        have g1 := repV_val h1 (v := .string sep) rfl
        apply Array.ext
        · rw [← hn]; rfl
        · intro i hi hi'
          match i, hi' with
          | 0, _ => exact g0
          | 1, _ => exact g1
      subst hv
      rcases En.pr.2 with e | ⟨_, _, m, hm⟩
      · exact (hne e).elim
      refine (h s sep m w hs hm).mono ?_
      rintro e w' ⟨rfl, n, rfl⟩
      obtain ⟨d1, d2, d3, d4⟩ := drewN_heap n w
      refine ⟨_, E0, fun _ => none, rfl, d2, d3, d4, by rw [d1]; exact Nat.le_refl _, fun b _ _ => by rw [d1], fun v l h => h, fun q b cap sz h => (by cases h), fun q q' b cap sz cap' sz' h => (by cases h), ?_, fun p ob ob' l h => (by simp [get] at h)⟩
      exact ⟨.str _, .str _, .bool _, trivial⟩
    · cases hg
  · cases hg
variable {w : World} {H : Type} {enc : TypeId × Value → H}
/-- 'lift_row' at a world whose shape is known: a package's whole number may be read -/
theorem lift_rowS {C : Checked} {M : Nat → Option Body} {os : Os} {fn : Func} {s : ChangeSpec} {conds : List PathCond} {rt : TypeId} (hM : TableOk C.prog F M) (law f : Nat) (ks : List Ak) (own : ownKnob C.prog.godebug = none) (started : os.Started)
    (noInit : C.prog.inits.idxOf? (F law) = none) (hfn : C.prog.funcs[F law]? = some fn)
    (witness : ∃ (w : World) (tape : Tape) (i : Input), w.os = os ∧ (w.forCall tape i).Shaped C.prog ∧ i.vars = [] ∧ Input.okWide C.prog (w.forCall tape i) .any w.heap.size (F law) i ∧
      s.pre6 enc C.prog fn conds false (w.forCall tape i).memory i.args ∧ ({} : Assume).holds C.prog (lone (Frame.enter C.prog (F law) i.args .normal) [] (w.forCall tape i)))
    (hl : laidOutB C.prog = true) (hargs : okArgs C.prog f ks fn.params.toList = true) (hres : fn.resultTypes = #[rt]) (hrt : C.prog.underlying rt = some .bool) (hvars : s.vars = [])
    (hspec : ∀ ds : List (DataW H), ds.length = ks.length → s.fn H (ds ++ []) = { results := [.lit (.bool true)], args := ds })
    (hrun : ∀ as, HasVs ks as → run M law as [] = some (.c (.bool true), [])) (hG : ∀ W : World, W.ShapedOpen C.prog → ∃ m, W.cell? ⟨F 999999, 0, none⟩ = some (.int .i64 m)) :
    ReturnsInHanded {} C os (F law) .any (s.pre6 enc C.prog fn conds false) (s.post enc C.prog fn false true false false) := by
  refine returnsInHanded_of_change_shaped (C := C) own started noInit hfn witness ?_
  intro W base args ds gs before hval hW _ _ hsh _
  have hW' := hW
  obtain ⟨p, q, hA, hV, rfl, _, _⟩ := hW
  have hlt : ∀ x ∈ p, x.block < W.heap.size := fun x hx => hW'.lt x (List.mem_append_left _ hx)
  rw [hvars] at hV
  obtain ⟨rfl, rfl⟩ := trodVars_none hV
  obtain ⟨as, h1, h2, h3, h4⟩ := args_typed (F := F) ks _ _ ds p hargs hA (fun j t v k1 k2 => hval j t v (by simpa using k1) (by simpa using k2))
  obtain ⟨m, hm⟩ := hG W hsh
  have hlow : F 999999 < W.heap.size := by
    by_cases c : F 999999 < W.heap.size
    · exact c
    · have : W.heap[F 999999]? = none := by simp [Array.getElem?_eq_none_iff]; exact Nat.le_of_not_lt c
      simp only [World.cell?, this] at hm
      cases hm
  refine (row_calls hM (f := law) (b := true) (hrun as h1) (.inr ⟨hlow, fun h => h, m, hm⟩) (vals := args) (w := W) (by simpa using h2) (fun i v x k1 k2 => h4 i v x k1 (by simpa using k2))).mono fun e W' ⟨he, bel⟩ => ?_
  subst he
  have hb := trod_below hl bel ks _ _ ds p hargs hA hlt
  refine ⟨_, rfl, ds, [], p ++ [], [], p, [], hW', ?_, ?_, ?_, bel.frame _, fun h => by cases h⟩
  · rw [hspec ds h3, hres]
    exact trodAll_mk1 (shut_bool hrt _)
  · rw [hspec ds h3]
    exact hb
  · rw [hspec ds h3, hvars]
    rfl
end Mx
