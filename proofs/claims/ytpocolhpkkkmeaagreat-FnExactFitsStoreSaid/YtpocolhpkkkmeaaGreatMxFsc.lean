/-
  What more of the functions compute, each by a small evaluation; no condition beyond what each says.
-/
import Derived.Sort.Row
import Derived.Sort.Grow
import Derived.Lib.SlicesCompact
import Derived.Test.YtpocolhpkkkmeaaGreatMxFsb
set_option linter.unusedSimpArgs false
set_option linter.unusedVariables false
namespace Mx
open Go
variable {M : Nat → Option Body}
/-- a cell that all may read -/
def closedT : T → Bool
  | .int .. => true
  | .bool _ => true
  | .str _ => true
  | .sl own _ _ => !own
  | _ => false
/-- as the caller sees it -/
def frz : T → T
  | .sl _ sz rows => .sl false sz rows
  | t => t
def resT : T → Bool
  | .int .. => true
  | .bool _ => true
  | .str _ => true
  | .sl .. => true
  | _ => false
theorem im_closed {o : List (Nat × Ob)} {t : T} (h : closedT t = true) : im o t = some t ∧ wr3 o t = [] ∧ cl o t = some t := by
  cases t <;> simp [closedT] at h <;> simp [im, im1, im0, wr3, wr2, wr, cl, h]
theorem im_closedL {o : List (Nat × Ob)} {r : List T} (h : r.all closedT = true) : mapO (im o) r = some r ∧ r.flatMap (wr3 o) = [] ∧ mapO (cl o) r = some r := by
  induction r with
  | nil => exact ⟨rfl, rfl, rfl⟩
  | cons t r ih =>
    simp only [List.all_cons, Bool.and_eq_true] at h
    obtain ⟨h1, h2, h3⟩ := ih h.2
    obtain ⟨k1, k2, k3⟩ := im_closed (o := o) h.1
    simp only [mapO, h1, h3, k1, k3, k2, h2, List.flatMap_cons, List.append_nil, and_self]
theorem back_frz {n : Nat} {l : List (Nat × Nat × Nat)} {r : List T} (h : r.all resT = true) (q : Nat) : backL n l [] q r = some (r.map frz, []) := by
  induction r generalizing q with
  | nil => rfl
  | cons t r ih =>
    simp only [List.all_cons, Bool.and_eq_true] at h
    have h1 := ih h.2 (q + 1)
    cases t <;> simp [resT] at h <;> simp [backL, backT, get, h1, frz]
/-- a call with one row, back with one row -/
theorem call_row {n : Nat} {o : List (Nat × Ob)} {f : Nat} {r r' : List T} (hr : r.all closedT = true) (hr' : r'.all resT = true) (h : run M f [.a r] [] = some (.a r', [])) :
    doCall (run M) n o f [.a r] [] [] = some (.a (r'.map frz), []) := by
  obtain ⟨h1, h2, _⟩ := im_closedL (o := o) hr
  simp [doCall, args, lendsC, V.im, V.wr, h1, h2, h, lentBack, back, backV, back_frz hr']
theorem call_rows2 {n : Nat} {o : List (Nat × Ob)} {f : Nat} {r s : List T} {b : Bool} (hr : r.all closedT = true) (hs : s.all closedT = true) (h : run M f [.a r, .a s] [] = some (.c (.bool b), [])) :
    doCall (run M) n o f [.a r, .a s] [] [] = some (.c (.bool b), []) := by
  obtain ⟨h1, h2, _⟩ := im_closedL (o := o) hr
  obtain ⟨k1, k2, _⟩ := im_closedL (o := o) hs
  simp [doCall, args, lendsC, V.im, V.wr, h1, h2, k1, k2, h, lentBack, back, backV, backT]
theorem set_row {α : Type} (a : List α) (x : α) (b : List α) (n : Nat) (h : a.length = n) (y : α) : (a ++ x :: b).set n y = a ++ y :: b := by
  subst h; simp
theorem get_row {α : Type} (a : List α) (x : α) (b : List α) (n : Nat) (h : a.length = n) : (a ++ x :: b)[n]? = some x := by
  subst h; simp
theorem keep_any (ks : List Nat) : keep ks ([] : List (Nat × Ob)) = [] := by
  induction ks with
  | nil => rfl
  | cons k ks ih => simp [keep_cons, get, ih]
def toSl (n f : Nat) : C := .seq (.seq (.reg [⟨some 8, .mv (.t 4), none⟩,
    ⟨some 9, .mv (.t 0), none⟩,
    ⟨some 10, .len (.t 9), none⟩,
    ⟨some 11, .bin .lss (.t 8) (.t 10), none⟩] [0, 3, 4, 11] [7])
  (.cond (.t 11) (.skip) (.exit 0)))
  (.seq (.block 1 (.reg [⟨some 14, .mv (.t 3), none⟩,
    ⟨some 15, .mv (.t 4), none⟩,
    ⟨some 16, .mv (.t 0), none⟩,
    ⟨some 17, .mv (.t 4), none⟩,
    ⟨some 18, .iaddr n (.t 16) (.t 17), none⟩,
    ⟨some 19, .load true n (.t 18), none⟩,
    ⟨some 20, .call f [.t 19] [] [], none⟩,
    ⟨some 21, .iaddr n (.t 14) (.t 15), none⟩,
    ⟨none, .store n (.t 21) (.t 20), none⟩] [0, 3, 4] [7]))
  (.reg [⟨some 12, .mv (.t 4), none⟩,
    ⟨some 13, .bin .add (.t 12) (.k (.int .i64 1)), none⟩,
    ⟨some 4, .mv (.t 13), none⟩] [0, 3, 4] [7]))
def toSb (n by' : Nat) (z : List T) (f : Nat) : C := .seq (.reg [⟨some 2, .nil n, none⟩] [0] [])
  (.seq (.reg [⟨some 5, .mv (.t 0), none⟩,
    ⟨some 6, .len (.t 5), none⟩,
    ⟨some 7, .mks n by' z (.t 6), none⟩,
    ⟨some 3, .mv (.t 7), none⟩] [0, 3] [7])
  (.seq (.seq (.reg [⟨some 4, .mv (.k (.int .i64 0)), none⟩] [0, 3, 4] [7])
  (.block 0 (.loop (toSl n f))))
  (.seq (.reg [⟨some 22, .mv (.t 3), none⟩,
    ⟨some 2, .mv (.t 22), none⟩] [2] [2, 7])
  (.ret))))
def toSm (n by' : Nat) (z : List T) (f : Nat) : Fn := { np := 1, body := toSb n by' z f, res := [.tmp 2] }
def toSst (n : Nat) (z : List T) (rows : List (List T)) (i : Nat) (x : Nat × Nat) : St :=
  { t := [(0, .c (.sl false n rows)), (3, .c (.row 7 x.1 0 rows.length)), (4, .c (I i))], o := [(7, ⟨x.1, n, true, false, rows.take i ++ List.replicate (rows.length - i) z⟩)], n := x.2 }
theorem toS_says {F n by' : Nat} {z : List T} {f : Nat} (h : M F = some (.code (toSm n by' z f))) (hz : z.length = n) {rows : List (List T)} (hl : rows.length ≤ 1048576) (hby : by' ≤ 4096) 
    (he : ∀ r ∈ rows, r.length = n ∧ r.all closedT = true ∧ ∃ r', run M f [.a r] [] = some (.a r', []) ∧ r'.all resT = true ∧ r'.map frz = r) :
    run M F [.c (.sl false n rows)] [] = some (.c (.sl true n rows), []) := by
  refine run_code (b := toSm n by' z f) h ⟨rows.length + 1, ?_⟩
  obtain ⟨g, hr⟩ := loop_all (f := exC (run M) (rows.length + 1) (toSl n f)) (toSst n z rows) (fun i => i ≤ rows.length) (fun i => rows.length - i) (fun _ => ())
    (fun _ (m : Nat × Nat) => (.exit 0, { t := [(0, .c (.sl false n rows)), (3, .c (.row 7 m.1 0 rows.length)), (4, .c (I rows.length)), (11, .c (.bool false))], o := [(7, ⟨m.1, n, true, false, rows⟩)], n := m.2 }))
    (by
      rintro i ⟨v, x⟩ hi
      by_cases hlt : i < rows.length
      · have e5 : IntKind.i64.wrap ((i : Int) + 1) = (i : Int) + 1 := wrap_i64 (by omega) (by omega)
        obtain ⟨k1, k2, r', k3, k4, k5⟩ := he rows[i] (List.getElem_mem hlt)
        have hc := fun nn => call_row (n := nn) (o := [(7, (⟨v, n, true, false, rows.take i ++ List.replicate (rows.length - i) z⟩ : Ob))]) k2 k4 k3
        rw [k5] at hc
        have hti : (rows.take i).length = i := by simp; omega
        have hrep : List.replicate (rows.length - i) z = z :: List.replicate (rows.length - (i + 1)) z := by
          rw [show rows.length - i = (rows.length - (i + 1)) + 1 by omega, List.replicate_succ]
        have h3 : (rows.take i ++ List.replicate (rows.length - i) z)[i]? = some z := by
          rw [hrep]; exact get_row _ _ _ _ hti
        have h3' : ∀ h, (rows.take i ++ List.replicate (rows.length - i) z)[i]'h = z := fun h => by rw [List.getElem?_eq_getElem h] at h3; exact Option.some.inj h3
        have h4 : (rows.take i ++ List.replicate (rows.length - i) z).set i rows[i] = rows.take (i + 1) ++ List.replicate (rows.length - (i + 1)) z := by
          rw [hrep, set_row _ _ _ _ hti, List.take_succ_eq_append_getElem hlt, List.append_assoc]; rfl
        have h5 : i < (rows.take i ++ List.replicate (rows.length - i) z).length := by simp; omega
        have h6 : (List.take n rows[i]) = rows[i] := List.take_of_length_le (by omega)
        have h7 : setAt z 0 rows[i] = rows[i] := by
          simp only [setAt, List.take_zero, List.nil_append, Nat.zero_add]
          rw [List.drop_eq_nil_of_le (by omega), List.append_nil]
        have h8 := (im_closedL (o := [(7, (⟨v, n, true, false, rows.take i ++ List.replicate (rows.length - i) z⟩ : Ob))]) k2).2.2
        have h9 : n ≤ z.length := by omega
        obtain ⟨y, hy⟩ : ∃ y, exC (run M) (rows.length + 1) (toSl n f) (toSst n z rows i (v, x)) = some (.normal, toSst n z rows (i + 1) y) := by
          simp only [Prod.exists]
          simp [toSst, toSl, hlt, e5, k1, hc, h3, h3', h4, h5, h6, h7, h8, h9, -doCall, -setAt]
        exact .inl ⟨i + 1, y, hy, hlt, by omega, rfl⟩
      · have : i = rows.length := by omega
        subst this
        exact .inr ⟨(v, x + 64), by simp [toSst, toSl], by simp⟩)
    (rows.length + 1) 0 (Nat.zero_le _) (by omega)
  have c1 : rows.length ≤ 4294967296 := by omega
  have c2 : by' * rows.length ≤ 140737488355328 := Nat.le_trans (Nat.mul_le_mul hby hl) (by decide)
  simp [toSst] at hr
  simp [exB, toSm, toSb, List.range_succ, hr, c1, c2, List.take_of_length_le]
def toS1l : C := .seq (.seq (.reg [⟨some 8, .mv (.t 4), none⟩,
    ⟨some 9, .mv (.t 0), none⟩,
    ⟨some 10, .len (.t 9), none⟩,
    ⟨some 11, .bin .lss (.t 8) (.t 10), none⟩] [0, 3, 4, 11] [7])
  (.cond (.t 11) (.skip) (.exit 0)))
  (.seq (.block 1 (.reg [⟨some 14, .mv (.t 3), none⟩,
    ⟨some 15, .mv (.t 4), none⟩,
    ⟨some 16, .mv (.t 0), none⟩,
    ⟨some 17, .mv (.t 4), none⟩,
    ⟨some 18, .iaddr 1 (.t 16) (.t 17), none⟩,
    ⟨some 19, .load false 1 (.t 18), none⟩,
    ⟨some 20, .iaddr 1 (.t 14) (.t 15), none⟩,
    ⟨none, .store 1 (.t 20) (.t 19), none⟩] [0, 3, 4] [7]))
  (.reg [⟨some 12, .mv (.t 4), none⟩,
    ⟨some 13, .bin .add (.t 12) (.k (.int .i64 1)), none⟩,
    ⟨some 4, .mv (.t 13), none⟩] [0, 3, 4] [7]))
def toS1b (by' : Nat) (z : T) : C := .seq (.reg [⟨some 2, .nil 1, none⟩] [0] [])
  (.seq (.reg [⟨some 5, .mv (.t 0), none⟩,
    ⟨some 6, .len (.t 5), none⟩,
    ⟨some 7, .mks 1 by' [z] (.t 6), none⟩,
    ⟨some 3, .mv (.t 7), none⟩] [0, 3] [7])
  (.seq (.seq (.reg [⟨some 4, .mv (.k (.int .i64 0)), none⟩] [0, 3, 4] [7])
  (.block 0 (.loop toS1l)))
  (.seq (.reg [⟨some 21, .mv (.t 3), none⟩,
    ⟨some 2, .mv (.t 21), none⟩] [2] [2, 7])
  (.ret))))
def toS1m (by' : Nat) (z : T) : Fn := { np := 1, body := toS1b by' z, res := [.tmp 2] }
theorem toS1_says {F by' : Nat} {z : T} (h : M F = some (.code (toS1m by' z))) {l : List T} (hl : l.length ≤ 1048576) (hby : by' ≤ 4096) (he : ∀ t ∈ l, closedT t = true) :
    run M F [.c (.sl false 1 (l.map fun t => [t]))] [] = some (.c (.sl true 1 (l.map fun t => [t])), []) := by
  refine run_code (b := toS1m by' z) h ⟨l.length + 1, ?_⟩
  obtain ⟨rows, hrows⟩ : ∃ rows, rows = l.map fun t => [t] := ⟨_, rfl⟩
  have hlen : rows.length = l.length := by rw [hrows]; simp
  rw [← hrows]
  obtain ⟨g, hr⟩ := loop_all (f := exC (run M) (l.length + 1) toS1l) (toSst 1 [z] rows) (fun i => i ≤ rows.length) (fun i => rows.length - i) (fun _ => ())
    (fun _ (m : Nat × Nat) => (.exit 0, { t := [(0, .c (.sl false 1 rows)), (3, .c (.row 7 m.1 0 rows.length)), (4, .c (I rows.length)), (11, .c (.bool false))], o := [(7, ⟨m.1, 1, true, false, rows⟩)], n := m.2 }))
    (by
      rintro i ⟨v, x⟩ hi
      by_cases hlt : i < rows.length
      · have e5 : IntKind.i64.wrap ((i : Int) + 1) = (i : Int) + 1 := wrap_i64 (by omega) (by omega)
        have hlt' : i < l.length := by omega
        have k0 : rows[i] = [l[i]] := by simp [hrows]
        have h8 := (im_closed (o := [(7, (⟨v, 1, true, false, rows.take i ++ List.replicate (rows.length - i) [z]⟩ : Ob))]) (he l[i] (List.getElem_mem hlt'))).2.2
        have hti : (rows.take i).length = i := by simp; omega
        have hrep : List.replicate (rows.length - i) [z] = [z] :: List.replicate (rows.length - (i + 1)) [z] := by
          rw [show rows.length - i = (rows.length - (i + 1)) + 1 by omega, List.replicate_succ]
        have h3 : (rows.take i ++ List.replicate (rows.length - i) [z])[i]? = some [z] := by
          rw [hrep]; exact get_row _ _ _ _ hti
        have h3' : ∀ h, (rows.take i ++ List.replicate (rows.length - i) [z])[i]'h = [z] := fun h => by rw [List.getElem?_eq_getElem h] at h3; exact Option.some.inj h3
        have h4 : (rows.take i ++ List.replicate (rows.length - i) [z]).set i [l[i]] = rows.take (i + 1) ++ List.replicate (rows.length - (i + 1)) [z] := by
          rw [hrep, set_row _ _ _ _ hti, List.take_succ_eq_append_getElem hlt, List.append_assoc, k0]; rfl
        have h5 : i < (rows.take i ++ List.replicate (rows.length - i) [z]).length := by simp; omega
        obtain ⟨y, hy⟩ : ∃ y, exC (run M) (l.length + 1) toS1l (toSst 1 [z] rows i (v, x)) = some (.normal, toSst 1 [z] rows (i + 1) y) := by
          simp only [Prod.exists]
          simp [toSst, toS1l, hlt, e5, k0, h3, h3', h4, h5, h8, setAt, -cl]
        exact .inl ⟨i + 1, y, hy, hlt, by omega, rfl⟩
      · have : i = rows.length := by omega
        subst this
        exact .inr ⟨(v, x + 64), by simp [toSst, toS1l], by simp⟩)
    (l.length + 1) 0 (Nat.zero_le _) (by omega)
  have c1 : rows.length ≤ 4294967296 := by omega
  have c2 : by' * rows.length ≤ 140737488355328 := Nat.le_trans (Nat.mul_le_mul hby (by omega : rows.length ≤ 1048576)) (by decide)
  simp [toSst] at hr
  simp [exB, toS1m, toS1b, List.range_succ, hr, c1, c2, List.take_of_length_le]
def eqSl (n f : Nat) : C := .seq (.seq (.reg [⟨some 11, .mv (.t 5), none⟩,
    ⟨some 12, .mv (.t 0), none⟩,
    ⟨some 13, .len (.t 12), none⟩,
    ⟨some 14, .bin .lss (.t 11) (.t 13), none⟩] [0, 1, 5, 14] [])
  (.cond (.t 14) (.skip) (.exit 0)))
  (.seq (.block 1 (.seq (.regd [⟨some 17, .mv (.t 0), none⟩,
    ⟨some 18, .mv (.t 5), none⟩,
    ⟨some 19, .iaddr n (.t 17) (.t 18), none⟩,
    ⟨some 20, .load true n (.t 19), none⟩,
    ⟨some 21, .mv (.t 1), none⟩,
    ⟨some 22, .mv (.t 5), none⟩,
    ⟨some 23, .iaddr n (.t 21) (.t 22), none⟩,
    ⟨some 24, .load true n (.t 23), none⟩,
    ⟨some 25, .call f [.t 20, .t 24] [] [], none⟩,
    ⟨some 26, .not (.t 25), none⟩] [[], [], [0, 1], [0, 1, 2], [], [], [4, 5], [4, 5, 6], [0, 1, 2, 3, 4, 5, 6, 7], [0, 1, 2, 3, 4, 5, 6, 7, 8]] [0, 1, 5, 26] [])
  (.cond (.t 26) (.seq (.reg [⟨some 4, .mv (.k (.bool false)), none⟩] [4] [])
  (.ret)) (.skip))))
  (.reg [⟨some 15, .mv (.t 5), none⟩,
    ⟨some 16, .bin .add (.t 15) (.k (.int .i64 1)), none⟩,
    ⟨some 5, .mv (.t 16), none⟩] [0, 1, 5] []))
def eqSb (n f : Nat) : C := .seq (.reg [⟨some 4, .mv (.k (.bool false)), none⟩] [0, 1] [])
  (.seq (.seq (.reg [⟨some 6, .mv (.t 0), none⟩,
    ⟨some 7, .len (.t 6), none⟩,
    ⟨some 8, .mv (.t 1), none⟩,
    ⟨some 9, .len (.t 8), none⟩,
    ⟨some 10, .bin .neq (.t 7) (.t 9), none⟩] [0, 1, 10] [])
  (.cond (.t 10) (.seq (.reg [⟨some 4, .mv (.k (.bool false)), none⟩] [4] [])
  (.ret)) (.skip)))
  (.seq (.seq (.reg [⟨some 5, .mv (.k (.int .i64 0)), none⟩] [0, 1, 5] [])
  (.block 0 (.loop (eqSl n f))))
  (.seq (.reg [⟨some 4, .mv (.k (.bool true)), none⟩] [4] [])
  (.ret))))
def eqSm (n f : Nat) : Fn := { np := 2, body := eqSb n f, res := [.tmp 4] }
def eqSst (n : Nat) (rows : List (List T)) (i : Nat) (x : Nat) : St := { t := [(0, .c (.sl false n rows)), (1, .c (.sl false n rows)), (5, .c (I i))], o := [], n := x }
theorem eqS_says {F n f : Nat} (h : M F = some (.code (eqSm n f))) {rows : List (List T)} (hl : rows.length ≤ 4611686018427387904)
    (he : ∀ r ∈ rows, r.length = n ∧ r.all closedT = true ∧ run M f [.a r, .a r] [] = some (.c (.bool true), [])) :
    run M F [.c (.sl false n rows), .c (.sl false n rows)] [] = some (.c (.bool true), []) := by
  refine run_code (b := eqSm n f) h ⟨rows.length + 1, ?_⟩
  obtain ⟨g, hr⟩ := loop_all (f := exC (run M) (rows.length + 1) (eqSl n f)) (eqSst n rows) (fun i => i ≤ rows.length) (fun i => rows.length - i) (fun _ => ())
    (fun _ m => (.exit 0, { t := [(0, .c (.sl false n rows)), (1, .c (.sl false n rows)), (5, .c (I rows.length)), (14, .c (.bool false))], o := [], n := m }))
    (by
      intro i x hi
      by_cases hlt : i < rows.length
      · have e5 : IntKind.i64.wrap ((i : Int) + 1) = (i : Int) + 1 := wrap_i64 (by omega) (by omega)
        obtain ⟨k1, k2, k3⟩ := he rows[i] (List.getElem_mem hlt)
        have hc := fun nn => call_rows2 (n := nn) (o := []) k2 k2 k3
        have h6 : (List.take n rows[i]) = rows[i] := List.take_of_length_le (by omega)
        obtain ⟨y, hy⟩ : ∃ y, exC (run M) (rows.length + 1) (eqSl n f) (eqSst n rows i x) = some (.normal, eqSst n rows (i + 1) y) := by
          simp [eqSst, eqSl, hlt, e5, k1, hc, h6, keep_any, -doCall]
        exact .inl ⟨i + 1, y, hy, hlt, by omega, rfl⟩
      · have : i = rows.length := by omega
        subst this
        exact .inr ⟨x + 64, by simp [eqSst, eqSl], by simp⟩)
    (rows.length + 1) 0 (Nat.zero_le _) (by omega)
  simp [eqSst] at hr
  simp [exB, eqSm, eqSb, List.range_succ, hr]
end Mx

namespace Mx
open Go
variable {M : Nat → Option Body}
def irow (l : List Int) : List (List T) := l.map fun n => [I n]
abbrev ints (l : List Int) : T := .sl false 1 (irow l)
theorem irow_len (l : List Int) : (irow l).length = l.length := by simp [irow]
theorem irow_at (l : List Int) (i : Nat) (h : i < (irow l).length) : (irow l)[i] = [I (l[i]'(by simpa [irow] using h))] := by simp [irow]
theorem irow_append (a b : List Int) : irow a ++ irow b = irow (a ++ b) := by simp [irow]
theorem irow_nil : irow [] = [] := rfl
theorem irow_take (l : List Int) (n : Nat) : (irow l).take n = irow (l.take n) := by simp [irow]
attribute [simp] irow_len irow_at irow_append irow_nil irow_take
/-- k, k+1, .. -/
def upto (k : Int) : Nat → List Int
  | 0 => []
  | n + 1 => upto k n ++ [k + n]
theorem upto_len (k : Int) (n : Nat) : (upto k n).length = n := by
  induction n with
  | zero => rfl
  | succ n ih => simp [upto, ih]
attribute [simp] upto_len
def eqI (l : List Int) (i : Nat) (x : Nat) : St := { t := [(0, .c (ints l)), (1, .c (ints l)), (5, .c (I i))], o := [], n := x }
theorem laws_eqIntS.says (h : laws_eqIntS.k M) (l : List Int) (hl : l.length ≤ 4611686018427387904) : run M 45 [.c (ints l), .c (ints l)] [] = some (.c (.bool true), []) := by
  refine run_code (b := laws_eqIntS.m) h ⟨l.length + 1, ?_⟩
  obtain ⟨g, hr⟩ := loop_all (f := exC (run M) (l.length + 1) laws_eqIntS.l0) (eqI l) (fun i => i ≤ l.length) (fun i => l.length - i) (fun _ => ())
    (fun _ m => (.exit 0, { t := [(0, .c (ints l)), (1, .c (ints l)), (5, .c (I l.length)), (14, .c (.bool false))], o := [], n := m }))
    (by
      intro i x hi
      by_cases hlt : i < l.length
      · have e5 : IntKind.i64.wrap ((i : Int) + 1) = (i : Int) + 1 := wrap_i64 (by omega) (by omega)
        obtain ⟨y, hy⟩ : ∃ y, exC (run M) (l.length + 1) laws_eqIntS.l0 (eqI l i x) = some (.normal, eqI l (i + 1) y) := by simp [eqI, laws_eqIntS.l0, hlt, e5]
        exact .inl ⟨i + 1, y, hy, hlt, by omega, rfl⟩
      · have : i = l.length := by omega
        subst this
        exact .inr ⟨x + 64, by simp [eqI, laws_eqIntS.l0], by simp⟩)
    (l.length + 1) 0 (Nat.zero_le _) (by omega)
  simp [eqI] at hr
  simp [exB, laws_eqIntS.m, laws_eqIntS.b, List.range_succ, hr]
theorem irow_flat (l : List Int) : (irow l).all (fun r => r.all T.scalar) = true := by
  simp only [irow, List.all_map, List.all_eq_true]
  intro n _; rfl
attribute [simp] irow_flat
theorem laws_toIntS.says (h : laws_toIntS.k M) (l : List Int) (hl : l.length ≤ 1048576) : run M 42 [.c (ints l)] [] = some (.c (.sl true 1 (irow l)), []) := by
  have := toS1_says (M := M) (F := 42) (by' := 8) (z := .int .i64 0) h (l := l.map I) (by simpa using hl) (by omega) (fun t ht => by obtain ⟨n, _, rfl⟩ := List.mem_map.1 ht; rfl)
  rw [List.map_map] at this
  exact this
theorem laws_szIntS.says (h : laws_szIntS.k M) (l : List Int) (hl : l.length ≤ 9223372036854775807) (n : Int) (hn : 0 ≤ n) (hn' : n ≤ 9223372036854775807) : run M 108 [.c (ints l), .c (I n)] [] = some (.c (I (if n < l.length then -1 else n - l.length)), []) := by
  refine run_code (b := laws_szIntS.m) h ⟨0, ?_⟩
  have e5 : IntKind.i64.wrap (n - (l.length : Int)) = n - (l.length : Int) := wrap_i64 (by omega) (by omega)
  by_cases hc : n < l.length
  · have h1 : n - (l.length : Int) < 0 := by omega
    simp [exB, laws_szIntS.m, laws_szIntS.b, List.range_succ, e5, h1, hc]
  · have h1 : ¬ n - (l.length : Int) < 0 := by omega
    simp [exB, laws_szIntS.m, laws_szIntS.b, List.range_succ, e5, h1, hc]
end Mx

namespace Mx
open Go
variable {P : Program} {F : Nat → FuncId}
def rowsInts (rows : List (List T)) : Option (List Int) := mapO (fun (r : List T) => match r with
  | [.int .i64 n] => some n
  | _ => none) rows
theorem rowsInts_ok : ∀ {rows : List (List T)} {zs : List Int}, rowsInts rows = some zs → rows = irow zs
  | [], zs, h => by simp [rowsInts, mapO] at h; subst h; rfl
  | r :: rows, zs, h => by
    simp only [rowsInts, mapO] at h
    split at h
    · rename_i y ys h1 h2
      cases h
      have := rowsInts_ok (rows := rows) (zs := ys) h2
      rw [this]
      split at h1
      · cases h1; rfl
      · cases h1
    · cases h
theorem rowsInts_irow (zs : List Int) : rowsInts (irow zs) = some zs := by
  induction zs with
  | nil => rfl
  | cons z zs ih => unfold rowsInts irow at ih ⊢; simp only [List.map_cons, mapO, ih]
/-- a row of integers that is lent whole -/
def lentInts (as : List V) (lent : List (Nat × Ob)) : Option (List Int) := match as, lent with
  | [.c (.row 0 0 0 len)], [(0, ob)] => match rowsInts ob.rows with
    | some zs => if ob.ver = 0 ∧ ob.sz = 1 ∧ ob.w = true ∧ ob.bx = false ∧ zs.length = len ∧ len ≤ 4294967296 then some zs else none
    | none => none
  | _, _ => none
def sortI (zs : List Int) : List Int := zs.mergeSort fun x y => decide (x ≤ y)
def sortG (as : List V) (lent : List (Nat × Ob)) : Option (V × List (Nat × Ob)) := (lentInts as lent).map fun zs => (.tup [], [(0, ⟨0, 1, true, false, irow (sortI zs)⟩)])
def compactG (as : List V) (lent : List (Nat × Ob)) : Option (V × List (Nat × Ob)) := (lentInts as lent).map fun zs =>
  (.c (.row 0 0 0 (Lib.compact zs).length), [(0, ⟨0, 1, true, false, irow (Lib.compact zs ++ List.replicate (zs.length - (Lib.compact zs).length) 0)⟩)])
theorem lentInts_ok {as : List V} {lent : List (Nat × Ob)} {zs : List Int} (h : lentInts as lent = some zs) : as = [.c (.row 0 0 0 zs.length)] ∧ lent = [(0, ⟨0, 1, true, false, irow zs⟩)] ∧ zs.length ≤ 4294967296 := by
  unfold lentInts at h
  split at h
  · rename_i len ob
    split at h
    · rename_i zs' hz
      split at h
      · rename_i hc
        cases h
        obtain ⟨h1, h2, h3, h4, h5, h6⟩ := hc
        subst h5
        refine ⟨rfl, ?_, h6⟩
        have := rowsInts_ok hz
        obtain ⟨ver, sz, w, bx, rows⟩ := ob
        simp only at h1 h2 h3 h4 this
        subst h1 h2 h3 h4 this
        rfl
      · cases h
    · cases h
  · cases h
/-- where that row lies -/
inductive RowAt (F : Nat → FuncId) (Pr : Nat → Prop) (E0 : Nat → Option Loc) (zs : List Int) (vals : Array Value) (w : World) : Prop where
  | none (hz : zs = []) (hv : vals = #[.slice none 0 0]) (hE : E0 0 = some .nil) : RowAt F Pr E0 zs vals w
  | blk (b cap : Nat) (cs : Array Value) (e : TypeId) (fr : Nat × Nat) (hE : E0 0 = some (.blk b cap 1)) (hv : vals = #[.slice (some ⟨b, 0, none⟩) zs.length cap]) (hh : w.heap[b]? = some (.cells cs e fr)) (hs : cs.size = cap)
      (hf : ∀ o, o < cs.size → ¬ (fr.1 ≤ o ∧ o < fr.2)) (hl : zs.length ≤ cap) (hc : ∀ (i : Nat) (z : Int), zs[i]? = some z → cs[i]? = some (.int .i64 z)) : RowAt F Pr E0 zs vals w
theorem irow_cell {zs : List Int} {i j : Nat} {r : List T} {t : T} (hi : (irow zs)[i]? = some r) (hj : r[j]? = some t) : j = 0 ∧ ∃ z, zs[i]? = some z ∧ t = .int .i64 z := by
  simp only [irow, List.getElem?_map, Option.map_eq_some_iff] at hi
  obtain ⟨z, hz, rfl⟩ := hi
  cases j with
  | zero => simp at hj; exact ⟨rfl, z, hz, hj.symm⟩
  | succ j => simp at hj
theorem rowAt {Pr : Nat → Prop} {E0 : Nat → Option Loc} {zs : List Int} {vals : Array Value} {w : World}
    (En : Entry F Pr E0 [.c (.row 0 0 0 zs.length)] [(0, ⟨0, 1, true, false, irow zs⟩)] vals w) : RowAt F Pr E0 zs vals w := by
  obtain ⟨len, hq⟩ : ∃ len, len = zs.length := ⟨_, rfl⟩
  rw [← hq] at En
  have hn : vals.size = 1 := En.n.symm
  obtain ⟨x, hx⟩ : ∃ x, vals = #[x] := by
    obtain ⟨l⟩ := vals
    match l, hn with
    | [x], _ => exact ⟨x, rfl⟩
  subst hx
  have ha := En.args 0 _ x rfl rfl
  obtain ⟨_, _, _, l, hl, hr⟩ := En.objs 0 _ (by simp [get]; rfl)
  cases ha with
  | c _ _ ha =>
    cases ha with
    | row _ _ _ _ cap sz b hE hlen ho =>
      have hE' : E0 0 = some (.blk b cap sz) := hE
      rw [hE'] at hl; cases hl
      subst hq
      obtain ⟨e1, hob⟩ := hr
      simp only at e1
      subst e1
      obtain ⟨h1, h2, h3, cs, e, fr, m1, m2, m3, m4⟩ := hob
      simp only at m2 m4
      refine .blk b cap cs e fr hE (by simp [baseA, Addr.add]) m1 (by omega) m3 (by omega) ?_
      intro i z hz
      have hi : (irow zs)[i]? = some [.int .i64 z] := by simp [irow, hz]
      obtain ⟨v, hv, hrep⟩ := m4 i 0 _ _ hi rfl
      cases hrep
      simpa using hv
    | rown _ _ hE =>
      exact .none (List.eq_nil_of_length_eq_zero hq.symm) rfl hE
/-- memory behind a call that wrote just that row, and perhaps laid more behind -/
theorem rowBack {Pr : Nat → Prop} {E0 : Nat → Option Loc} {zs zs' : List Int} {w w' : World} {b cap : Nat} {cs cs' : Array Value} {e : TypeId} {fr : Nat × Nat} {res : V} {val : Value}
    (hE : E0 0 = some (.blk b cap 1)) (hh : w.heap[b]? = some (.cells cs e fr)) (hs : cs.size = cap) (hf : ∀ o, o < cs.size → ¬ (fr.1 ≤ o ∧ o < fr.2)) (hl : zs.length ≤ cap)
    (hz : zs'.length = zs.length) (h1 : w'.os = w.os) (h2 : w'.tape = w.tape) (h3 : w'.output = w.output) (hsz : w.heap.size ≤ w'.heap.size) (hh' : w'.heap[b]? = some (.cells cs' e fr)) (hs' : cs'.size = cs.size)
    (hfr : ∀ b', b' < w.heap.size → b' ≠ b → w'.heap[b']? = w.heap[b']?) (hc : ∀ (i : Nat) (z : Int), zs'[i]? = some z → cs'[i]? = some (.int .i64 z))
    (hres : ResA (rx F Pr E0 [(0, ⟨0, 1, true, false, irow zs⟩)] E0 (fun _ => none) w') (fun _ => none) [(0, ⟨0, 1, true, false, irow zs⟩)] res val) :
    Back F Pr E0 [(0, ⟨0, 1, true, false, irow zs⟩)] w E0 (fun _ => none) res [(0, ⟨0, 1, true, false, irow zs'⟩)] val w' := by
  refine ⟨h1, h2, h3, hsz, ?_, fun v l h => h, fun q b cap sz h => (by cases h), fun q q' b cap sz cap' sz' h => (by cases h), hres, ?_⟩
  · intro b' hb' hn
    refine hfr b' hb' fun q => hn ⟨0, _, cap, 1, by simp [get]; rfl, ?_⟩
    rw [q]; exact hE
  · intro p ob ob' l hp hp' hEl
    simp only [get] at hp hp'
    split at hp
    · rename_i hp0
      subst hp0
      simp only [if_true] at hp'
      cases hp; cases hp'
      rw [hE] at hEl; cases hEl
      refine ⟨⟨rfl, ?_⟩, ?_⟩
      · refine ⟨by simp [irow]; omega, ?_, ?_, cs', e, fr, hh', by simp only; omega, fun o ho => hf o (by omega), ?_⟩
        · intro i r hi
          simp only [irow, List.getElem?_map, Option.map_eq_some_iff] at hi
          obtain ⟨z, _, rfl⟩ := hi; rfl
        · intro _ i j r t hi hj
          obtain ⟨_, z, _, rfl⟩ := irow_cell hi hj
          exact .int _ _
        · intro i j r t hi hj
          obtain ⟨rfl, z, hz, rfl⟩ := irow_cell hi hj
          refine ⟨.int .i64 z, ?_, .int _ _⟩
          simp only [Nat.mul_one, Nat.add_zero]
          exact hc i z hz
      · intro i j r t hi hj
        obtain ⟨_, z, _, rfl⟩ := irow_cell hi hj
        exact .int _ _
    · simp at hp
theorem rowHolds {zs : List Int} {w : World} {b : Nat} {cs : Array Value} {e : TypeId} {fr : Nat × Nat} {cap : Nat} (hh : w.heap[b]? = some (.cells cs e fr)) (hs : cs.size = cap) (hl : zs.length ≤ cap)
    (hf : ∀ o, o < cs.size → ¬ (fr.1 ≤ o ∧ o < fr.2)) (hc : ∀ (i : Nat) (z : Int), zs[i]? = some z → cs[i]? = some (.int .i64 z)) : Sort.Holds (Value.int .i64) w b 0 zs.toArray := by
  intro j hj
  have hj' : j < zs.length := by simpa using hj
  refine ⟨?_, ?_⟩
  · have := hc j zs[j] (List.getElem?_eq_getElem hj')
    simp only [World.cell?, hh, Option.isSome_none, Bool.false_eq_true, if_false, Nat.zero_add]
    rw [this]
    simp [getElem!_pos, hj']
  · simp only [World.frozen?, hh, Nat.zero_add]
    have := hf j (by omega)
    obtain ⟨lo, hi⟩ := fr
    simp only at this
    simp only [Bool.and_eq_false_iff, decide_eq_false_iff_not]
    omega
theorem putCells_size (off : Nat) (d : Array Int) (c : Array Value) : (Sort.putCells (Value.int .i64) off d c).size = c.size := by simp [Sort.putCells]
theorem putCells_at {zs : List Int} {c : Array Value} {i : Nat} {z : Int} (h : zs[i]? = some z) (hc : i < c.size) : (Sort.putCells (Value.int .i64) 0 zs.toArray c)[i]? = some (.int .i64 z) := by
  have hi : i < zs.length := by
    rcases Nat.lt_or_ge i zs.length with q | q
    · exact q
    · rw [List.getElem?_eq_none q] at h; cases h
  have hz : zs[i]! = z := by rw [getElem!_pos zs i hi]; rw [List.getElem?_eq_getElem hi] at h; exact Option.some.inj h
  simp only [Sort.putCells, Array.getElem?_mapIdx, Array.getElem?_eq_getElem hc, Option.map_some]
  rw [if_pos ⟨Nat.zero_le _, by simpa using hi⟩]
  simp [hz]
theorem putRow_heap (w : World) (b : Nat) (d : Array Int) {cs : Array Value} {e : TypeId} {fr : Nat × Nat} (hh : w.heap[b]? = some (.cells cs e fr)) :
    (Sort.putRow (Value.int .i64) w b 0 d).heap[b]? = some (.cells (Sort.putCells (Value.int .i64) 0 d cs) e fr) ∧ ∀ b', b' ≠ b → (Sort.putRow (Value.int .i64) w b 0 d).heap[b']? = w.heap[b']? := by
  simp only [Sort.putRow, Sort.mapBlock, Array.getElem?_modify]
  refine ⟨by simp [hh, Sort.onCells], fun b' hb => ?_⟩
  rw [if_neg (fun q => hb q.symm)]
theorem grow_heap (w : World) (os : Array Obj) {b : Nat} (hb : b < w.heap.size) : (Sort.grow w os).heap[b]? = w.heap[b]? := by
  simp [Sort.grow, Array.getElem?_append, hb]
theorem ext_sort {f : Nat} (hf : okFn P F f = true)
    (hN : ∀ (p : Option Addr) (cap : Nat) (w : World), Calls P (F f) #[.slice p 0 cap] w fun e w' => e = .returned (.tuple #[]) ∧ w' = w)
    (hS : ∀ (blk off cap : Nat) (zs : List Int) (w : World), Sort.Holds (Value.int .i64) w blk off zs.toArray → blk < w.heap.size → zs.length < 4611686018427387904 → Calls P (F f) #[.slice (some ⟨blk, off, none⟩) zs.length cap] w fun e w' =>
      e = .returned (.tuple #[]) ∧ ∃ n os, w' = Sort.grow (Sort.putRow (Value.int .i64) (Sort.ahead w n) blk off (zs.mergeSort fun x y => decide (x ≤ y)).toArray) os) : ExtOk P F f sortG := by
  intro as lent res after hg
  refine ⟨hf, fun Pr E0 vals w En => ?_⟩
  unfold sortG at hg
  simp only [Option.map_eq_some_iff] at hg
  obtain ⟨zs, hz, hg⟩ := hg
  cases hg
  obtain ⟨rfl, rfl, hlen⟩ := lentInts_ok hz
  cases rowAt En with
  | none h1 h2 h3 =>
    subst h1 h2
    refine (hN none 0 w).mono ?_
    rintro e w' ⟨rfl, rfl⟩
    refine ⟨.tuple #[], E0, fun _ => none, rfl, rfl, rfl, rfl, Nat.le_refl _, fun b _ _ => rfl, fun v l h => h, fun q b cap sz h => (by cases h), fun q q' b cap sz cap' sz' h => (by cases h), by simp [ResA, ResVs], ?_⟩
    intro p ob ob' l hp hp' hE
    simp only [get] at hp hp'
    split at hp
    · rename_i hp0
      subst hp0
      simp only [if_true] at hp'
      cases hp; cases hp'
      rw [h3] at hE; cases hE
      exact ⟨⟨by simp [sortI, irow], rfl⟩, fun i j r t h => by simp [sortI, irow] at h⟩
    · simp at hp
  | blk b cap cs e fr hE hv hh hs hfz hl hc =>
    subst hv
    have hb : b < w.heap.size := by
      rcases Nat.lt_or_ge b w.heap.size with q | q
      · exact q
      · rw [Array.getElem?_eq_none q] at hh; cases hh
    refine (hS b 0 cap zs w (rowHolds hh hs hl hfz hc) hb (by omega)).mono ?_
    rintro e' w' ⟨rfl, n, os, rfl⟩
    refine ⟨.tuple #[], E0, fun _ => none, rfl, ?_⟩
    have hp := putRow_heap (Sort.ahead w n) b (sortI zs).toArray (by simpa using hh)
    have hsl : (sortI zs).length = zs.length := by simp [sortI]
    have hgb : b < (Sort.putRow (Value.int .i64) (Sort.ahead w n) b 0 (sortI zs).toArray).heap.size := by simpa using hb
    refine rowBack (zs' := sortI zs) (cs' := Sort.putCells (Value.int .i64) 0 (sortI zs).toArray cs) hE hh hs hfz hl hsl rfl rfl rfl ?_ ((grow_heap _ os hgb).trans hp.1) (putCells_size _ _ _) ?_ ?_ (by simp [ResA, ResVs])
    · simp [Sort.grow]
    · intro b' hb' hne
      rw [grow_heap _ os (by simpa using hb')]
      exact hp.2 b' hne
    · intro i z hi
      refine putCells_at hi ?_
      have : i < (sortI zs).length := by
        rcases Nat.lt_or_ge i (sortI zs).length with q | q
        · exact q
        · rw [List.getElem?_eq_none q] at hi; cases hi
      omega
theorem ext_compact {f : Nat} (hf : okFn P F f = true)
    (hN : ∀ (p : Option Addr) (cap : Nat) (w : World), Calls P (F f) #[.slice p 0 cap] w fun e w' => e = .returned (.slice p 0 cap) ∧ w' = w)
    (hS : ∀ (blk off cap : Nat) (zs : List Int) (w : World), Sort.Holds (Value.int .i64) w blk off zs.toArray → zs.length ≤ 9223372036854775807 → zs.length ≤ cap → Calls P (F f) #[.slice (some ⟨blk, off, none⟩) zs.length cap] w fun e w' =>
      e = .returned (.slice (some ⟨blk, off, none⟩) (Lib.compact zs).length cap) ∧ ∃ q, w' = Sort.putRow (Value.int .i64) (Sort.ahead w q) blk off (Lib.compact zs ++ List.replicate (zs.length - (Lib.compact zs).length) 0).toArray)
    (hlen : ∀ zs : List Int, (Lib.compact zs).length ≤ zs.length) : ExtOk P F f compactG := by
  intro as lent res after hg
  refine ⟨hf, fun Pr E0 vals w En => ?_⟩
  unfold compactG at hg
  simp only [Option.map_eq_some_iff] at hg
  obtain ⟨zs, hz, hg⟩ := hg
  cases hg
  obtain ⟨rfl, rfl, hlen'⟩ := lentInts_ok hz
  cases rowAt En with
  | none h1 h2 h3 =>
    subst h1 h2
    have hc : Lib.compact ([] : List Int) = [] := List.eq_nil_of_length_eq_zero (Nat.le_zero.1 (hlen []))
    refine (hN none 0 w).mono ?_
    rintro e w' ⟨rfl, rfl⟩
    refine ⟨.slice none 0 0, E0, fun _ => none, rfl, rfl, rfl, rfl, Nat.le_refl _, fun b _ _ => rfl, fun v l h => h, fun q b cap sz h => (by cases h), fun q q' b cap sz cap' sz' h => (by cases h), ?_, ?_⟩
    · simp only [ResA, ResV, hc, List.length_nil]
      exact .row 0 0 0 0 _ fun ob hob => .rown 0 0 h3
    intro p ob ob' l hp hp' hE
    simp only [get] at hp hp'
    split at hp
    · rename_i hp0
      subst hp0
      simp only [if_true] at hp'
      cases hp; cases hp'
      rw [h3] at hE; cases hE
      exact ⟨⟨by simp [hc, irow], rfl⟩, fun i j r t h => by simp [hc, irow] at h⟩
    · simp at hp
  | blk b cap cs e fr hE hv hh hs hfz hl hc =>
    subst hv
    have hb : b < w.heap.size := by
      rcases Nat.lt_or_ge b w.heap.size with q | q
      · exact q
      · rw [Array.getElem?_eq_none q] at hh; cases hh
    refine (hS b 0 cap zs w (rowHolds hh hs hl hfz hc) (by omega) hl).mono ?_
    have hk := hlen zs
    generalize Lib.compact zs = ks at *
    rintro e' w' ⟨rfl, n, rfl⟩
    refine ⟨.slice (some ⟨b, 0, none⟩) ks.length cap, E0, fun _ => none, rfl, ?_⟩
    obtain ⟨zz, hzz⟩ : ∃ zz, zz = ks ++ List.replicate (zs.length - ks.length) 0 := ⟨_, rfl⟩
    have hsl : zz.length = zs.length := by rw [hzz]; simp; omega
    rw [← hzz]
    have hp := putRow_heap (Sort.ahead w n) b zz.toArray (by simpa using hh)
    refine rowBack (zs' := zz) (cs' := Sort.putCells (Value.int .i64) 0 zz.toArray cs) hE hh hs hfz hl hsl rfl rfl rfl (by simp) hp.1 (putCells_size _ _ _) ?_ ?_ ?_
    · intro b' hb' hne
      exact hp.2 b' hne
    · intro i z hi
      refine putCells_at hi ?_
      have : i < zz.length := by
        rcases Nat.lt_or_ge i zz.length with q | q
        · exact q
        · rw [List.getElem?_eq_none q] at hi; cases hi
      omega
    · simp only [ResA, ResV]
      refine .row 0 0 0 ks.length _ fun ob hob => ?_
      have := Rep.row (X := rx F Pr E0 [(0, ⟨0, 1, true, false, irow zs⟩)] E0 (fun _ => none) (Sort.putRow (Value.int .i64) (Sort.ahead w n) b 0 zz.toArray)) 0 0 0 ks.length cap 1 b hE (by omega) (.inr rfl)
      simpa [baseA, Addr.add] using this
/-- a table of codes and of contracts, at any arguments -/
def tabZ (tab : List (Nat × Fn)) (ext : List (Nat × (List V → List (Nat × Ob) → Option (V × List (Nat × Ob))))) (f : Nat) : Option Body := match get tab f with
  | some b => some (.code b)
  | none => (get ext f).map fun g => .ext g
theorem table_extz {tab : List (Nat × Fn)} {ext : List (Nat × (List V → List (Nat × Ob) → Option (V × List (Nat × Ob))))} (h : ∀ p ∈ tab, okFunc P F p.1 p.2 = true) (hx : ∀ p ∈ ext, ExtOk P F p.1 p.2) : TableOk P F (tabZ tab ext) := by
  intro f
  unfold tabZ
  cases hg : get tab f with
  | some b => exact h _ (get_mem hg)
  | none =>
    cases hq : get ext f with
    | none => simp
    | some g => exact hx _ (get_mem hq)
end Mx

namespace Mx
open Go
def spec_l06Put.l0 : C := .seq (.seq (.reg [⟨some 9, .mv (.t 6), none⟩,
    ⟨some 10, .mv (.t 0), none⟩,
    ⟨some 11, .len (.t 10), none⟩,
    ⟨some 12, .bin .lss (.t 9) (.t 11), none⟩] [0, 1, 5, 6, 12] [8, 27, 31, 50])
  (.cond (.t 12) (.skip) (.exit 0)))
  (.seq (.block 1 (.seq (.reg [⟨some 15, .mv (.t 0), none⟩,
    ⟨some 16, .mv (.t 6), none⟩,
    ⟨some 17, .iaddr 1 (.t 15) (.t 16), none⟩,
    ⟨some 18, .load false 1 (.t 17), none⟩,
    ⟨some 19, .mv (.t 1), none⟩,
    ⟨some 20, .bin .lss (.t 18) (.t 19), none⟩] [0, 1, 5, 6, 20] [8, 27, 31, 50])
  (.cond (.t 20) (.reg [⟨some 21, .mv (.t 5), none⟩,
    ⟨some 22, .mv (.t 0), none⟩,
    ⟨some 23, .mv (.t 6), none⟩,
    ⟨some 24, .iaddr 1 (.t 22) (.t 23), none⟩,
    ⟨some 25, .load false 1 (.t 24), none⟩,
    ⟨some 26, .bslice 1 1 [.int .i64 0] [(0, .t 25)], none⟩,
    ⟨some 27, .app 1 8 (.t 21) (.t 26), none⟩,
    ⟨some 5, .mv (.t 27), none⟩] [0, 1, 5, 6] [8, 27, 31, 50]) (.skip))))
  (.reg [⟨some 13, .mv (.t 6), none⟩,
    ⟨some 14, .bin .add (.t 13) (.k (.int .i64 1)), none⟩,
    ⟨some 6, .mv (.t 14), none⟩] [0, 1, 5, 6] [8, 27, 31, 50]))
def spec_l06Put.l1 : C := .seq (.seq (.reg [⟨some 32, .mv (.t 7), none⟩,
    ⟨some 33, .mv (.t 0), none⟩,
    ⟨some 34, .len (.t 33), none⟩,
    ⟨some 35, .bin .lss (.t 32) (.t 34), none⟩] [0, 1, 5, 7, 35] [8, 27, 31, 50])
  (.cond (.t 35) (.skip) (.exit 2)))
  (.seq (.block 3 (.seq (.reg [⟨some 38, .mv (.t 0), none⟩,
    ⟨some 39, .mv (.t 7), none⟩,
    ⟨some 40, .iaddr 1 (.t 38) (.t 39), none⟩,
    ⟨some 41, .load false 1 (.t 40), none⟩,
    ⟨some 42, .mv (.t 1), none⟩,
    ⟨some 43, .bin .gtr (.t 41) (.t 42), none⟩] [0, 1, 5, 7, 43] [8, 27, 31, 50])
  (.cond (.t 43) (.reg [⟨some 44, .mv (.t 5), none⟩,
    ⟨some 45, .mv (.t 0), none⟩,
    ⟨some 46, .mv (.t 7), none⟩,
    ⟨some 47, .iaddr 1 (.t 45) (.t 46), none⟩,
    ⟨some 48, .load false 1 (.t 47), none⟩,
    ⟨some 49, .bslice 1 1 [.int .i64 0] [(0, .t 48)], none⟩,
    ⟨some 50, .app 1 8 (.t 44) (.t 49), none⟩,
    ⟨some 5, .mv (.t 50), none⟩] [0, 1, 5, 7] [8, 27, 31, 50]) (.skip))))
  (.reg [⟨some 36, .mv (.t 7), none⟩,
    ⟨some 37, .bin .add (.t 36) (.k (.int .i64 1)), none⟩,
    ⟨some 7, .mv (.t 37), none⟩] [0, 1, 5, 7] [8, 27, 31, 50]))
def spec_l06Put.b : C := .seq (.reg [⟨some 4, .nil 1, none⟩] [0, 1] [])
  (.seq (.reg [⟨some 8, .bslice 1 0 [.int .i64 0] [], none⟩,
    ⟨some 5, .mv (.t 8), none⟩] [0, 1, 5] [8, 27, 31, 50])
  (.seq (.seq (.reg [⟨some 6, .mv (.k (.int .i64 0)), none⟩] [0, 1, 5, 6] [8, 27, 31, 50])
  (.block 0 (.loop spec_l06Put.l0)))
  (.seq (.reg [⟨some 28, .mv (.t 5), none⟩,
    ⟨some 29, .mv (.t 1), none⟩,
    ⟨some 30, .bslice 1 1 [.int .i64 0] [(0, .t 29)], none⟩,
    ⟨some 31, .app 1 8 (.t 28) (.t 30), none⟩,
    ⟨some 5, .mv (.t 31), none⟩] [0, 1, 5] [8, 27, 31, 50])
  (.seq (.seq (.reg [⟨some 7, .mv (.k (.int .i64 0)), none⟩] [0, 1, 5, 7] [8, 27, 31, 50])
  (.block 2 (.loop spec_l06Put.l1)))
  (.seq (.reg [⟨some 51, .mv (.t 5), none⟩,
    ⟨some 4, .mv (.t 51), none⟩] [4] [4, 8, 27, 31, 50])
  (.ret))))))
def spec_l06Put.m : Fn := { np := 2, body := spec_l06Put.b, res := [.tmp 4] }
def spec_l06Put.k (M : Nat → Option Body) : Prop := M 133 = some (.code spec_l06Put.m)
def spec_JoinGone.l0 : C := .seq (.seq (.reg [⟨some 9, .mv (.t 6), none⟩,
    ⟨some 10, .mv (.t 0), none⟩,
    ⟨some 11, .len (.t 10), none⟩,
    ⟨some 12, .bin .lss (.t 9) (.t 11), none⟩] [0, 1, 5, 6, 12] [8, 12700, 14600])
  (.cond (.t 12) (.skip) (.exit 0)))
  (.seq (.block 1 (.seq (.reg [⟨some 15, .mv (.t 5), none⟩,
    ⟨some 16, .mv (.t 0), none⟩,
    ⟨some 17, .mv (.t 6), none⟩,
    ⟨some 18, .iaddr 1 (.t 16) (.t 17), none⟩,
    ⟨some 19, .load false 1 (.t 18), none⟩,
    ⟨some 20, .call 132 [.t 15, .t 19] [] [], none⟩,
    ⟨some 21, .not (.t 20), none⟩] [0, 1, 5, 6, 21] [8, 12700, 14600])
  (.cond (.t 21) (.reg [⟨some 22, .mv (.t 5), none⟩,
    ⟨some 23, .mv (.t 0), none⟩,
    ⟨some 24, .mv (.t 6), none⟩,
    ⟨some 25, .iaddr 1 (.t 23) (.t 24), none⟩,
    ⟨some 26, .load false 1 (.t 25), none⟩,
    ⟨some 27, .call 133 [.t 22, .t 26] [] [(0, 12700)], none⟩,
    ⟨some 5, .mv (.t 27), none⟩] [0, 1, 5, 6] [8, 12700, 14600]) (.skip))))
  (.reg [⟨some 13, .mv (.t 6), none⟩,
    ⟨some 14, .bin .add (.t 13) (.k (.int .i64 1)), none⟩,
    ⟨some 6, .mv (.t 14), none⟩] [0, 1, 5, 6] [8, 12700, 14600]))
def spec_JoinGone.l1 : C := .seq (.seq (.reg [⟨some 28, .mv (.t 7), none⟩,
    ⟨some 29, .mv (.t 1), none⟩,
    ⟨some 30, .len (.t 29), none⟩,
    ⟨some 31, .bin .lss (.t 28) (.t 30), none⟩] [1, 5, 7, 31] [8, 12700, 14600])
  (.cond (.t 31) (.skip) (.exit 2)))
  (.seq (.block 3 (.seq (.reg [⟨some 34, .mv (.t 5), none⟩,
    ⟨some 35, .mv (.t 1), none⟩,
    ⟨some 36, .mv (.t 7), none⟩,
    ⟨some 37, .iaddr 1 (.t 35) (.t 36), none⟩,
    ⟨some 38, .load false 1 (.t 37), none⟩,
    ⟨some 39, .call 132 [.t 34, .t 38] [] [], none⟩,
    ⟨some 40, .not (.t 39), none⟩] [1, 5, 7, 40] [8, 12700, 14600])
  (.cond (.t 40) (.reg [⟨some 41, .mv (.t 5), none⟩,
    ⟨some 42, .mv (.t 1), none⟩,
    ⟨some 43, .mv (.t 7), none⟩,
    ⟨some 44, .iaddr 1 (.t 42) (.t 43), none⟩,
    ⟨some 45, .load false 1 (.t 44), none⟩,
    ⟨some 46, .call 133 [.t 41, .t 45] [] [(0, 14600)], none⟩,
    ⟨some 5, .mv (.t 46), none⟩] [1, 5, 7] [8, 12700, 14600]) (.skip))))
  (.reg [⟨some 32, .mv (.t 7), none⟩,
    ⟨some 33, .bin .add (.t 32) (.k (.int .i64 1)), none⟩,
    ⟨some 7, .mv (.t 33), none⟩] [1, 5, 7] [8, 12700, 14600]))
def spec_JoinGone.b : C := .seq (.reg [⟨some 4, .nil 1, none⟩] [0, 1] [])
  (.seq (.reg [⟨some 8, .bslice 1 0 [.int .i64 0] [], none⟩,
    ⟨some 5, .mv (.t 8), none⟩] [0, 1, 5] [8, 12700, 14600])
  (.seq (.seq (.reg [⟨some 6, .mv (.k (.int .i64 0)), none⟩] [0, 1, 5, 6] [8, 12700, 14600])
  (.block 0 (.loop spec_JoinGone.l0)))
  (.seq (.seq (.reg [⟨some 7, .mv (.k (.int .i64 0)), none⟩] [1, 5, 7] [8, 12700, 14600])
  (.block 2 (.loop spec_JoinGone.l1)))
  (.seq (.reg [⟨some 47, .mv (.t 5), none⟩,
    ⟨some 4, .mv (.t 47), none⟩] [4] [4, 8, 12700, 14600])
  (.ret)))))
def spec_JoinGone.m : Fn := { np := 2, body := spec_JoinGone.b, res := [.tmp 4] }
def spec_JoinGone.k (M : Nat → Option Body) : Prop := M 43 = some (.code spec_JoinGone.m) ∧ spec_l06In.k M ∧ spec_l06Put.k M
def impl_JoinGone.b : C := .seq (.reg [⟨some 4, .nil 1, none⟩] [0, 1] [])
  (.seq (.reg [⟨some 6, .mv (.t 0), none⟩,
    ⟨some 7, .call 134 [.t 6] [] [(0, 10700)], none⟩,
    ⟨some 8, .mv (.t 1), none⟩,
    ⟨some 9, .app 1 8 (.t 7) (.t 8), none⟩,
    ⟨some 5, .mv (.t 9), none⟩] [5] [9, 10700])
  (.seq (.reg [⟨some 10, .mv (.t 5), none⟩,
    ⟨some 11, .call 135 [.t 10] [0] [], none⟩] [5] [9, 10700])
  (.seq (.reg [⟨some 12, .mv (.t 5), none⟩,
    ⟨some 13, .call 136 [.t 12] [0] [(0, 11300)], none⟩,
    ⟨some 4, .mv (.t 13), none⟩] [4] [4, 9, 10700, 11300])
  (.ret))))
def impl_JoinGone.m : Fn := { np := 2, body := impl_JoinGone.b, res := [.tmp 4] }
def impl_JoinGone.k (M : Nat → Option Body) : Prop := M 44 = some (.code impl_JoinGone.m) ∧ impl_copyInts.k M ∧ M 135 = some (.ext sortG) ∧ M 136 = some (.ext compactG)
end Mx

namespace Mx
open Go
def laws_toBoxS.l0 : C := .seq (.seq (.reg [⟨some 8, .mv (.t 4), none⟩,
    ⟨some 9, .mv (.t 0), none⟩,
    ⟨some 10, .len (.t 9), none⟩,
    ⟨some 11, .bin .lss (.t 8) (.t 10), none⟩] [0, 3, 4, 11] [7])
  (.cond (.t 11) (.skip) (.exit 0)))
  (.seq (.block 1 (.reg [⟨some 14, .mv (.t 3), none⟩,
    ⟨some 15, .mv (.t 4), none⟩,
    ⟨some 16, .mv (.t 0), none⟩,
    ⟨some 17, .mv (.t 4), none⟩,
    ⟨some 18, .iaddr 7 (.t 16) (.t 17), none⟩,
    ⟨some 19, .load true 7 (.t 18), none⟩,
    ⟨some 20, .call 18 [.t 19] [] [], none⟩,
    ⟨some 21, .iaddr 7 (.t 14) (.t 15), none⟩,
    ⟨none, .store 7 (.t 21) (.t 20), none⟩] [0, 3, 4] [7]))
  (.reg [⟨some 12, .mv (.t 4), none⟩,
    ⟨some 13, .bin .add (.t 12) (.k (.int .i64 1)), none⟩,
    ⟨some 4, .mv (.t 13), none⟩] [0, 3, 4] [7]))
def laws_toBoxS.b : C := .seq (.reg [⟨some 2, .nil 7, none⟩] [0] [])
  (.seq (.reg [⟨some 5, .mv (.t 0), none⟩,
    ⟨some 6, .len (.t 5), none⟩,
    ⟨some 7, .mks 7 96 [.int .i64 0, .str ⟨#[]⟩, .int .i64 0, .int .i64 0, .int .i64 0, .nils 4, .nils 1] (.t 6), none⟩,
    ⟨some 3, .mv (.t 7), none⟩] [0, 3] [7])
  (.seq (.seq (.reg [⟨some 4, .mv (.k (.int .i64 0)), none⟩] [0, 3, 4] [7])
  (.block 0 (.loop laws_toBoxS.l0)))
  (.seq (.reg [⟨some 22, .mv (.t 3), none⟩,
    ⟨some 2, .mv (.t 22), none⟩] [2] [2, 7])
  (.ret))))
def laws_toBoxS.m : Fn := { np := 1, body := laws_toBoxS.b, res := [.tmp 2] }
def laws_toBoxS.k (M : Nat → Option Body) : Prop := M 117 = some (.code laws_toBoxS.m) ∧ laws_toBox.k M
def laws_toStore.b : C := .seq (.reg [⟨some 1, .box (.t 0), none⟩,
    ⟨some 2, .alloc [.int .i64 0, .int .i64 0, .nils 7, .nils 1], none⟩] [1, 2] [1, 2, 11200, 11600])
  (.seq (.reg [⟨some 3, .alloc [.int .i64 0, .int .i64 0, .nils 7, .nils 1], none⟩] [1, 2, 3] [1, 2, 3, 11200, 11600])
  (.seq (.reg [⟨some 4, .faddr 0 (.t 1), none⟩,
    ⟨some 5, .load false 1 (.t 4), none⟩,
    ⟨some 6, .faddr 0 (.t 3), none⟩,
    ⟨none, .store 1 (.t 6) (.t 5), none⟩] [1, 2, 3] [1, 2, 3, 11200, 11600])
  (.seq (.reg [⟨some 7, .faddr 1 (.t 1), none⟩,
    ⟨some 8, .load false 1 (.t 7), none⟩,
    ⟨some 9, .faddr 1 (.t 3), none⟩,
    ⟨none, .store 1 (.t 9) (.t 8), none⟩] [1, 2, 3] [1, 2, 3, 11200, 11600])
  (.seq (.reg [⟨some 10, .faddr 2 (.t 1), none⟩,
    ⟨some 11, .load false 1 (.t 10), none⟩,
    ⟨some 12, .call 117 [.t 11] [] [(0, 11200)], none⟩,
    ⟨some 13, .faddr 2 (.t 3), none⟩,
    ⟨none, .store 1 (.t 13) (.t 12), none⟩] [1, 2, 3] [1, 2, 3, 11200, 11600])
  (.seq (.reg [⟨some 14, .faddr 3 (.t 1), none⟩,
    ⟨some 15, .load false 1 (.t 14), none⟩,
    ⟨some 16, .call 42 [.t 15] [] [(0, 11600)], none⟩,
    ⟨some 17, .faddr 3 (.t 3), none⟩,
    ⟨none, .store 1 (.t 17) (.t 16), none⟩] [2, 3] [2, 3, 11200, 11600])
  (.seq (.reg [⟨some 18, .load true 4 (.t 3), none⟩,
    ⟨none, .store 4 (.t 2) (.t 18), none⟩] [2] [2, 11200, 11600])
  (.ret)))))))
def laws_toStore.m : Fn := { np := 1, body := laws_toStore.b, res := [.cell 2 true 4] }
def laws_toStore.k (M : Nat → Option Body) : Prop := M 30 = some (.code laws_toStore.m) ∧ laws_toIntS.k M ∧ laws_toBoxS.k M
def laws_szBoxS.l0 : C := .seq (.seq (.reg [⟨some 12, .mv (.t 5), none⟩,
    ⟨some 13, .mv (.t 0), none⟩,
    ⟨some 14, .len (.t 13), none⟩,
    ⟨some 15, .bin .lss (.t 12) (.t 14), none⟩] [0, 1, 5, 15] [])
  (.cond (.t 15) (.skip) (.exit 0)))
  (.seq (.block 1 (.seq (.reg [⟨some 18, .mv (.t 0), none⟩,
    ⟨some 19, .mv (.t 5), none⟩,
    ⟨some 20, .iaddr 7 (.t 18) (.t 19), none⟩,
    ⟨some 21, .load true 7 (.t 20), none⟩,
    ⟨some 22, .mv (.t 1), none⟩,
    ⟨some 23, .call 17 [.t 21, .t 22] [] [], none⟩,
    ⟨some 1, .mv (.t 23), none⟩] [0, 1, 5] [])
  (.seq (.reg [⟨some 24, .mv (.t 1), none⟩,
    ⟨some 25, .bin .lss (.t 24) (.k (.int .i64 0)), none⟩] [0, 1, 5, 25] [])
  (.cond (.t 25) (.seq (.reg [⟨some 4, .mv (.k (.int .i64 (-1))), none⟩] [4] [])
  (.ret)) (.skip)))))
  (.reg [⟨some 16, .mv (.t 5), none⟩,
    ⟨some 17, .bin .add (.t 16) (.k (.int .i64 1)), none⟩,
    ⟨some 5, .mv (.t 17), none⟩] [0, 1, 5] []))
def laws_szBoxS.b : C := .seq (.reg [⟨some 4, .mv (.k (.int .i64 0)), none⟩] [0, 1] [])
  (.seq (.reg [⟨some 6, .mv (.t 1), none⟩,
    ⟨some 7, .mv (.t 0), none⟩,
    ⟨some 8, .len (.t 7), none⟩,
    ⟨some 9, .bin .sub (.t 6) (.t 8), none⟩,
    ⟨some 1, .mv (.t 9), none⟩] [0, 1] [])
  (.seq (.seq (.reg [⟨some 10, .mv (.t 1), none⟩,
    ⟨some 11, .bin .lss (.t 10) (.k (.int .i64 0)), none⟩] [0, 1, 11] [])
  (.cond (.t 11) (.seq (.reg [⟨some 4, .mv (.k (.int .i64 (-1))), none⟩] [4] [])
  (.ret)) (.skip)))
  (.seq (.seq (.reg [⟨some 5, .mv (.k (.int .i64 0)), none⟩] [0, 1, 5] [])
  (.block 0 (.loop laws_szBoxS.l0)))
  (.seq (.reg [⟨some 26, .mv (.t 1), none⟩,
    ⟨some 4, .mv (.t 26), none⟩] [4] [])
  (.ret)))))
def laws_szBoxS.m : Fn := { np := 2, body := laws_szBoxS.b, res := [.tmp 4] }
def laws_szBoxS.k (M : Nat → Option Body) : Prop := M 115 = some (.code laws_szBoxS.m) ∧ laws_szBox.k M
def laws_szStore.b : C := .seq (.reg [⟨some 2, .box (.t 0), none⟩,
    ⟨some 4, .mv (.k (.int .i64 0)), none⟩] [1, 2] [2])
  (.seq (.reg [⟨some 5, .faddr 2 (.t 2), none⟩,
    ⟨some 6, .load false 1 (.t 5), none⟩,
    ⟨some 7, .mv (.t 1), none⟩,
    ⟨some 8, .call 115 [.t 6, .t 7] [] [], none⟩,
    ⟨some 1, .mv (.t 8), none⟩] [1, 2] [2])
  (.seq (.seq (.reg [⟨some 9, .mv (.t 1), none⟩,
    ⟨some 10, .bin .lss (.t 9) (.k (.int .i64 0)), none⟩] [1, 2, 10] [2])
  (.cond (.t 10) (.seq (.reg [⟨some 4, .mv (.k (.int .i64 (-1))), none⟩] [4] [])
  (.ret)) (.skip)))
  (.seq (.reg [⟨some 11, .faddr 3 (.t 2), none⟩,
    ⟨some 12, .load false 1 (.t 11), none⟩,
    ⟨some 13, .mv (.t 1), none⟩,
    ⟨some 14, .call 108 [.t 12, .t 13] [] [], none⟩,
    ⟨some 1, .mv (.t 14), none⟩] [1] [])
  (.seq (.seq (.reg [⟨some 15, .mv (.t 1), none⟩,
    ⟨some 16, .bin .lss (.t 15) (.k (.int .i64 0)), none⟩] [1, 16] [])
  (.cond (.t 16) (.seq (.reg [⟨some 4, .mv (.k (.int .i64 (-1))), none⟩] [4] [])
  (.ret)) (.skip)))
  (.seq (.reg [⟨some 17, .mv (.t 1), none⟩,
    ⟨some 4, .mv (.t 17), none⟩] [4] [])
  (.ret))))))
def laws_szStore.m : Fn := { np := 2, body := laws_szStore.b, res := [.tmp 4] }
def laws_szStore.k (M : Nat → Option Body) : Prop := M 29 = some (.code laws_szStore.m) ∧ laws_szIntS.k M ∧ laws_szBoxS.k M
def laws_eqBoxS.l0 : C := .seq (.seq (.reg [⟨some 11, .mv (.t 5), none⟩,
    ⟨some 12, .mv (.t 0), none⟩,
    ⟨some 13, .len (.t 12), none⟩,
    ⟨some 14, .bin .lss (.t 11) (.t 13), none⟩] [0, 1, 5, 14] [])
  (.cond (.t 14) (.skip) (.exit 0)))
  (.seq (.block 1 (.seq (.regd [⟨some 17, .mv (.t 0), none⟩,
    ⟨some 18, .mv (.t 5), none⟩,
    ⟨some 19, .iaddr 7 (.t 17) (.t 18), none⟩,
    ⟨some 20, .load true 7 (.t 19), none⟩,
    ⟨some 21, .mv (.t 1), none⟩,
    ⟨some 22, .mv (.t 5), none⟩,
    ⟨some 23, .iaddr 7 (.t 21) (.t 22), none⟩,
    ⟨some 24, .load true 7 (.t 23), none⟩,
    ⟨some 25, .call 21 [.t 20, .t 24] [] [], none⟩,
    ⟨some 26, .not (.t 25), none⟩] [[], [], [0, 1], [0, 1, 2], [], [], [4, 5], [4, 5, 6], [0, 1, 2, 3, 4, 5, 6, 7], [0, 1, 2, 3, 4, 5, 6, 7, 8]] [0, 1, 5, 26] [])
  (.cond (.t 26) (.seq (.reg [⟨some 4, .mv (.k (.bool false)), none⟩] [4] [])
  (.ret)) (.skip))))
  (.reg [⟨some 15, .mv (.t 5), none⟩,
    ⟨some 16, .bin .add (.t 15) (.k (.int .i64 1)), none⟩,
    ⟨some 5, .mv (.t 16), none⟩] [0, 1, 5] []))
def laws_eqBoxS.b : C := .seq (.reg [⟨some 4, .mv (.k (.bool false)), none⟩] [0, 1] [])
  (.seq (.seq (.reg [⟨some 6, .mv (.t 0), none⟩,
    ⟨some 7, .len (.t 6), none⟩,
    ⟨some 8, .mv (.t 1), none⟩,
    ⟨some 9, .len (.t 8), none⟩,
    ⟨some 10, .bin .neq (.t 7) (.t 9), none⟩] [0, 1, 10] [])
  (.cond (.t 10) (.seq (.reg [⟨some 4, .mv (.k (.bool false)), none⟩] [4] [])
  (.ret)) (.skip)))
  (.seq (.seq (.reg [⟨some 5, .mv (.k (.int .i64 0)), none⟩] [0, 1, 5] [])
  (.block 0 (.loop laws_eqBoxS.l0)))
  (.seq (.reg [⟨some 4, .mv (.k (.bool true)), none⟩] [4] [])
  (.ret))))
def laws_eqBoxS.m : Fn := { np := 2, body := laws_eqBoxS.b, res := [.tmp 4] }
def laws_eqBoxS.k (M : Nat → Option Body) : Prop := M 121 = some (.code laws_eqBoxS.m) ∧ laws_eqBox.k M
def laws_eqStore.b : C := .seq (.reg [⟨some 2, .box (.t 0), none⟩,
    ⟨some 3, .box (.t 1), none⟩,
    ⟨some 4, .mv (.k (.bool false)), none⟩] [2, 3] [2, 3])
  (.seq (.seq (.reg [⟨some 5, .faddr 0 (.t 2), none⟩,
    ⟨some 6, .load false 1 (.t 5), none⟩,
    ⟨some 7, .faddr 0 (.t 3), none⟩,
    ⟨some 8, .load false 1 (.t 7), none⟩,
    ⟨some 9, .bin .neq (.t 6) (.t 8), none⟩] [2, 3, 9] [2, 3])
  (.cond (.t 9) (.seq (.reg [⟨some 4, .mv (.k (.bool false)), none⟩] [4] [])
  (.ret)) (.skip)))
  (.seq (.seq (.reg [⟨some 10, .faddr 1 (.t 2), none⟩,
    ⟨some 11, .load false 1 (.t 10), none⟩,
    ⟨some 12, .faddr 1 (.t 3), none⟩,
    ⟨some 13, .load false 1 (.t 12), none⟩,
    ⟨some 14, .bin .neq (.t 11) (.t 13), none⟩] [2, 3, 14] [2, 3])
  (.cond (.t 14) (.seq (.reg [⟨some 4, .mv (.k (.bool false)), none⟩] [4] [])
  (.ret)) (.skip)))
  (.seq (.seq (.reg [⟨some 15, .faddr 2 (.t 2), none⟩,
    ⟨some 16, .load false 1 (.t 15), none⟩,
    ⟨some 17, .faddr 2 (.t 3), none⟩,
    ⟨some 18, .load false 1 (.t 17), none⟩,
    ⟨some 19, .call 121 [.t 16, .t 18] [] [], none⟩,
    ⟨some 20, .not (.t 19), none⟩] [2, 3, 20] [2, 3])
  (.cond (.t 20) (.seq (.reg [⟨some 4, .mv (.k (.bool false)), none⟩] [4] [])
  (.ret)) (.skip)))
  (.seq (.seq (.reg [⟨some 21, .faddr 3 (.t 2), none⟩,
    ⟨some 22, .load false 1 (.t 21), none⟩,
    ⟨some 23, .faddr 3 (.t 3), none⟩,
    ⟨some 24, .load false 1 (.t 23), none⟩,
    ⟨some 25, .call 45 [.t 22, .t 24] [] [], none⟩,
    ⟨some 26, .not (.t 25), none⟩] [26] [])
  (.cond (.t 26) (.seq (.reg [⟨some 4, .mv (.k (.bool false)), none⟩] [4] [])
  (.ret)) (.skip)))
  (.seq (.reg [⟨some 4, .mv (.k (.bool true)), none⟩] [4] [])
  (.ret))))))
def laws_eqStore.m : Fn := { np := 2, body := laws_eqStore.b, res := [.tmp 4] }
def laws_eqStore.k (M : Nat → Option Body) : Prop := M 33 = some (.code laws_eqStore.m) ∧ laws_eqIntS.k M ∧ laws_eqBoxS.k M
end Mx

namespace Mx
open Go
def impl_copyRegs.b : C := .seq (.reg [⟨some 2, .nil 3, none⟩] [0] [])
  (.seq (.reg [⟨some 3, .bslice 3 0 [.int .i64 0, .int .i64 0, .int .i64 0] [], none⟩,
    ⟨some 4, .mv (.t 0), none⟩,
    ⟨some 5, .app 3 24 (.t 3) (.t 4), none⟩,
    ⟨some 2, .mv (.t 5), none⟩] [2] [2, 3, 5])
  (.ret))
def impl_copyRegs.m : Fn := { np := 1, body := impl_copyRegs.b, res := [.tmp 2] }
def impl_copyRegs.k (M : Nat → Option Body) : Prop := M 239 = some (.code impl_copyRegs.m)
def impl_copyMail.b : C := .seq (.reg [⟨some 1, .box (.t 0), none⟩,
    ⟨some 2, .alloc [.int .i64 0, .int .i64 0, .nils 3, .str ⟨#[]⟩], none⟩] [1, 2] [1, 2, 10500])
  (.seq (.reg [⟨some 3, .faddr 2 (.t 1), none⟩,
    ⟨some 4, .load false 1 (.t 3), none⟩,
    ⟨some 5, .call 239 [.t 4] [] [(0, 10500)], none⟩,
    ⟨some 6, .faddr 2 (.t 1), none⟩,
    ⟨none, .store 1 (.t 6) (.t 5), none⟩] [1, 2] [1, 2, 10500])
  (.seq (.reg [⟨some 7, .load true 4 (.t 1), none⟩,
    ⟨none, .store 4 (.t 2) (.t 7), none⟩] [2] [2, 10500])
  (.ret)))
def impl_copyMail.m : Fn := { np := 1, body := impl_copyMail.b, res := [.cell 2 true 4] }
def impl_copyMail.k (M : Nat → Option Body) : Prop := M 233 = some (.code impl_copyMail.m) ∧ impl_copyRegs.k M
def impl_copyBox.l0 : C := .seq (.reg [⟨some 13, .bin .lss (.t 12) (.t 11), none⟩] [1, 2, 3, 10, 11, 12, 13] [1, 2, 3, 7, 21, 12600])
  (.seq (.cond (.t 13) (.skip) (.exit 0))
  (.seq (.block 1 (.seq (.reg [⟨some 14, .iaddr 4 (.t 10) (.t 12), none⟩,
    ⟨some 15, .load true 4 (.t 14), none⟩,
    ⟨some 5, .alloc [.int .i64 0, .int .i64 0, .nils 3, .str ⟨#[]⟩], none⟩,
    ⟨none, .store 4 (.t 5) (.t 15), none⟩] [1, 2, 3, 5, 10, 11, 12] [1, 2, 3, 5, 7, 21, 12600])
  (.regd [⟨some 16, .faddr 5 (.t 3), none⟩,
    ⟨some 17, .load false 1 (.t 16), none⟩,
    ⟨some 18, .load true 4 (.t 5), none⟩,
    ⟨some 19, .call 233 [.t 18] [] [], none⟩,
    ⟨some 20, .bslice 4 1 [.int .i64 0, .int .i64 0, .nils 3, .str ⟨#[]⟩] [(0, .t 19)], none⟩,
    ⟨some 21, .app 4 56 (.t 17) (.t 20), none⟩,
    ⟨some 22, .faddr 5 (.t 3), none⟩,
    ⟨none, .store 1 (.t 22) (.t 21), none⟩] [[], [0], [], [2], [2, 3], List.range 5, List.range 6, List.range 7] [1, 2, 3, 10, 11, 12] [1, 2, 3, 7, 21, 12600])))
  (.reg [⟨some 23, .bin .add (.t 12) (.k (.int .i64 1)), none⟩,
    ⟨some 12, .mv (.t 23), none⟩] [1, 2, 3, 10, 11, 12] [1, 2, 3, 7, 21, 12600])))
def impl_copyBox.b : C := .seq (.reg [⟨some 1, .box (.t 0), none⟩,
    ⟨some 2, .alloc [.int .i64 0, .str ⟨#[]⟩, .int .i64 0, .int .i64 0, .int .i64 0, .nils 4, .nils 1], none⟩] [1, 2] [1, 2, 7, 21, 12600])
  (.seq (.reg [⟨some 6, .load true 7 (.t 1), none⟩,
    ⟨some 3, .alloc [.int .i64 0, .str ⟨#[]⟩, .int .i64 0, .int .i64 0, .int .i64 0, .nils 4, .nils 1], none⟩,
    ⟨none, .store 7 (.t 3) (.t 6), none⟩] [1, 2, 3] [1, 2, 3, 7, 21, 12600])
  (.seq (.reg [⟨some 7, .bslice 4 0 [.int .i64 0, .int .i64 0, .nils 3, .str ⟨#[]⟩] [], none⟩,
    ⟨some 8, .faddr 5 (.t 3), none⟩,
    ⟨none, .store 1 (.t 8) (.t 7), none⟩] [1, 2, 3] [1, 2, 3, 7, 21, 12600])
  (.seq (.seq (.reg [⟨some 9, .faddr 5 (.t 1), none⟩,
    ⟨some 10, .load false 1 (.t 9), none⟩,
    ⟨some 11, .len (.t 10), none⟩,
    ⟨some 12, .mv (.k (.int .i64 0)), none⟩] [1, 2, 3, 10, 11, 12] [1, 2, 3, 7, 21, 12600])
  (.block 0 (.loop impl_copyBox.l0)))
  (.seq (.reg [⟨some 24, .faddr 6 (.t 1), none⟩,
    ⟨some 25, .load false 1 (.t 24), none⟩,
    ⟨some 26, .call 134 [.t 25] [] [(0, 12600)], none⟩,
    ⟨some 27, .faddr 6 (.t 3), none⟩,
    ⟨none, .store 1 (.t 27) (.t 26), none⟩] [2, 3] [2, 3, 7, 21, 12600])
  (.seq (.reg [⟨some 28, .load true 7 (.t 3), none⟩,
    ⟨none, .store 7 (.t 2) (.t 28), none⟩] [2] [2, 7, 21, 12600])
  (.ret))))))
def impl_copyBox.m : Fn := { np := 1, body := impl_copyBox.b, res := [.cell 2 true 7] }
def impl_copyBox.k (M : Nat → Option Body) : Prop := M 155 = some (.code impl_copyBox.m) ∧ impl_copyInts.k M ∧ impl_copyMail.k M
def impl_Later.b : C := .seq (.reg [⟨some 2, .box (.t 0), none⟩,
    ⟨some 3, .box (.t 1), none⟩,
    ⟨some 4, .mv (.k (.bool false)), none⟩] [2, 3] [2, 3])
  (.seq (.reg [⟨some 5, .faddr 0 (.t 2), none⟩,
    ⟨some 6, .load false 1 (.t 5), none⟩,
    ⟨some 7, .faddr 0 (.t 3), none⟩,
    ⟨some 8, .load false 1 (.t 7), none⟩,
    ⟨some 9, .bin .gtr (.t 6) (.t 8), none⟩,
    ⟨some 10, .mv (.t 9), none⟩,
    ⟨some 11, .faddr 0 (.t 2), some (10, false)⟩,
    ⟨some 12, .load false 1 (.t 11), some (10, false)⟩,
    ⟨some 13, .faddr 0 (.t 3), some (10, false)⟩,
    ⟨some 14, .load false 1 (.t 13), some (10, false)⟩,
    ⟨some 15, .bin .eql (.t 12) (.t 14), some (10, false)⟩,
    ⟨some 16, .mv (.t 15), some (10, false)⟩,
    ⟨some 17, .faddr 1 (.t 2), some (16, true)⟩,
    ⟨some 18, .load false 1 (.t 17), some (16, true)⟩,
    ⟨some 19, .faddr 1 (.t 3), some (16, true)⟩,
    ⟨some 20, .load false 1 (.t 19), some (16, true)⟩,
    ⟨some 21, .bin .gtr (.t 18) (.t 20), some (16, true)⟩,
    ⟨some 22, .pick (.t 16) (.t 21) (.k (.bool false)), some (10, false)⟩,
    ⟨some 23, .pick (.t 10) (.k (.bool true)) (.t 22), none⟩,
    ⟨some 4, .mv (.t 23), none⟩] [4] [])
  (.ret))
def impl_Later.m : Fn := { np := 2, body := impl_Later.b, res := [.tmp 4] }
def impl_Later.k (M : Nat → Option Body) : Prop := M 275 = some (.code impl_Later.m)
end Mx

namespace Mx
open Go
def spec_l04Copy.b : C := .seq (.reg [⟨some 2, .nil 3, none⟩] [0] [])
  (.seq (.reg [⟨some 3, .bslice 3 0 [.int .i64 0, .int .i64 0, .int .i64 0] [], none⟩,
    ⟨some 4, .mv (.t 0), none⟩,
    ⟨some 5, .app 3 24 (.t 3) (.t 4), none⟩,
    ⟨some 2, .mv (.t 5), none⟩] [2] [2, 3, 5])
  (.ret))
def spec_l04Copy.m : Fn := { np := 1, body := spec_l04Copy.b, res := [.tmp 2] }
def spec_l04Copy.k (M : Nat → Option Body) : Prop := M 241 = some (.code spec_l04Copy.m)
def spec_l05Copy.b : C := .seq (.reg [⟨some 1, .box (.t 0), none⟩,
    ⟨some 2, .alloc [.int .i64 0, .int .i64 0, .nils 3, .str ⟨#[]⟩], none⟩] [1, 2] [1, 2, 10500])
  (.seq (.reg [⟨some 3, .faddr 2 (.t 1), none⟩,
    ⟨some 4, .load false 1 (.t 3), none⟩,
    ⟨some 5, .call 241 [.t 4] [] [(0, 10500)], none⟩,
    ⟨some 6, .faddr 2 (.t 1), none⟩,
    ⟨none, .store 1 (.t 6) (.t 5), none⟩] [1, 2] [1, 2, 10500])
  (.seq (.reg [⟨some 7, .load true 4 (.t 1), none⟩,
    ⟨none, .store 4 (.t 2) (.t 7), none⟩] [2] [2, 10500])
  (.ret)))
def spec_l05Copy.m : Fn := { np := 1, body := spec_l05Copy.b, res := [.cell 2 true 4] }
def spec_l05Copy.k (M : Nat → Option Body) : Prop := M 238 = some (.code spec_l05Copy.m) ∧ spec_l04Copy.k M
def spec_l06Copy.l0 : C := .seq (.seq (.reg [⟨some 8, .mv (.t 4), none⟩,
    ⟨some 9, .faddr 5 (.t 1), none⟩,
    ⟨some 10, .load false 1 (.t 9), none⟩,
    ⟨some 11, .len (.t 10), none⟩,
    ⟨some 12, .bin .lss (.t 8) (.t 11), none⟩] [1, 2, 3, 4, 12] [1, 2, 3, 6, 24, 26, 29])
  (.cond (.t 12) (.skip) (.exit 0)))
  (.seq (.block 1 (.regd [⟨some 15, .faddr 5 (.t 3), none⟩,
    ⟨some 16, .load false 1 (.t 15), none⟩,
    ⟨some 17, .faddr 5 (.t 1), none⟩,
    ⟨some 18, .load false 1 (.t 17), none⟩,
    ⟨some 19, .mv (.t 4), none⟩,
    ⟨some 20, .iaddr 4 (.t 18) (.t 19), none⟩,
    ⟨some 21, .load true 4 (.t 20), none⟩,
    ⟨some 22, .call 238 [.t 21] [] [], none⟩,
    ⟨some 23, .bslice 4 1 [.int .i64 0, .int .i64 0, .nils 3, .str ⟨#[]⟩] [(0, .t 22)], none⟩,
    ⟨some 24, .app 4 56 (.t 16) (.t 23), none⟩,
    ⟨some 25, .faddr 5 (.t 3), none⟩,
    ⟨none, .store 1 (.t 25) (.t 24), none⟩] [[], [0], [], [2], [], [2, 3, 4], [2, 3, 4, 5], [2, 3, 4, 5, 6], [2, 3, 4, 5, 6, 7], List.range 9, List.range 10, List.range 11] [1, 2, 3, 4] [1, 2, 3, 6, 24, 26, 29]))
  (.reg [⟨some 13, .mv (.t 4), none⟩,
    ⟨some 14, .bin .add (.t 13) (.k (.int .i64 1)), none⟩,
    ⟨some 4, .mv (.t 14), none⟩] [1, 2, 3, 4] [1, 2, 3, 6, 24, 26, 29]))
def spec_l06Copy.b : C := .seq (.reg [⟨some 1, .box (.t 0), none⟩,
    ⟨some 2, .alloc [.int .i64 0, .str ⟨#[]⟩, .int .i64 0, .int .i64 0, .int .i64 0, .nils 4, .nils 1], none⟩] [1, 2] [1, 2, 6, 24, 26, 29])
  (.seq (.reg [⟨some 5, .load true 7 (.t 1), none⟩,
    ⟨some 3, .alloc [.int .i64 0, .str ⟨#[]⟩, .int .i64 0, .int .i64 0, .int .i64 0, .nils 4, .nils 1], none⟩,
    ⟨none, .store 7 (.t 3) (.t 5), none⟩] [1, 2, 3] [1, 2, 3, 6, 24, 26, 29])
  (.seq (.reg [⟨some 6, .bslice 4 0 [.int .i64 0, .int .i64 0, .nils 3, .str ⟨#[]⟩] [], none⟩,
    ⟨some 7, .faddr 5 (.t 3), none⟩,
    ⟨none, .store 1 (.t 7) (.t 6), none⟩] [1, 2, 3] [1, 2, 3, 6, 24, 26, 29])
  (.seq (.seq (.reg [⟨some 4, .mv (.k (.int .i64 0)), none⟩] [1, 2, 3, 4] [1, 2, 3, 6, 24, 26, 29])
  (.block 0 (.loop spec_l06Copy.l0)))
  (.seq (.reg [⟨some 26, .bslice 1 0 [.int .i64 0] [], none⟩,
    ⟨some 27, .faddr 6 (.t 1), none⟩,
    ⟨some 28, .load false 1 (.t 27), none⟩,
    ⟨some 29, .app 1 8 (.t 26) (.t 28), none⟩,
    ⟨some 30, .faddr 6 (.t 3), none⟩,
    ⟨none, .store 1 (.t 30) (.t 29), none⟩] [2, 3] [2, 3, 6, 24, 26, 29])
  (.seq (.reg [⟨some 31, .load true 7 (.t 3), none⟩,
    ⟨none, .store 7 (.t 2) (.t 31), none⟩] [2] [2, 6, 24, 26, 29])
  (.ret))))))
def spec_l06Copy.m : Fn := { np := 1, body := spec_l06Copy.b, res := [.cell 2 true 7] }
def spec_l06Copy.k (M : Nat → Option Body) : Prop := M 180 = some (.code spec_l06Copy.m) ∧ spec_l05Copy.k M
def spec_Later.b : C := .seq (.reg [⟨some 2, .box (.t 0), none⟩,
    ⟨some 3, .box (.t 1), none⟩,
    ⟨some 4, .mv (.k (.bool false)), none⟩] [2, 3] [2, 3])
  (.seq (.seq (.reg [⟨some 5, .faddr 0 (.t 2), none⟩,
    ⟨some 6, .load false 1 (.t 5), none⟩,
    ⟨some 7, .faddr 0 (.t 3), none⟩,
    ⟨some 8, .load false 1 (.t 7), none⟩,
    ⟨some 9, .bin .neq (.t 6) (.t 8), none⟩] [2, 3, 9] [2, 3])
  (.cond (.t 9) (.seq (.reg [⟨some 10, .faddr 0 (.t 2), none⟩,
    ⟨some 11, .load false 1 (.t 10), none⟩,
    ⟨some 12, .faddr 0 (.t 3), none⟩,
    ⟨some 13, .load false 1 (.t 12), none⟩,
    ⟨some 14, .bin .gtr (.t 11) (.t 13), none⟩,
    ⟨some 4, .mv (.t 14), none⟩] [4] [])
  (.ret)) (.skip)))
  (.seq (.reg [⟨some 15, .faddr 1 (.t 2), none⟩,
    ⟨some 16, .load false 1 (.t 15), none⟩,
    ⟨some 17, .faddr 1 (.t 3), none⟩,
    ⟨some 18, .load false 1 (.t 17), none⟩,
    ⟨some 19, .bin .gtr (.t 16) (.t 18), none⟩,
    ⟨some 4, .mv (.t 19), none⟩] [4] [])
  (.ret)))
def spec_Later.m : Fn := { np := 2, body := spec_Later.b, res := [.tmp 4] }
def spec_Later.k (M : Nat → Option Body) : Prop := M 277 = some (.code spec_Later.m)
end Mx

namespace Mx
open Go
def impl_JoinReg.b : C := .seq (.reg [⟨some 2, .box (.t 0), none⟩,
    ⟨some 3, .box (.t 1), none⟩,
    ⟨some 4, .alloc [.int .i64 0, .int .i64 0, .int .i64 0], none⟩] [2, 3, 4] [2, 3, 4])
  (.seq (.seq (.reg [⟨some 5, .faddr 1 (.t 3), none⟩,
    ⟨some 6, .load true 2 (.t 5), none⟩,
    ⟨some 7, .faddr 1 (.t 2), none⟩,
    ⟨some 8, .load true 2 (.t 7), none⟩,
    ⟨some 9, .call 275 [.t 6, .t 8] [] [], none⟩,
    ⟨some 10, .mv (.t 9), none⟩,
    ⟨some 11, .faddr 1 (.t 2), some (10, false)⟩,
    ⟨some 12, .load true 2 (.t 11), some (10, false)⟩,
    ⟨some 13, .faddr 1 (.t 3), some (10, false)⟩,
    ⟨some 14, .load true 2 (.t 13), some (10, false)⟩,
    ⟨some 15, .call 275 [.t 12, .t 14] [] [], some (10, false)⟩,
    ⟨some 16, .not (.t 15), some (10, false)⟩,
    ⟨some 17, .mv (.t 16), some (10, false)⟩,
    ⟨some 18, .faddr 0 (.t 3), some (17, true)⟩,
    ⟨some 19, .load false 1 (.t 18), some (17, true)⟩,
    ⟨some 20, .faddr 0 (.t 2), some (17, true)⟩,
    ⟨some 21, .load false 1 (.t 20), some (17, true)⟩,
    ⟨some 22, .bin .gtr (.t 19) (.t 21), some (17, true)⟩,
    ⟨some 23, .pick (.t 17) (.t 22) (.k (.bool false)), some (10, false)⟩,
    ⟨some 24, .pick (.t 10) (.k (.bool true)) (.t 23), none⟩] [2, 3, 4, 24] [2, 3, 4])
  (.cond (.t 24) (.seq (.reg [⟨some 25, .load true 3 (.t 3), none⟩,
    ⟨none, .store 3 (.t 4) (.t 25), none⟩] [4] [4])
  (.ret)) (.skip)))
  (.seq (.reg [⟨some 26, .load true 3 (.t 2), none⟩,
    ⟨none, .store 3 (.t 4) (.t 26), none⟩] [4] [4])
  (.ret)))
def impl_JoinReg.m : Fn := { np := 2, body := impl_JoinReg.b, res := [.cell 4 true 3] }
def impl_JoinReg.k (M : Nat → Option Body) : Prop := M 485 = some (.code impl_JoinReg.m) ∧ impl_Later.k M
def impl_JoinFlags.l0 : C := .seq (.seq (.reg [⟨some 8, .mv (.t 6), none⟩,
    ⟨some 9, .mv (.t 0), none⟩,
    ⟨some 10, .len (.t 9), none⟩,
    ⟨some 11, .bin .lss (.t 8) (.t 10), none⟩,
    ⟨some 12, .mv (.t 11), none⟩,
    ⟨some 13, .mv (.t 6), some (12, true)⟩,
    ⟨some 14, .mv (.t 1), some (12, true)⟩,
    ⟨some 15, .len (.t 14), some (12, true)⟩,
    ⟨some 16, .bin .lss (.t 13) (.t 15), some (12, true)⟩,
    ⟨some 17, .pick (.t 12) (.t 16) (.k (.bool false)), none⟩] [0, 1, 5, 6, 17] [7, 31])
  (.cond (.t 17) (.skip) (.exit 0)))
  (.seq (.block 1 (.regd [⟨some 20, .mv (.t 5), none⟩,
    ⟨some 21, .mv (.t 0), none⟩,
    ⟨some 22, .mv (.t 6), none⟩,
    ⟨some 23, .iaddr 3 (.t 21) (.t 22), none⟩,
    ⟨some 24, .load true 3 (.t 23), none⟩,
    ⟨some 25, .mv (.t 1), none⟩,
    ⟨some 26, .mv (.t 6), none⟩,
    ⟨some 27, .iaddr 3 (.t 25) (.t 26), none⟩,
    ⟨some 28, .load true 3 (.t 27), none⟩,
    ⟨some 29, .call 485 [.t 24, .t 28] [] [], none⟩,
    ⟨some 30, .bslice 3 1 [.int .i64 0, .int .i64 0, .int .i64 0] [(0, .t 29)], none⟩,
    ⟨some 31, .app 3 24 (.t 20) (.t 30), none⟩,
    ⟨some 5, .mv (.t 31), none⟩] [[], [], [], [1, 2], [1, 2, 3], [], [], [5, 6], [5, 6, 7], [1, 2, 3, 4, 5, 6, 7, 8], [1, 2, 3, 4, 5, 6, 7, 8, 9], List.range 11, List.range 12] [0, 1, 5, 6] [7, 31]))
  (.reg [⟨some 18, .mv (.t 6), none⟩,
    ⟨some 19, .bin .add (.t 18) (.k (.int .i64 1)), none⟩,
    ⟨some 6, .mv (.t 19), none⟩] [0, 1, 5, 6] [7, 31]))
def impl_JoinFlags.b : C := .seq (.reg [⟨some 4, .nil 3, none⟩] [0, 1] [])
  (.seq (.reg [⟨some 7, .bslice 3 0 [.int .i64 0, .int .i64 0, .int .i64 0] [], none⟩,
    ⟨some 5, .mv (.t 7), none⟩] [0, 1, 5] [7, 31])
  (.seq (.seq (.reg [⟨some 6, .mv (.k (.int .i64 0)), none⟩] [0, 1, 5, 6] [7, 31])
  (.block 0 (.loop impl_JoinFlags.l0)))
  (.seq (.reg [⟨some 32, .mv (.t 5), none⟩,
    ⟨some 4, .mv (.t 32), none⟩] [4] [4, 7, 31])
  (.ret))))
def impl_JoinFlags.m : Fn := { np := 2, body := impl_JoinFlags.b, res := [.tmp 4] }
def impl_JoinFlags.k (M : Nat → Option Body) : Prop := M 470 = some (.code impl_JoinFlags.m) ∧ impl_JoinReg.k M
def impl_JoinMail.b : C := .seq (.reg [⟨some 2, .box (.t 0), none⟩,
    ⟨some 3, .box (.t 1), none⟩,
    ⟨some 4, .alloc [.int .i64 0, .int .i64 0, .nils 3, .str ⟨#[]⟩], none⟩] [2, 3, 4] [2, 3, 4, 11102, 12300])
  (.seq (.seq (.reg [⟨some 5, .faddr 0 (.t 2), none⟩,
    ⟨some 6, .load false 1 (.t 5), none⟩,
    ⟨some 7, .faddr 0 (.t 3), none⟩,
    ⟨some 8, .load false 1 (.t 7), none⟩,
    ⟨some 9, .bin .neq (.t 6) (.t 8), none⟩] [2, 3, 4, 9] [2, 3, 4, 11102, 12300])
  (.cond (.t 9) (.seq (.reg [⟨some 10, .load true 4 (.t 2), none⟩,
    ⟨some 11, .call 233 [.t 10] [] [(2, 11102)], none⟩,
    ⟨none, .store 4 (.t 4) (.t 11), none⟩] [4] [4, 11102, 12300])
  (.ret)) (.skip)))
  (.seq (.regd [⟨some 12, .faddr 0 (.t 2), none⟩,
    ⟨some 13, .load false 1 (.t 12), none⟩,
    ⟨some 14, .faddr 1 (.t 2), none⟩,
    ⟨some 15, .load false 1 (.t 14), none⟩,
    ⟨some 16, .faddr 1 (.t 3), none⟩,
    ⟨some 17, .load false 1 (.t 16), none⟩,
    ⟨some 18, .max (.t 15) (.t 17), none⟩,
    ⟨some 19, .faddr 2 (.t 2), none⟩,
    ⟨some 20, .load false 1 (.t 19), none⟩,
    ⟨some 21, .faddr 2 (.t 3), none⟩,
    ⟨some 22, .load false 1 (.t 21), none⟩,
    ⟨some 23, .call 470 [.t 20, .t 22] [] [(0, 12300)], none⟩,
    ⟨some 24, .faddr 3 (.t 2), none⟩,
    ⟨some 25, .load false 1 (.t 24), none⟩,
    ⟨some 26, .faddr 3 (.t 3), none⟩,
    ⟨some 27, .load false 1 (.t 26), none⟩,
    ⟨some 28, .max (.t 25) (.t 27), none⟩,
    ⟨some 29, .build [.int .i64 0, .int .i64 0, .nils 3, .str ⟨#[]⟩] [(0, 1, .t 13), (1, 1, .t 18), (2, 1, .t 23), (3, 1, .t 28)], none⟩,
    ⟨none, .store 4 (.t 4) (.t 29), none⟩] [[], [0], [], [2], [], [4], [2, 3, 4, 5], [], [7], [], [9], [7, 8, 9, 10], [], [12], [], [14], [12, 13, 14, 15], List.range 17, List.range 18] [4] [4, 11102, 12300])
  (.ret)))
def impl_JoinMail.m : Fn := { np := 2, body := impl_JoinMail.b, res := [.cell 4 true 4] }
def impl_JoinMail.k (M : Nat → Option Body) : Prop := M 452 = some (.code impl_JoinMail.m) ∧ impl_copyMail.k M ∧ impl_JoinFlags.k M
def spec_JoinReg.b : C := .seq (.reg [⟨some 2, .box (.t 0), none⟩,
    ⟨some 3, .box (.t 1), none⟩,
    ⟨some 4, .alloc [.int .i64 0, .int .i64 0, .int .i64 0], none⟩] [2, 3, 4] [2, 3, 4])
  (.seq (.seq (.reg [⟨some 5, .faddr 1 (.t 2), none⟩,
    ⟨some 6, .load true 2 (.t 5), none⟩,
    ⟨some 7, .faddr 1 (.t 3), none⟩,
    ⟨some 8, .load true 2 (.t 7), none⟩,
    ⟨some 9, .call 277 [.t 6, .t 8] [] [], none⟩,
    ⟨some 10, .mv (.t 9), none⟩,
    ⟨some 11, .faddr 1 (.t 2), some (10, false)⟩,
    ⟨some 12, .load true 2 (.t 11), some (10, false)⟩,
    ⟨some 13, .faddr 1 (.t 3), some (10, false)⟩,
    ⟨some 14, .load true 2 (.t 13), some (10, false)⟩,
    ⟨some 15, .eqs false [.int, .int] (.t 12) (.t 14), some (10, false)⟩,
    ⟨some 16, .mv (.t 15), some (10, false)⟩,
    ⟨some 17, .faddr 0 (.t 2), some (16, true)⟩,
    ⟨some 18, .load false 1 (.t 17), some (16, true)⟩,
    ⟨some 19, .faddr 0 (.t 3), some (16, true)⟩,
    ⟨some 20, .load false 1 (.t 19), some (16, true)⟩,
    ⟨some 21, .bin .geq (.t 18) (.t 20), some (16, true)⟩,
    ⟨some 22, .pick (.t 16) (.t 21) (.k (.bool false)), some (10, false)⟩,
    ⟨some 23, .pick (.t 10) (.k (.bool true)) (.t 22), none⟩] [2, 3, 4, 23] [2, 3, 4])
  (.cond (.t 23) (.seq (.reg [⟨some 24, .load true 3 (.t 2), none⟩,
    ⟨none, .store 3 (.t 4) (.t 24), none⟩] [4] [4])
  (.ret)) (.skip)))
  (.seq (.reg [⟨some 25, .load true 3 (.t 3), none⟩,
    ⟨none, .store 3 (.t 4) (.t 25), none⟩] [4] [4])
  (.ret)))
def spec_JoinReg.m : Fn := { np := 2, body := spec_JoinReg.b, res := [.cell 4 true 3] }
def spec_JoinReg.k (M : Nat → Option Body) : Prop := M 488 = some (.code spec_JoinReg.m) ∧ spec_Later.k M
def spec_JoinFlags.l0 : C := .seq (.seq (.reg [⟨some 8, .mv (.t 6), none⟩,
    ⟨some 9, .mv (.t 0), none⟩,
    ⟨some 10, .len (.t 9), none⟩,
    ⟨some 11, .bin .lss (.t 8) (.t 10), none⟩,
    ⟨some 12, .mv (.t 11), none⟩,
    ⟨some 13, .mv (.t 6), some (12, true)⟩,
    ⟨some 14, .mv (.t 1), some (12, true)⟩,
    ⟨some 15, .len (.t 14), some (12, true)⟩,
    ⟨some 16, .bin .lss (.t 13) (.t 15), some (12, true)⟩,
    ⟨some 17, .pick (.t 12) (.t 16) (.k (.bool false)), none⟩] [0, 1, 5, 6, 17] [7, 31])
  (.cond (.t 17) (.skip) (.exit 0)))
  (.seq (.block 1 (.regd [⟨some 20, .mv (.t 5), none⟩,
    ⟨some 21, .mv (.t 0), none⟩,
    ⟨some 22, .mv (.t 6), none⟩,
    ⟨some 23, .iaddr 3 (.t 21) (.t 22), none⟩,
    ⟨some 24, .load true 3 (.t 23), none⟩,
    ⟨some 25, .mv (.t 1), none⟩,
    ⟨some 26, .mv (.t 6), none⟩,
    ⟨some 27, .iaddr 3 (.t 25) (.t 26), none⟩,
    ⟨some 28, .load true 3 (.t 27), none⟩,
    ⟨some 29, .call 488 [.t 24, .t 28] [] [], none⟩,
    ⟨some 30, .bslice 3 1 [.int .i64 0, .int .i64 0, .int .i64 0] [(0, .t 29)], none⟩,
    ⟨some 31, .app 3 24 (.t 20) (.t 30), none⟩,
    ⟨some 5, .mv (.t 31), none⟩] [[], [], [], [1, 2], [1, 2, 3], [], [], [5, 6], [5, 6, 7], [1, 2, 3, 4, 5, 6, 7, 8], [1, 2, 3, 4, 5, 6, 7, 8, 9], List.range 11, List.range 12] [0, 1, 5, 6] [7, 31]))
  (.reg [⟨some 18, .mv (.t 6), none⟩,
    ⟨some 19, .bin .add (.t 18) (.k (.int .i64 1)), none⟩,
    ⟨some 6, .mv (.t 19), none⟩] [0, 1, 5, 6] [7, 31]))
def spec_JoinFlags.b : C := .seq (.reg [⟨some 4, .nil 3, none⟩] [0, 1] [])
  (.seq (.reg [⟨some 7, .bslice 3 0 [.int .i64 0, .int .i64 0, .int .i64 0] [], none⟩,
    ⟨some 5, .mv (.t 7), none⟩] [0, 1, 5] [7, 31])
  (.seq (.seq (.reg [⟨some 6, .mv (.k (.int .i64 0)), none⟩] [0, 1, 5, 6] [7, 31])
  (.block 0 (.loop spec_JoinFlags.l0)))
  (.seq (.reg [⟨some 32, .mv (.t 5), none⟩,
    ⟨some 4, .mv (.t 32), none⟩] [4] [4, 7, 31])
  (.ret))))
def spec_JoinFlags.m : Fn := { np := 2, body := spec_JoinFlags.b, res := [.tmp 4] }
def spec_JoinFlags.k (M : Nat → Option Body) : Prop := M 472 = some (.code spec_JoinFlags.m) ∧ spec_JoinReg.k M
def spec_JoinMail.b : C := .seq (.reg [⟨some 2, .box (.t 0), none⟩,
    ⟨some 3, .box (.t 1), none⟩,
    ⟨some 4, .alloc [.int .i64 0, .int .i64 0, .nils 3, .str ⟨#[]⟩], none⟩] [2, 3, 4] [2, 3, 4, 10702, 11800])
  (.seq (.reg [⟨some 6, .load true 4 (.t 2), none⟩,
    ⟨some 7, .call 238 [.t 6] [] [(2, 10702)], none⟩,
    ⟨some 5, .alloc [.int .i64 0, .int .i64 0, .nils 3, .str ⟨#[]⟩], none⟩,
    ⟨none, .store 4 (.t 5) (.t 7), none⟩] [2, 3, 4, 5] [2, 3, 4, 5, 10702, 11800])
  (.seq (.seq (.reg [⟨some 8, .faddr 0 (.t 2), none⟩,
    ⟨some 9, .load false 1 (.t 8), none⟩,
    ⟨some 10, .faddr 0 (.t 3), none⟩,
    ⟨some 11, .load false 1 (.t 10), none⟩,
    ⟨some 12, .bin .neq (.t 9) (.t 11), none⟩] [2, 3, 4, 5, 12] [2, 3, 4, 5, 10702, 11800])
  (.cond (.t 12) (.seq (.reg [⟨some 13, .load true 4 (.t 5), none⟩,
    ⟨none, .store 4 (.t 4) (.t 13), none⟩] [4] [4, 10702, 11800])
  (.ret)) (.skip)))
  (.seq (.reg [⟨some 14, .faddr 2 (.t 2), none⟩,
    ⟨some 15, .load false 1 (.t 14), none⟩,
    ⟨some 16, .faddr 2 (.t 3), none⟩,
    ⟨some 17, .load false 1 (.t 16), none⟩,
    ⟨some 18, .call 472 [.t 15, .t 17] [] [(0, 11800)], none⟩,
    ⟨some 19, .faddr 2 (.t 5), none⟩,
    ⟨none, .store 1 (.t 19) (.t 18), none⟩] [2, 3, 4, 5] [2, 3, 4, 5, 10702, 11800])
  (.seq (.seq (.reg [⟨some 20, .faddr 1 (.t 3), none⟩,
    ⟨some 21, .load false 1 (.t 20), none⟩,
    ⟨some 22, .faddr 1 (.t 2), none⟩,
    ⟨some 23, .load false 1 (.t 22), none⟩,
    ⟨some 24, .bin .gtr (.t 21) (.t 23), none⟩] [2, 3, 4, 5, 24] [2, 3, 4, 5, 10702, 11800])
  (.cond (.t 24) (.reg [⟨some 25, .faddr 1 (.t 3), none⟩,
    ⟨some 26, .load false 1 (.t 25), none⟩,
    ⟨some 27, .faddr 1 (.t 5), none⟩,
    ⟨none, .store 1 (.t 27) (.t 26), none⟩] [2, 3, 4, 5] [2, 3, 4, 5, 10702, 11800]) (.skip)))
  (.seq (.seq (.reg [⟨some 28, .faddr 3 (.t 3), none⟩,
    ⟨some 29, .load false 1 (.t 28), none⟩,
    ⟨some 30, .faddr 3 (.t 2), none⟩,
    ⟨some 31, .load false 1 (.t 30), none⟩,
    ⟨some 32, .bin .gtr (.t 29) (.t 31), none⟩] [3, 4, 5, 32] [3, 4, 5, 10702, 11800])
  (.cond (.t 32) (.reg [⟨some 33, .faddr 3 (.t 3), none⟩,
    ⟨some 34, .load false 1 (.t 33), none⟩,
    ⟨some 35, .faddr 3 (.t 5), none⟩,
    ⟨none, .store 1 (.t 35) (.t 34), none⟩] [4, 5] [4, 5, 10702, 11800]) (.skip)))
  (.seq (.reg [⟨some 36, .load true 4 (.t 5), none⟩,
    ⟨none, .store 4 (.t 4) (.t 36), none⟩] [4] [4, 10702, 11800])
  (.ret)))))))
def spec_JoinMail.m : Fn := { np := 2, body := spec_JoinMail.b, res := [.cell 4 true 4] }
def spec_JoinMail.k (M : Nat → Option Body) : Prop := M 461 = some (.code spec_JoinMail.m) ∧ spec_l05Copy.k M ∧ spec_JoinFlags.k M
end Mx

namespace Mx
open Go
def slices_DeleteFunc_impl_Mail_impl_Mail.l0 : C := .seq (.seq (.reg [⟨some 16, .mv (.t 6), none⟩,
    ⟨some 17, .mv (.t 0), none⟩,
    ⟨some 18, .len (.t 17), none⟩,
    ⟨some 19, .bin .lss (.t 16) (.t 18), none⟩] [0, 1, 5, 6, 19] [0])
  (.cond (.t 19) (.skip) (.exit 0)))
  (.seq (.block 1 (.seq (.reg [⟨some 22, .mv (.t 0), none⟩,
    ⟨some 23, .mv (.t 6), none⟩,
    ⟨some 24, .iaddr 4 (.t 22) (.t 23), none⟩,
    ⟨some 25, .load true 4 (.t 24), none⟩,
    ⟨some 7, .alloc [.int .i64 0, .int .i64 0, .nils 3, .str ⟨#[]⟩], none⟩,
    ⟨none, .store 4 (.t 7) (.t 25), none⟩] [0, 1, 5, 6, 7] [0, 7])
  (.seq (.reg [⟨some 26, .mv (.t 1), none⟩,
    ⟨some 27, .load true 4 (.t 7), none⟩,
    ⟨some 28, .callv (.t 26) [.t 27], none⟩,
    ⟨some 29, .not (.t 28), none⟩] [0, 1, 5, 6, 7, 29] [0, 7])
  (.cond (.t 29) (.seq (.reg [⟨some 30, .mv (.t 0), none⟩,
    ⟨some 31, .mv (.t 5), none⟩,
    ⟨some 32, .load true 4 (.t 7), none⟩,
    ⟨some 33, .iaddr 4 (.t 30) (.t 31), none⟩,
    ⟨none, .store 4 (.t 33) (.t 32), none⟩] [0, 1, 5, 6] [0])
  (.reg [⟨some 34, .mv (.t 5), none⟩,
    ⟨some 35, .bin .add (.t 34) (.k (.int .i64 1)), none⟩,
    ⟨some 5, .mv (.t 35), none⟩] [0, 1, 5, 6] [0])) (.skip)))))
  (.reg [⟨some 20, .mv (.t 6), none⟩,
    ⟨some 21, .bin .add (.t 20) (.k (.int .i64 1)), none⟩,
    ⟨some 6, .mv (.t 21), none⟩] [0, 1, 5, 6] [0]))
def slices_DeleteFunc_impl_Mail_impl_Mail.b : C := .seq (.reg [⟨some 4, .nil 4, none⟩] [0, 1] [0])
  (.seq (.reg [⟨some 8, .mv (.t 0), none⟩,
    ⟨some 9, .mv (.t 1), none⟩,
    ⟨some 10, .call 161 [.t 8, .t 9] [] [], none⟩,
    ⟨some 5, .mv (.t 10), none⟩] [0, 1, 5] [0])
  (.seq (.seq (.reg [⟨some 11, .mv (.t 5), none⟩,
    ⟨some 12, .bin .eql (.t 11) (.k (.int .i64 (-1))), none⟩] [0, 1, 5, 12] [0])
  (.cond (.t 12) (.seq (.reg [⟨some 13, .mv (.t 0), none⟩,
    ⟨some 4, .mv (.t 13), none⟩] [4] [0, 4])
  (.ret)) (.skip)))
  (.seq (.seq (.reg [⟨some 14, .mv (.t 5), none⟩,
    ⟨some 15, .bin .add (.t 14) (.k (.int .i64 1)), none⟩,
    ⟨some 6, .mv (.t 15), none⟩] [0, 1, 5, 6] [0])
  (.block 0 (.loop slices_DeleteFunc_impl_Mail_impl_Mail.l0)))
  (.seq (.reg [⟨some 36, .mv (.t 0), none⟩,
    ⟨some 37, .mv (.t 5), none⟩,
    ⟨some 38, .slc 4 (.t 36) (some (.t 37)) none none, none⟩,
    ⟨none, .clr [.int .i64 0, .int .i64 0, .nils 3, .str ⟨#[]⟩] (.t 38), none⟩] [0, 5] [0])
  (.seq (.reg [⟨some 39, .mv (.t 0), none⟩,
    ⟨some 40, .mv (.t 5), none⟩,
    ⟨some 41, .slc 4 (.t 39) none (some (.t 40)) none, none⟩,
    ⟨some 4, .mv (.t 41), none⟩] [4] [0, 4])
  (.ret))))))
def slices_DeleteFunc_impl_Mail_impl_Mail.m : Fn := { np := 2, body := slices_DeleteFunc_impl_Mail_impl_Mail.b, res := [.tmp 4] }
def slices_DeleteFunc_impl_Mail_impl_Mail.k (M : Nat → Option Body) : Prop := M 453 = some (.code slices_DeleteFunc_impl_Mail_impl_Mail.m) ∧ slices_IndexFunc_impl_Mail_impl_Mail.k M
def impl_joined_1.b : C := .seq (.reg [⟨some 2, .box (.t 0), none⟩,
    ⟨some 3, .mv (.k (.bool false)), none⟩] [1, 2] [2])
  (.seq (.reg [⟨some 4, .load false 1 (.t 1), none⟩,
    ⟨some 5, .faddr 0 (.t 2), none⟩,
    ⟨some 6, .load false 1 (.t 5), none⟩,
    ⟨some 7, .call 156 [.t 4, .t 6] [] [], none⟩,
    ⟨some 3, .mv (.t 7), none⟩] [3] [])
  (.ret))
def impl_joined_1.m : Fn := { np := 2, body := impl_joined_1.b, res := [.tmp 3] }
def impl_joined_1.k (M : Nat → Option Body) : Prop := M 454 = some (.code impl_joined_1.m) ∧ slices_Contains_int_int.k M
def slices_insertionSortCmpFunc_impl_Mail.l1 : C := .seq (.seq (.regd [⟨some 18, .mv (.t 9), none⟩,
    ⟨some 19, .mv (.t 1), none⟩,
    ⟨some 20, .bin .gtr (.t 18) (.t 19), none⟩,
    ⟨some 21, .mv (.t 20), none⟩,
    ⟨some 22, .mv (.t 3), some (21, true)⟩,
    ⟨some 23, .mv (.t 0), some (21, true)⟩,
    ⟨some 24, .mv (.t 9), some (21, true)⟩,
    ⟨some 25, .iaddr 4 (.t 23) (.t 24), some (21, true)⟩,
    ⟨some 26, .load true 4 (.t 25), some (21, true)⟩,
    ⟨some 27, .mv (.t 0), some (21, true)⟩,
    ⟨some 28, .mv (.t 9), some (21, true)⟩,
    ⟨some 29, .bin .sub (.t 28) (.k (.int .i64 1)), some (21, true)⟩,
    ⟨some 30, .iaddr 4 (.t 27) (.t 29), some (21, true)⟩,
    ⟨some 31, .load true 4 (.t 30), some (21, true)⟩,
    ⟨some 32, .callv (.t 22) [.t 26, .t 31], some (21, true)⟩,
    ⟨some 33, .bin .lss (.t 32) (.k (.int .i64 0)), some (21, true)⟩,
    ⟨some 34, .pick (.t 21) (.t 33) (.k (.bool false)), none⟩] [[], [], [0, 1], [0, 1, 2], List.range 4, List.range 4, List.range 4, List.range 4 ++ [5, 6], List.range 4 ++ [5, 6, 7], List.range 4, List.range 4, List.range 4 ++ [10], List.range 4 ++ [9, 10, 11], List.range 4 ++ [9, 10, 11, 12], List.range 14, List.range 15, List.range 16] [0, 1, 2, 3, 8, 9, 34] [0])
  (.cond (.t 34) (.skip) (.exit 2)))
  (.seq (.block 3 (.regd [⟨some 37, .mv (.t 0), none⟩,
    ⟨some 38, .mv (.t 9), none⟩,
    ⟨some 39, .mv (.t 0), none⟩,
    ⟨some 40, .mv (.t 9), none⟩,
    ⟨some 41, .bin .sub (.t 40) (.k (.int .i64 1)), none⟩,
    ⟨some 42, .mv (.t 0), none⟩,
    ⟨some 43, .mv (.t 9), none⟩,
    ⟨some 44, .bin .sub (.t 43) (.k (.int .i64 1)), none⟩,
    ⟨some 45, .iaddr 4 (.t 42) (.t 44), none⟩,
    ⟨some 46, .load true 4 (.t 45), none⟩,
    ⟨some 47, .mv (.t 0), none⟩,
    ⟨some 48, .mv (.t 9), none⟩,
    ⟨some 49, .iaddr 4 (.t 47) (.t 48), none⟩,
    ⟨some 50, .load true 4 (.t 49), none⟩,
    ⟨some 51, .iaddr 4 (.t 37) (.t 38), none⟩,
    ⟨none, .store 4 (.t 51) (.t 46), none⟩,
    ⟨some 52, .iaddr 4 (.t 39) (.t 41), none⟩,
    ⟨none, .store 4 (.t 52) (.t 50), none⟩] [[], [], [], [], [3], [], [], [6], [5, 6, 7], [5, 6, 7, 8], [], [], [10, 11], [10, 11, 12], [0, 1, 5, 6, 7, 8, 9, 10, 11, 12, 13], [0, 1, 5, 6, 7, 8, 9, 10, 11, 12, 13, 14], List.range 16, List.range 17] [0, 1, 2, 3, 8, 9] [0]))
  (.reg [⟨some 35, .mv (.t 9), none⟩,
    ⟨some 36, .bin .sub (.t 35) (.k (.int .i64 1)), none⟩,
    ⟨some 9, .mv (.t 36), none⟩] [0, 1, 2, 3, 8, 9] [0]))
def slices_insertionSortCmpFunc_impl_Mail.l0 : C := .seq (.seq (.reg [⟨some 12, .mv (.t 8), none⟩,
    ⟨some 13, .mv (.t 2), none⟩,
    ⟨some 14, .bin .lss (.t 12) (.t 13), none⟩] [0, 1, 2, 3, 8, 14] [0])
  (.cond (.t 14) (.skip) (.exit 0)))
  (.seq (.block 1 (.seq (.reg [⟨some 17, .mv (.t 8), none⟩,
    ⟨some 9, .mv (.t 17), none⟩] [0, 1, 2, 3, 8, 9] [0])
  (.block 2 (.loop slices_insertionSortCmpFunc_impl_Mail.l1))))
  (.reg [⟨some 15, .mv (.t 8), none⟩,
    ⟨some 16, .bin .add (.t 15) (.k (.int .i64 1)), none⟩,
    ⟨some 8, .mv (.t 16), none⟩] [0, 1, 2, 3, 8] [0]))
def slices_insertionSortCmpFunc_impl_Mail.b : C := .seq (.reg [⟨some 10, .mv (.t 1), none⟩,
    ⟨some 11, .bin .add (.t 10) (.k (.int .i64 1)), none⟩,
    ⟨some 8, .mv (.t 11), none⟩] [0, 1, 2, 3, 8] [0])
  (.block 0 (.loop slices_insertionSortCmpFunc_impl_Mail.l0))
def slices_insertionSortCmpFunc_impl_Mail.m : Fn := { np := 4, body := slices_insertionSortCmpFunc_impl_Mail.b, res := [] }
def slices_insertionSortCmpFunc_impl_Mail.k (M : Nat → Option Body) : Prop := M 486 = some (.code slices_insertionSortCmpFunc_impl_Mail.m)
def slices_stableCmpFunc_impl_Mail.l0 : C := .seq (.seq (.reg [⟨some 11, .mv (.t 8), none⟩,
    ⟨some 12, .mv (.t 1), none⟩,
    ⟨some 13, .bin .leq (.t 11) (.t 12), none⟩] [0, 1, 2, 6, 7, 8, 13] [0])
  (.cond (.t 13) (.skip) (.exit 0)))
  (.block 1 (.seq (.reg [⟨some 14, .mv (.t 0), none⟩,
    ⟨some 15, .mv (.t 7), none⟩,
    ⟨some 16, .mv (.t 8), none⟩,
    ⟨some 17, .mv (.t 2), none⟩,
    ⟨some 18, .call 486 [.t 14, .t 15, .t 16, .t 17] [0] [], none⟩] [0, 1, 2, 6, 8] [0])
  (.seq (.reg [⟨some 19, .mv (.t 8), none⟩,
    ⟨some 7, .mv (.t 19), none⟩] [0, 1, 2, 6, 7, 8] [0])
  (.reg [⟨some 20, .mv (.t 8), none⟩,
    ⟨some 21, .mv (.t 6), none⟩,
    ⟨some 22, .bin .add (.t 20) (.t 21), none⟩,
    ⟨some 8, .mv (.t 22), none⟩] [0, 1, 2, 6, 7, 8] [0]))))
def slices_stableCmpFunc_impl_Mail.l2 : C := .seq (.seq (.reg [⟨some 33, .mv (.t 8), none⟩,
    ⟨some 34, .mv (.t 1), none⟩,
    ⟨some 35, .bin .leq (.t 33) (.t 34), none⟩] [0, 1, 2, 6, 7, 8, 35] [0])
  (.cond (.t 35) (.skip) (.exit 4)))
  (.block 5 (.seq (.reg [⟨some 36, .mv (.t 0), none⟩,
    ⟨some 37, .mv (.t 7), none⟩,
    ⟨some 38, .mv (.t 7), none⟩,
    ⟨some 39, .mv (.t 6), none⟩,
    ⟨some 40, .bin .add (.t 38) (.t 39), none⟩,
    ⟨some 41, .mv (.t 8), none⟩,
    ⟨some 42, .mv (.t 2), none⟩,
    ⟨some 43, .call 487 [.t 36, .t 37, .t 40, .t 41, .t 42] [0] [], none⟩] [0, 1, 2, 6, 8] [0])
  (.seq (.reg [⟨some 44, .mv (.t 8), none⟩,
    ⟨some 7, .mv (.t 44), none⟩] [0, 1, 2, 6, 7, 8] [0])
  (.reg [⟨some 45, .mv (.t 8), none⟩,
    ⟨some 46, .mv (.t 6), none⟩,
    ⟨some 47, .bin .mul (.k (.int .i64 2)) (.t 46), none⟩,
    ⟨some 48, .bin .add (.t 45) (.t 47), none⟩,
    ⟨some 8, .mv (.t 48), none⟩] [0, 1, 2, 6, 7, 8] [0]))))
def slices_stableCmpFunc_impl_Mail.l1 : C := .seq (.seq (.reg [⟨some 28, .mv (.t 6), none⟩,
    ⟨some 29, .mv (.t 1), none⟩,
    ⟨some 30, .bin .lss (.t 28) (.t 29), none⟩] [0, 1, 2, 6, 30] [0])
  (.cond (.t 30) (.skip) (.exit 2)))
  (.block 3 (.seq (.reg [⟨some 31, .mv (.t 6), none⟩,
    ⟨some 32, .bin .mul (.k (.int .i64 2)) (.t 31), none⟩,
    ⟨some 7, .mv (.k (.int .i64 0)), none⟩,
    ⟨some 8, .mv (.t 32), none⟩] [0, 1, 2, 6, 7, 8] [0])
  (.seq (.block 4 (.loop slices_stableCmpFunc_impl_Mail.l2))
  (.seq (.seq (.reg [⟨some 49, .mv (.t 7), none⟩,
    ⟨some 50, .mv (.t 6), none⟩,
    ⟨some 51, .bin .add (.t 49) (.t 50), none⟩,
    ⟨some 9, .mv (.t 51), none⟩] [0, 1, 2, 6, 7, 9] [0])
  (.seq (.reg [⟨some 52, .mv (.t 9), none⟩,
    ⟨some 53, .mv (.t 1), none⟩,
    ⟨some 54, .bin .lss (.t 52) (.t 53), none⟩] [0, 1, 2, 6, 7, 9, 54] [0])
  (.cond (.t 54) (.reg [⟨some 55, .mv (.t 0), none⟩,
    ⟨some 56, .mv (.t 7), none⟩,
    ⟨some 57, .mv (.t 9), none⟩,
    ⟨some 58, .mv (.t 1), none⟩,
    ⟨some 59, .mv (.t 2), none⟩,
    ⟨some 60, .call 487 [.t 55, .t 56, .t 57, .t 58, .t 59] [0] [], none⟩] [0, 1, 2, 6] [0]) (.skip))))
  (.reg [⟨some 61, .mv (.t 6), none⟩,
    ⟨some 62, .bin .mul (.t 61) (.k (.int .i64 2)), none⟩,
    ⟨some 6, .mv (.t 62), none⟩] [0, 1, 2, 6] [0])))))
def slices_stableCmpFunc_impl_Mail.b : C := .seq (.reg [⟨some 6, .mv (.k (.int .i64 20)), none⟩] [0, 1, 2, 6] [0])
  (.seq (.reg [⟨some 10, .mv (.t 6), none⟩,
    ⟨some 7, .mv (.k (.int .i64 0)), none⟩,
    ⟨some 8, .mv (.t 10), none⟩] [0, 1, 2, 6, 7, 8] [0])
  (.seq (.block 0 (.loop slices_stableCmpFunc_impl_Mail.l0))
  (.seq (.reg [⟨some 23, .mv (.t 0), none⟩,
    ⟨some 24, .mv (.t 7), none⟩,
    ⟨some 25, .mv (.t 1), none⟩,
    ⟨some 26, .mv (.t 2), none⟩,
    ⟨some 27, .call 486 [.t 23, .t 24, .t 25, .t 26] [0] [], none⟩] [0, 1, 2, 6] [0])
  (.block 2 (.loop slices_stableCmpFunc_impl_Mail.l1)))))
def slices_stableCmpFunc_impl_Mail.m : Fn := { np := 3, body := slices_stableCmpFunc_impl_Mail.b, res := [] }
def slices_stableCmpFunc_impl_Mail.k (M : Nat → Option Body) : Prop := M 471 = some (.code slices_stableCmpFunc_impl_Mail.m) ∧ slices_insertionSortCmpFunc_impl_Mail.k M
def slices_SortStableFunc_impl_Mail_impl_Mail.b : C := .reg [⟨some 4, .mv (.t 0), none⟩,
    ⟨some 5, .mv (.t 0), none⟩,
    ⟨some 6, .len (.t 5), none⟩,
    ⟨some 7, .mv (.t 1), none⟩,
    ⟨some 8, .call 471 [.t 4, .t 6, .t 7] [0] [], none⟩] [] [0]
def slices_SortStableFunc_impl_Mail_impl_Mail.m : Fn := { np := 2, body := slices_SortStableFunc_impl_Mail_impl_Mail.b, res := [] }
def slices_SortStableFunc_impl_Mail_impl_Mail.k (M : Nat → Option Body) : Prop := M 455 = some (.code slices_SortStableFunc_impl_Mail_impl_Mail.m) ∧ slices_stableCmpFunc_impl_Mail.k M
def impl_compare.b : C := .seq (.reg [⟨some 4, .mv (.k (.int .i64 0)), none⟩] [0, 1] [])
  (.seq (.block 0 (.seq (.reg [⟨some 6, .mv (.t 0), none⟩,
    ⟨some 7, .mv (.t 1), none⟩,
    ⟨some 8, .bin .lss (.t 6) (.t 7), none⟩,
    ⟨some 5, .mv (.t 8), none⟩] [0, 1, 5] [])
  (.cond (.t 5) (.seq (.reg [⟨some 4, .mv (.k (.int .i64 (-1))), none⟩] [4] [])
  (.ret)) (.seq (.reg [⟨some 10, .mv (.t 0), none⟩,
    ⟨some 11, .mv (.t 1), none⟩,
    ⟨some 12, .bin .gtr (.t 10) (.t 11), none⟩,
    ⟨some 9, .mv (.t 12), none⟩] [9] [])
  (.cond (.t 9) (.seq (.reg [⟨some 4, .mv (.k (.int .i64 1)), none⟩] [4] [])
  (.ret)) (.skip))))))
  (.seq (.reg [⟨some 4, .mv (.k (.int .i64 0)), none⟩] [4] [])
  (.ret)))
def impl_compare.m : Fn := { np := 2, body := impl_compare.b, res := [.tmp 4] }
def impl_compare.k (M : Nat → Option Body) : Prop := M 457 = some (.code impl_compare.m)
def impl_joined_2.b : C := .seq (.reg [⟨some 2, .box (.t 0), none⟩,
    ⟨some 3, .box (.t 1), none⟩,
    ⟨some 4, .mv (.k (.int .i64 0)), none⟩] [2, 3] [2, 3])
  (.seq (.reg [⟨some 5, .faddr 0 (.t 2), none⟩,
    ⟨some 6, .load false 1 (.t 5), none⟩,
    ⟨some 7, .faddr 0 (.t 3), none⟩,
    ⟨some 8, .load false 1 (.t 7), none⟩,
    ⟨some 9, .call 457 [.t 6, .t 8] [] [], none⟩,
    ⟨some 4, .mv (.t 9), none⟩] [4] [])
  (.ret))
def impl_joined_2.m : Fn := { np := 2, body := impl_joined_2.b, res := [.tmp 4] }
def impl_joined_2.k (M : Nat → Option Body) : Prop := M 456 = some (.code impl_joined_2.m) ∧ impl_compare.k M
def impl_joined_3.b : C := .seq (.reg [⟨some 2, .box (.t 0), none⟩,
    ⟨some 3, .box (.t 1), none⟩,
    ⟨some 4, .mv (.k (.int .i64 0)), none⟩] [2, 3] [2, 3])
  (.seq (.reg [⟨some 5, .faddr 1 (.t 2), none⟩,
    ⟨some 6, .load false 1 (.t 5), none⟩,
    ⟨some 7, .faddr 1 (.t 3), none⟩,
    ⟨some 8, .load false 1 (.t 7), none⟩,
    ⟨some 9, .call 457 [.t 6, .t 8] [] [], none⟩,
    ⟨some 4, .mv (.t 9), none⟩] [4] [])
  (.ret))
def impl_joined_3.m : Fn := { np := 2, body := impl_joined_3.b, res := [.tmp 4] }
def impl_joined_3.k (M : Nat → Option Body) : Prop := M 458 = some (.code impl_joined_3.m) ∧ impl_compare.k M
def impl_joined.l0 : C := .seq (.reg [⟨some 21, .bin .lss (.t 20) (.t 19), none⟩] [2, 3, 6, 18, 19, 20, 21] [2, 3, 16, 41, 59, 16800])
  (.seq (.cond (.t 21) (.skip) (.exit 0))
  (.seq (.block 1 (.seq (.reg [⟨some 22, .iaddr 4 (.t 18) (.t 20), none⟩,
    ⟨some 23, .load true 4 (.t 22), none⟩,
    ⟨some 8, .alloc [.int .i64 0, .int .i64 0, .nils 3, .str ⟨#[]⟩], none⟩,
    ⟨none, .store 4 (.t 8) (.t 23), none⟩] [2, 3, 6, 8, 18, 19, 20] [2, 3, 8, 16, 41, 59, 16800])
  (.seq (.seq (.reg [⟨some 24, .load true 7 (.t 3), none⟩,
    ⟨some 25, .faddr 0 (.t 8), none⟩,
    ⟨some 26, .load false 1 (.t 25), none⟩,
    ⟨some 27, .call 72 [.t 24, .t 26] [] [], none⟩,
    ⟨some 9, .mv (.t 27), none⟩] [2, 3, 6, 8, 9, 18, 19, 20] [2, 3, 8, 16, 41, 59, 16800])
  (.seq (.reg [⟨some 28, .mv (.t 9), none⟩,
    ⟨some 29, .bin .geq (.t 28) (.k (.int .i64 0)), none⟩] [2, 3, 6, 8, 9, 18, 19, 20, 29] [2, 3, 8, 16, 41, 59, 16800])
  (.cond (.t 29) (.regd [⟨some 30, .load true 4 (.t 8), none⟩,
    ⟨some 31, .faddr 5 (.t 3), none⟩,
    ⟨some 32, .load false 1 (.t 31), none⟩,
    ⟨some 33, .mv (.t 9), none⟩,
    ⟨some 34, .iaddr 4 (.t 32) (.t 33), none⟩,
    ⟨some 35, .load true 4 (.t 34), none⟩,
    ⟨some 36, .call 452 [.t 30, .t 35] [] [], none⟩,
    ⟨none, .store 4 (.t 8) (.t 36), none⟩] [[], [], [1], [], [1, 2, 3], [1, 2, 3, 4], List.range 6, List.range 7] [2, 3, 6, 8, 18, 19, 20] [2, 3, 8, 16, 41, 59, 16800]) (.skip))))
  (.reg [⟨some 37, .mv (.t 6), none⟩,
    ⟨some 38, .load true 4 (.t 8), none⟩,
    ⟨some 39, .call 233 [.t 38] [] [], none⟩,
    ⟨some 40, .bslice 4 1 [.int .i64 0, .int .i64 0, .nils 3, .str ⟨#[]⟩] [(0, .t 39)], none⟩,
    ⟨some 41, .app 4 56 (.t 37) (.t 40), none⟩,
    ⟨some 6, .mv (.t 41), none⟩] [2, 3, 6, 18, 19, 20] [2, 3, 16, 41, 59, 16800]))))
  (.reg [⟨some 42, .bin .add (.t 20) (.k (.int .i64 1)), none⟩,
    ⟨some 20, .mv (.t 42), none⟩] [2, 3, 6, 18, 19, 20] [2, 3, 16, 41, 59, 16800])))
def impl_joined.l1 : C := .seq (.reg [⟨some 47, .bin .lss (.t 46) (.t 45), none⟩] [2, 3, 6, 44, 45, 46, 47] [2, 3, 16, 41, 59, 16800])
  (.seq (.cond (.t 47) (.skip) (.exit 2))
  (.seq (.block 3 (.seq (.reg [⟨some 48, .iaddr 4 (.t 44) (.t 46), none⟩,
    ⟨some 49, .load true 4 (.t 48), none⟩,
    ⟨some 11, .alloc [.int .i64 0, .int .i64 0, .nils 3, .str ⟨#[]⟩], none⟩,
    ⟨none, .store 4 (.t 11) (.t 49), none⟩] [2, 3, 6, 11, 44, 45, 46] [2, 3, 11, 16, 41, 59, 16800])
  (.seq (.reg [⟨some 50, .load true 7 (.t 2), none⟩,
    ⟨some 51, .faddr 0 (.t 11), none⟩,
    ⟨some 52, .load false 1 (.t 51), none⟩,
    ⟨some 53, .call 20 [.t 50, .t 52] [] [], none⟩,
    ⟨some 54, .not (.t 53), none⟩] [2, 3, 6, 11, 44, 45, 46, 54] [2, 3, 11, 16, 41, 59, 16800])
  (.cond (.t 54) (.reg [⟨some 55, .mv (.t 6), none⟩,
    ⟨some 56, .load true 4 (.t 11), none⟩,
    ⟨some 57, .call 233 [.t 56] [] [], none⟩,
    ⟨some 58, .bslice 4 1 [.int .i64 0, .int .i64 0, .nils 3, .str ⟨#[]⟩] [(0, .t 57)], none⟩,
    ⟨some 59, .app 4 56 (.t 55) (.t 58), none⟩,
    ⟨some 6, .mv (.t 59), none⟩] [2, 3, 6, 44, 45, 46] [2, 3, 16, 41, 59, 16800]) (.skip)))))
  (.reg [⟨some 60, .bin .add (.t 46) (.k (.int .i64 1)), none⟩,
    ⟨some 46, .mv (.t 60), none⟩] [2, 3, 6, 44, 45, 46] [2, 3, 16, 41, 59, 16800])))
def impl_joined.l2 : C := .seq (.reg [⟨some 79, .bin .lss (.t 78) (.t 77), none⟩] [2, 3, 6, 13, 76, 77, 78, 79] [2, 3, 16, 41, 59, 16800])
  (.seq (.cond (.t 79) (.skip) (.exit 4))
  (.seq (.block 5 (.seq (.reg [⟨some 80, .mv (.t 78), none⟩,
    ⟨some 81, .iaddr 4 (.t 76) (.t 78), none⟩,
    ⟨some 82, .load true 4 (.t 81), none⟩,
    ⟨some 15, .alloc [.int .i64 0, .int .i64 0, .nils 3, .str ⟨#[]⟩], none⟩,
    ⟨some 14, .mv (.t 80), none⟩,
    ⟨none, .store 4 (.t 15) (.t 82), none⟩] [2, 3, 6, 13, 14, 15, 76, 77, 78] [2, 3, 15, 16, 41, 59, 16800])
  (.seq (.reg [⟨some 83, .load true 7 (.t 2), none⟩,
    ⟨some 84, .faddr 0 (.t 15), none⟩,
    ⟨some 85, .load false 1 (.t 84), none⟩,
    ⟨some 86, .call 20 [.t 83, .t 85] [] [], none⟩,
    ⟨some 87, .mv (.t 86), none⟩,
    ⟨some 88, .load true 7 (.t 2), some (87, true)⟩,
    ⟨some 89, .load true 7 (.t 3), some (87, true)⟩,
    ⟨some 90, .faddr 0 (.t 15), some (87, true)⟩,
    ⟨some 91, .load false 1 (.t 90), some (87, true)⟩,
    ⟨some 92, .call 23 [.t 88, .t 89, .t 91] [] [], some (87, true)⟩,
    ⟨some 93, .not (.t 92), some (87, true)⟩,
    ⟨some 94, .pick (.t 87) (.t 93) (.k (.bool false)), none⟩,
    ⟨some 95, .mv (.t 94), none⟩,
    ⟨some 96, .load true 7 (.t 3), some (95, false)⟩,
    ⟨some 97, .faddr 0 (.t 15), some (95, false)⟩,
    ⟨some 98, .load false 1 (.t 97), some (95, false)⟩,
    ⟨some 99, .call 20 [.t 96, .t 98] [] [], some (95, false)⟩,
    ⟨some 100, .mv (.t 99), some (95, false)⟩,
    ⟨some 101, .load true 7 (.t 3), some (100, true)⟩,
    ⟨some 102, .load true 7 (.t 2), some (100, true)⟩,
    ⟨some 103, .faddr 0 (.t 15), some (100, true)⟩,
    ⟨some 104, .load false 1 (.t 103), some (100, true)⟩,
    ⟨some 105, .call 23 [.t 101, .t 102, .t 104] [] [], some (100, true)⟩,
    ⟨some 106, .not (.t 105), some (100, true)⟩,
    ⟨some 107, .pick (.t 100) (.t 106) (.k (.bool false)), some (95, false)⟩,
    ⟨some 108, .pick (.t 95) (.k (.bool true)) (.t 107), none⟩] [2, 3, 6, 13, 14, 76, 77, 78, 108] [2, 3, 16, 41, 59, 16800])
  (.cond (.t 108) (.seq (.reg [⟨some 109, .mv (.t 6), none⟩,
    ⟨some 110, .mv (.t 14), none⟩,
    ⟨some 111, .mv (.t 13), none⟩,
    ⟨some 112, .iaddr 4 (.t 109) (.t 110), none⟩,
    ⟨some 113, .faddr 1 (.t 112), none⟩,
    ⟨none, .store 1 (.t 113) (.t 111), none⟩] [2, 3, 6, 13, 76, 77, 78] [2, 3, 16, 41, 59, 16800])
  (.reg [⟨some 114, .mv (.t 13), none⟩,
    ⟨some 115, .bin .add (.t 114) (.k (.int .i64 1)), none⟩,
    ⟨some 13, .mv (.t 115), none⟩] [2, 3, 6, 13, 76, 77, 78] [2, 3, 16, 41, 59, 16800])) (.skip)))))
  (.reg [⟨some 116, .bin .add (.t 78) (.k (.int .i64 1)), none⟩,
    ⟨some 78, .mv (.t 116), none⟩] [2, 3, 6, 13, 76, 77, 78] [2, 3, 16, 41, 59, 16800])))
def impl_joined.b : C := .seq (.reg [⟨some 2, .box (.t 0), none⟩,
    ⟨some 3, .box (.t 1), none⟩,
    ⟨some 4, .nil 4, none⟩,
    ⟨some 5, .mv (.k (.int .i64 0)), none⟩] [2, 3] [2, 3])
  (.seq (.reg [⟨some 16, .bslice 4 0 [.int .i64 0, .int .i64 0, .nils 3, .str ⟨#[]⟩] [], none⟩,
    ⟨some 6, .mv (.t 16), none⟩] [2, 3, 6] [2, 3, 16, 41, 59, 16800])
  (.seq (.seq (.reg [⟨some 17, .faddr 5 (.t 2), none⟩,
    ⟨some 18, .load false 1 (.t 17), none⟩,
    ⟨some 19, .len (.t 18), none⟩,
    ⟨some 20, .mv (.k (.int .i64 0)), none⟩] [2, 3, 6, 18, 19, 20] [2, 3, 16, 41, 59, 16800])
  (.block 0 (.loop impl_joined.l0)))
  (.seq (.seq (.reg [⟨some 43, .faddr 5 (.t 3), none⟩,
    ⟨some 44, .load false 1 (.t 43), none⟩,
    ⟨some 45, .len (.t 44), none⟩,
    ⟨some 46, .mv (.k (.int .i64 0)), none⟩] [2, 3, 6, 44, 45, 46] [2, 3, 16, 41, 59, 16800])
  (.block 2 (.loop impl_joined.l1)))
  (.seq (.reg [⟨some 61, .faddr 6 (.t 2), none⟩,
    ⟨some 62, .load false 1 (.t 61), none⟩,
    ⟨some 63, .faddr 6 (.t 3), none⟩,
    ⟨some 64, .load false 1 (.t 63), none⟩,
    ⟨some 65, .call 44 [.t 62, .t 64] [] [], none⟩,
    ⟨some 12, .alloc [.nils 1], none⟩,
    ⟨none, .store 1 (.t 12) (.t 65), none⟩] [2, 3, 6, 12] [2, 3, 12, 16, 41, 59, 16800])
  (.seq (.shut [12] (.reg [⟨some 66, .mv (.t 6), none⟩,
    ⟨some 67, .mkfn 454 [.t 12], none⟩,
    ⟨some 68, .call 453 [.t 66, .t 67] [0] [(0, 16800)], none⟩,
    ⟨some 6, .mv (.t 68), none⟩] [2, 3, 6] [2, 3, 16, 41, 59, 16800]))
  (.seq (.reg [⟨some 69, .mv (.t 6), none⟩,
    ⟨some 70, .call 455 [.t 69, .fn 456] [0] [], none⟩] [2, 3, 6] [2, 3, 16, 41, 59, 16800])
  (.seq (.reg [⟨some 71, .faddr 4 (.t 2), none⟩,
    ⟨some 72, .load false 1 (.t 71), none⟩,
    ⟨some 73, .faddr 4 (.t 3), none⟩,
    ⟨some 74, .load false 1 (.t 73), none⟩,
    ⟨some 75, .max (.t 72) (.t 74), none⟩,
    ⟨some 13, .mv (.t 75), none⟩] [2, 3, 6, 13] [2, 3, 16, 41, 59, 16800])
  (.seq (.seq (.reg [⟨some 76, .mv (.t 6), none⟩,
    ⟨some 77, .len (.t 76), none⟩,
    ⟨some 78, .mv (.k (.int .i64 0)), none⟩] [2, 3, 6, 13, 76, 77, 78] [2, 3, 16, 41, 59, 16800])
  (.block 4 (.loop impl_joined.l2)))
  (.seq (.reg [⟨some 117, .mv (.t 6), none⟩,
    ⟨some 118, .call 455 [.t 117, .fn 458] [0] [], none⟩] [6, 13] [16, 41, 59, 16800])
  (.seq (.reg [⟨some 119, .mv (.t 6), none⟩,
    ⟨some 120, .mv (.t 13), none⟩,
    ⟨some 4, .mv (.t 119), none⟩,
    ⟨some 5, .mv (.t 120), none⟩] [4, 5] [4, 16, 41, 59, 16800])
  (.ret)))))))))))
def impl_joined.m : Fn := { np := 2, body := impl_joined.b, res := [.tmp 4, .tmp 5] }
def impl_joined.k (M : Nat → Option Body) : Prop := M 437 = some (.code impl_joined.m) ∧ impl_Holds.k M ∧ impl_KeepsUid.k M ∧ impl_JoinGone.k M ∧ impl_MailAt.k M ∧ impl_copyMail.k M ∧ impl_JoinMail.k M ∧ slices_DeleteFunc_impl_Mail_impl_Mail.k M ∧ impl_joined_1.k M ∧ slices_SortStableFunc_impl_Mail_impl_Mail.k M ∧ impl_joined_2.k M ∧ impl_joined_3.k M
def impl_JoinBox.b : C := .seq (.reg [⟨some 2, .box (.t 0), none⟩,
    ⟨some 3, .box (.t 1), none⟩,
    ⟨some 4, .alloc [.int .i64 0, .str ⟨#[]⟩, .int .i64 0, .int .i64 0, .int .i64 0, .nils 4, .nils 1], none⟩] [2, 3, 4] [2, 3, 4, 11205, 11206, 12300, 15400])
  (.seq (.seq (.reg [⟨some 6, .faddr 0 (.t 2), none⟩,
    ⟨some 7, .load false 1 (.t 6), none⟩,
    ⟨some 8, .faddr 0 (.t 3), none⟩,
    ⟨some 9, .load false 1 (.t 8), none⟩,
    ⟨some 10, .bin .neq (.t 7) (.t 9), none⟩] [2, 3, 4, 10] [2, 3, 4, 11205, 11206, 12300, 15400])
  (.cond (.t 10) (.seq (.reg [⟨some 11, .load true 7 (.t 2), none⟩,
    ⟨some 12, .call 155 [.t 11] [] [(5, 11205), (6, 11206)], none⟩,
    ⟨none, .store 7 (.t 4) (.t 12), none⟩] [4] [4, 11205, 11206, 12300, 15400])
  (.ret)) (.skip)))
  (.seq (.regd [⟨some 13, .faddr 0 (.t 2), none⟩,
    ⟨some 14, .load false 1 (.t 13), none⟩,
    ⟨some 15, .faddr 1 (.t 2), none⟩,
    ⟨some 16, .load false 1 (.t 15), none⟩,
    ⟨some 17, .faddr 2 (.t 2), none⟩,
    ⟨some 18, .load true 2 (.t 17), none⟩,
    ⟨some 19, .faddr 6 (.t 2), none⟩,
    ⟨some 20, .load false 1 (.t 19), none⟩,
    ⟨some 21, .faddr 6 (.t 3), none⟩,
    ⟨some 22, .load false 1 (.t 21), none⟩,
    ⟨some 23, .call 44 [.t 20, .t 22] [] [(0, 12300)], none⟩,
    ⟨some 24, .build [.int .i64 0, .str ⟨#[]⟩, .int .i64 0, .int .i64 0, .int .i64 0, .nils 4, .nils 1] [(0, 1, .t 14), (1, 1, .t 16), (2, 2, .t 18), (6, 1, .t 23)], none⟩,
    ⟨some 5, .alloc [.int .i64 0, .str ⟨#[]⟩, .int .i64 0, .int .i64 0, .int .i64 0, .nils 4, .nils 1], none⟩,
    ⟨none, .store 7 (.t 5) (.t 24), none⟩] [[], [0], [], [2], [], [4], [], [6], [], [8], [6, 7, 8, 9], List.range 11, [], List.range 13] [2, 3, 4, 5] [2, 3, 4, 5, 11205, 11206, 12300, 15400])
  (.seq (.seq (.reg [⟨some 25, .faddr 2 (.t 3), none⟩,
    ⟨some 26, .load true 2 (.t 25), none⟩,
    ⟨some 27, .faddr 2 (.t 2), none⟩,
    ⟨some 28, .load true 2 (.t 27), none⟩,
    ⟨some 29, .call 275 [.t 26, .t 28] [] [], none⟩,
    ⟨some 30, .mv (.t 29), none⟩,
    ⟨some 31, .faddr 2 (.t 2), some (30, false)⟩,
    ⟨some 32, .load true 2 (.t 31), some (30, false)⟩,
    ⟨some 33, .faddr 2 (.t 3), some (30, false)⟩,
    ⟨some 34, .load true 2 (.t 33), some (30, false)⟩,
    ⟨some 35, .call 275 [.t 32, .t 34] [] [], some (30, false)⟩,
    ⟨some 36, .not (.t 35), some (30, false)⟩,
    ⟨some 37, .mv (.t 36), some (30, false)⟩,
    ⟨some 38, .faddr 1 (.t 3), some (37, true)⟩,
    ⟨some 39, .load false 1 (.t 38), some (37, true)⟩,
    ⟨some 40, .faddr 1 (.t 2), some (37, true)⟩,
    ⟨some 41, .load false 1 (.t 40), some (37, true)⟩,
    ⟨some 42, .bin .gtr (.t 39) (.t 41), some (37, true)⟩,
    ⟨some 43, .pick (.t 37) (.t 42) (.k (.bool false)), some (30, false)⟩,
    ⟨some 44, .pick (.t 30) (.k (.bool true)) (.t 43), none⟩] [2, 3, 4, 5, 44] [2, 3, 4, 5, 11205, 11206, 12300, 15400])
  (.cond (.t 44) (.seq (.reg [⟨some 45, .faddr 1 (.t 3), none⟩,
    ⟨some 46, .load false 1 (.t 45), none⟩,
    ⟨some 47, .faddr 1 (.t 5), none⟩,
    ⟨none, .store 1 (.t 47) (.t 46), none⟩] [2, 3, 4, 5] [2, 3, 4, 5, 11205, 11206, 12300, 15400])
  (.reg [⟨some 48, .faddr 2 (.t 3), none⟩,
    ⟨some 49, .load true 2 (.t 48), none⟩,
    ⟨some 50, .faddr 2 (.t 5), none⟩,
    ⟨none, .store 2 (.t 50) (.t 49), none⟩] [2, 3, 4, 5] [2, 3, 4, 5, 11205, 11206, 12300, 15400])) (.skip)))
  (.seq (.reg [⟨some 52, .load true 7 (.t 2), none⟩,
    ⟨some 53, .load true 7 (.t 3), none⟩,
    ⟨some 54, .call 437 [.t 52, .t 53] [] [(0, 15400)], none⟩,
    ⟨some 51, .mv (.t 54), none⟩,
    ⟨some 55, .ext 0 (.t 51), none⟩,
    ⟨some 56, .ext 1 (.t 51), none⟩,
    ⟨some 57, .faddr 5 (.t 5), none⟩,
    ⟨none, .store 1 (.t 57) (.t 55), none⟩,
    ⟨some 58, .faddr 4 (.t 5), none⟩,
    ⟨none, .store 1 (.t 58) (.t 56), none⟩] [4, 5] [4, 5, 11205, 11206, 12300, 15400])
  (.seq (.reg [⟨some 59, .load true 7 (.t 5), none⟩,
    ⟨none, .store 7 (.t 4) (.t 59), none⟩] [4] [4, 11205, 11206, 12300, 15400])
  (.ret))))))
def impl_JoinBox.m : Fn := { np := 2, body := impl_JoinBox.b, res := [.cell 4 true 7] }
def impl_JoinBox.k (M : Nat → Option Body) : Prop := M 401 = some (.code impl_JoinBox.m) ∧ impl_JoinGone.k M ∧ impl_copyBox.k M ∧ impl_Later.k M ∧ impl_joined.k M
end Mx

namespace Mx
open Go
def gput (l : List Int) (x : Int) : List Int := l.filter (fun y => decide (y < x)) ++ [x] ++ l.filter (fun y => decide (x < y))
def gadd (l : List Int) (x : Int) : List Int := if x ∈ l then l else gput l x
def joinGone (a b : List Int) : List Int := (a ++ b).foldl gadd []
abbrev Asc (l : List Int) : Prop := l.Pairwise (· < ·)
theorem asc_ext : ∀ {a b : List Int}, Asc a → Asc b → (∀ x, x ∈ a ↔ x ∈ b) → a = b
  | [], [], _, _, _ => rfl
  | [], y :: b, _, _, h => absurd ((h y).2 (List.mem_cons_self ..)) (by simp)
  | x :: a, [], _, _, h => absurd ((h x).1 (List.mem_cons_self ..)) (by simp)
  | x :: a, y :: b, ha, hb, h => by
    obtain ⟨ha1, ha2⟩ := List.pairwise_cons.1 ha
    obtain ⟨hb1, hb2⟩ := List.pairwise_cons.1 hb
    have e : x = y := by
      rcases List.mem_cons.1 ((h x).1 (List.mem_cons_self ..)) with q | q
      · exact q
      · rcases List.mem_cons.1 ((h y).2 (List.mem_cons_self ..)) with q' | q'
        · exact q'.symm
        · have := ha1 y q'; have := hb1 x q; omega
    subst e
    congr 1
    refine asc_ext ha2 hb2 fun z => ⟨fun hz => ?_, fun hz => ?_⟩
    · rcases List.mem_cons.1 ((h z).1 (List.mem_cons_of_mem _ hz)) with q | q
      · have := ha1 z hz; omega
      · exact q
    · rcases List.mem_cons.1 ((h z).2 (List.mem_cons_of_mem _ hz)) with q | q
      · have := hb1 z hz; omega
      · exact q
theorem gput_mem {l : List Int} {x z : Int} : z ∈ gput l x ↔ z = x ∨ z ∈ l := by
  simp only [gput, List.mem_append, List.mem_filter, decide_eq_true_eq, List.mem_singleton]
  constructor
  · rintro ((⟨h, _⟩ | h) | ⟨h, _⟩)
    · exact .inr h
    · exact .inl h
    · exact .inr h
  · rintro (h | h)
    · exact .inl (.inr h)
    · by_cases c : z < x
      · exact .inl (.inl ⟨h, c⟩)
      · by_cases c2 : z = x
        · exact .inl (.inr c2)
        · exact .inr ⟨h, by omega⟩
theorem gput_asc {l : List Int} {x : Int} (h : Asc l) : Asc (gput l x) := by
  simp only [gput, Asc, List.pairwise_append, List.pairwise_singleton, List.mem_filter, decide_eq_true_eq, List.mem_singleton, List.mem_append]
  refine ⟨⟨h.filter _, trivial, ?_⟩, h.filter _, ?_⟩
  · rintro a ⟨_, ha⟩ b rfl; exact ha
  · rintro a (⟨_, ha⟩ | rfl) b ⟨_, hb⟩ <;> omega
theorem gadd_mem {l : List Int} {x z : Int} : z ∈ gadd l x ↔ z = x ∨ z ∈ l := by
  unfold gadd; split
  · rename_i h
    constructor
    · exact .inr
    · rintro (rfl | q)
      · exact h
      · exact q
  · exact gput_mem
theorem gadd_asc {l : List Int} {x : Int} (h : Asc l) : Asc (gadd l x) := by
  unfold gadd; split
  · exact h
  · exact gput_asc h
theorem gfold_mem : ∀ (l acc : List Int) (z : Int), z ∈ l.foldl gadd acc ↔ z ∈ l ∨ z ∈ acc
  | [], acc, z => by simp
  | x :: l, acc, z => by
    simp only [List.foldl_cons, gfold_mem l, gadd_mem, List.mem_cons]
    constructor
    · rintro (h | h | h)
      · exact .inl (.inr h)
      · exact .inl (.inl h)
      · exact .inr h
    · rintro ((h | h) | h)
      · exact .inr (.inl h)
      · exact .inl h
      · exact .inr (.inr h)
theorem gfold_asc : ∀ (l acc : List Int), Asc acc → Asc (l.foldl gadd acc)
  | [], acc, h => h
  | x :: l, acc, h => gfold_asc l _ (gadd_asc h)
theorem joinGone_asc (a b : List Int) : Asc (joinGone a b) := gfold_asc _ _ List.Pairwise.nil
theorem joinGone_mem (a b : List Int) (z : Int) : z ∈ joinGone a b ↔ z ∈ a ∨ z ∈ b := by unfold joinGone; rw [gfold_mem]; simp
theorem gadd_len (l : List Int) (x : Int) : (gadd l x).length ≤ l.length + 1 := by
  unfold gadd; split
  · omega
  · simp only [gput, List.length_append, List.length_singleton]
    have : ∀ l : List Int, (l.filter fun y => decide (y < x)).length + (l.filter fun y => decide (x < y)).length ≤ l.length := by
      intro l
      induction l with
      | nil => simp
      | cons y l ih =>
        simp only [List.filter_cons]
        by_cases h1 : y < x
        · have h2 : ¬ x < y := by omega
          simp [h1, h2]; omega
        · by_cases h2 : x < y
          · simp [h1, h2]; omega
          · simp [h1, h2]; omega
    have := this l
    omega
theorem gfold_len : ∀ (l acc : List Int), (l.foldl gadd acc).length ≤ l.length + acc.length
  | [], acc => by simp
  | x :: l, acc => by
    have h1 := gfold_len l (gadd acc x)
    have h2 := gadd_len acc x
    simp only [List.foldl_cons, List.length_cons]; omega
/-- runs of equal numbers become one -/
def dedup : List Int → List Int
  | [] => []
  | x :: l => x :: (go x l)
where go : Int → List Int → List Int
  | _, [] => []
  | p, x :: l => if x = p then go x l else x :: go x l
theorem dedup_go_mem : ∀ (l : List Int) (p z : Int), z ∈ dedup.go p l → z ∈ l
  | [], p, z, h => by simp [dedup.go] at h
  | x :: l, p, z, h => by
    simp only [dedup.go] at h
    split at h
    · exact List.mem_cons_of_mem _ (dedup_go_mem l x z h)
    · rcases List.mem_cons.1 h with rfl | h
      · exact List.mem_cons_self ..
      · exact List.mem_cons_of_mem _ (dedup_go_mem l x z h)
theorem mem_dedup_go : ∀ (l : List Int) (p z : Int), z ∈ l → z = p ∨ z ∈ dedup.go p l
  | [], p, z, h => by simp at h
  | x :: l, p, z, h => by
    simp only [dedup.go]
    split
    · rename_i e
      subst e
      rcases List.mem_cons.1 h with q | q
      · exact .inl q
      · exact mem_dedup_go l x z q
    · rcases List.mem_cons.1 h with q | q
      · exact .inr (by rw [q]; exact List.mem_cons_self ..)
      · rcases mem_dedup_go l x z q with q | q
        · exact .inr (by rw [q]; exact List.mem_cons_self ..)
        · exact .inr (List.mem_cons_of_mem _ q)
theorem dedup_go_asc : ∀ (l : List Int) (p : Int), l.Pairwise (· ≤ ·) → (∀ z ∈ l, p ≤ z) → Asc (dedup.go p l) ∧ ∀ z ∈ dedup.go p l, p < z
  | [], p, _, _ => by simp [dedup.go]
  | x :: l, p, h, hp => by
    obtain ⟨h1, h2⟩ := List.pairwise_cons.1 h
    have hx := hp x (List.mem_cons_self ..)
    obtain ⟨k1, k2⟩ := dedup_go_asc l x h2 h1
    simp only [dedup.go]
    split
    · rename_i e; exact ⟨k1, fun z hz => by have := k2 z hz; omega⟩
    · rename_i e
      refine ⟨List.pairwise_cons.2 ⟨k2, k1⟩, fun z hz => ?_⟩
      rcases List.mem_cons.1 hz with rfl | hz
      · omega
      · have := k2 z hz; omega
theorem dedup_asc {l : List Int} (h : l.Pairwise (· ≤ ·)) : Asc (dedup l) := by
  cases l with
  | nil => exact List.Pairwise.nil
  | cons x l =>
    obtain ⟨h1, h2⟩ := List.pairwise_cons.1 h
    obtain ⟨k1, k2⟩ := dedup_go_asc l x h2 h1
    exact List.pairwise_cons.2 ⟨k2, k1⟩
theorem dedup_mem {l : List Int} {z : Int} : z ∈ dedup l ↔ z ∈ l := by
  cases l with
  | nil => simp [dedup]
  | cons x l =>
    simp only [dedup, List.mem_cons]
    constructor
    · rintro (h | h)
      · exact .inl h
      · exact .inr (dedup_go_mem l x z h)
    · rintro (h | h)
      · exact .inl h
      · exact mem_dedup_go l x z h
/-- the kit's word for it -/
theorem compact_dedup (l : List Int) : Lib.compact l = dedup l := by
  have key : ∀ (d : Array Int) (m : Nat) (l : List Int) (p : Int), 0 < m → m + l.length = d.size → d.toList.drop m = l → d[m - 1]! = p → ((List.range' m l.length).filter (Lib.keeps d)).map (d[·]!) = dedup.go p l := by
    intro d m l
    induction l generalizing m with
    | nil => intro p _ _ _ _; rfl
    | cons x l ih =>
      intro p hm hl hd hp
      have hlt : m < d.size := by simp at hl; omega
      have hx : d[m]! = x := by
        rw [getElem!_pos d m hlt]
        have := congrArg (·[0]?) hd
        simpa [hlt] using this
      have ih' := ih (m + 1) x (by omega) (by simp at hl; omega) (by rw [← List.tail_drop, hd]; rfl) (by simpa using hx)
      simp only [List.length_cons, List.range'_succ, List.filter_cons, dedup.go]
      by_cases e : x = p
      · have hk : Lib.keeps d m = false := Lib.keeps_neg hm (by rw [hx, hp, e])
        rw [if_pos e, hk]; simpa using ih'
      · have hk : Lib.keeps d m = true := Lib.keeps_pos (by rw [hx, hp]; exact e)
        rw [if_neg e, hk]; simp only [if_true, List.map_cons, hx, ih']
  cases l with
  | nil => rfl
  | cons x l =>
    have hk : Lib.keeps (x :: l).toArray 0 = true := Lib.keeps_lt_one _ 0 (by omega)
    unfold Lib.compact Lib.compactUpTo
    rw [List.range_eq_range', List.length_cons, List.range'_succ, List.filter_cons, hk]
    simp only [if_true, List.map_cons, dedup]
    congr 1
    exact key (x :: l).toArray 1 l x (by omega) (by simp; omega) (by simp) (by simp)
theorem compact_len (l : List Int) : (Lib.compact l).length ≤ l.length := by
  unfold Lib.compact Lib.compactUpTo
  rw [List.length_map]
  refine Nat.le_trans (List.length_filter_le _ _) ?_
  simp
theorem joinGone_sort (a b : List Int) : Lib.compact (sortI (a ++ b)) = joinGone a b := by
  rw [compact_dedup]
  have hs : (sortI (a ++ b)).Pairwise (· ≤ ·) := by
    have := List.pairwise_mergeSort (le := fun x y : Int => decide (x ≤ y)) (fun a b c h1 h2 => by simp only [decide_eq_true_eq] at *; omega) (fun a b => by simp only [Bool.or_eq_true, decide_eq_true_eq]; omega) (a ++ b)
    exact this.imp fun h => by simpa using h
  refine asc_ext (dedup_asc hs) (joinGone_asc a b) fun z => ?_
  rw [dedup_mem, joinGone_mem]
  simp [sortI]
end Mx

namespace Mx
open Go
variable {M : Nat → Option Body}
theorem impl_copyInts.says (h : impl_copyInts.k M) (l : List Int) (hx : l.length ≤ 1048576) : run M 134 [.c (ints l)] [] = some (.c (.sl true 1 (irow l)), []) := by
  have h1 : l.length ≤ 4294967296 := by omega
  refine run_code (b := impl_copyInts.m) h ⟨0, ?_⟩
  simp [exB, impl_copyInts.m, impl_copyInts.b, List.range_succ, List.take_of_length_le, h1]
end Mx

namespace Mx
open Go
theorem brow_nil : brow [] = [] := rfl
attribute [simp] brow_nil
end Mx

namespace Mx
open Go
variable {M : Nat → Option Body}
theorem impl_within.says (h : impl_within.k M) (n a b : Int) : run M 101 [.c (I n), .c (I a), .c (I b)] [] = some (.c (.bool (decide (a ≤ n) && decide (n ≤ b))), []) := by
  refine run_code (b := impl_within.m) h ⟨0, ?_⟩
  by_cases h : a ≤ n
  · have h' : n ≥ a := h
    simp [exB, impl_within.m, impl_within.b, List.range_succ, h]
  · have h' : ¬ n ≥ a := h
    simp [exB, impl_within.m, impl_within.b, List.range_succ, h]
theorem spec_l01In.says (h : spec_l01In.k M) (n a b : Int) : run M 98 [.c (I n), .c (I a), .c (I b)] [] = some (.c (.bool (decide (a ≤ n) && decide (n ≤ b))), []) := by
  refine run_code (b := spec_l01In.m) h ⟨0, ?_⟩
  by_cases h : a ≤ n
  · have h' : n ≥ a := h
    simp [exB, spec_l01In.m, spec_l01In.b, List.range_succ, h]
  · have h' : ¬ n ≥ a := h
    simp [exB, spec_l01In.m, spec_l01In.b, List.range_succ, h]
end Mx

namespace Mx
open Go
variable {M : Nat → Option Body}
def szLb : C := .seq (.reg [⟨some 4, .mv (.k (.int .i64 0)), none⟩] [0, 1] [])
  (.seq (.reg [⟨some 5, .mv (.t 1), none⟩,
    ⟨some 6, .mv (.t 0), none⟩,
    ⟨some 7, .len (.t 6), none⟩,
    ⟨some 8, .bin .sub (.t 5) (.t 7), none⟩,
    ⟨some 1, .mv (.t 8), none⟩] [1] [])
  (.seq (.seq (.reg [⟨some 9, .mv (.t 1), none⟩,
    ⟨some 10, .bin .lss (.t 9) (.k (.int .i64 0)), none⟩] [1, 10] [])
  (.cond (.t 10) (.seq (.reg [⟨some 4, .mv (.k (.int .i64 (-1))), none⟩] [4] [])
  (.ret)) (.skip)))
  (.seq (.reg [⟨some 11, .mv (.t 1), none⟩,
    ⟨some 4, .mv (.t 11), none⟩] [4] [])
  (.ret))))
def szLm : Fn := { np := 2, body := szLb, res := [.tmp 4] }
theorem szL_says {F n : Nat} (h : M F = some (.code szLm)) {rows : List (List T)} (hl : rows.length ≤ 9223372036854775807) (k : Int) (hk : 0 ≤ k) (hk' : k ≤ 9223372036854775807) :
    run M F [.c (.sl false n rows), .c (I k)] [] = some (.c (I (if k < rows.length then -1 else k - rows.length)), []) := by
  refine run_code (b := szLm) h ⟨0, ?_⟩
  have e5 : IntKind.i64.wrap (k - (rows.length : Int)) = k - (rows.length : Int) := wrap_i64 (by omega) (by omega)
  by_cases hc : k < rows.length
  · have h1 : k - (rows.length : Int) < 0 := by omega
    simp [exB, szLm, szLb, List.range_succ, e5, h1, hc]
  · have h1 : ¬ k - (rows.length : Int) < 0 := by omega
    simp [exB, szLm, szLb, List.range_succ, e5, h1, hc]
theorem call_sz {n : Nat} {o : List (Nat × Ob)} {f : Nat} {r : List T} {k m : Int} (hr : r.all closedT = true) (h : run M f [.a r, .c (I k)] [] = some (.c (I m), [])) :
    doCall (run M) n o f [.a r, .c (I k)] [] [] = some (.c (I m), []) := by
  obtain ⟨h1, h2, _⟩ := im_closedL (o := o) hr
  simp [doCall, args, lendsC, V.im, V.wr, h1, h2, h, lentBack, back, backV, backT]
def szSl (n f : Nat) : C := .seq (.seq (.reg [⟨some 12, .mv (.t 5), none⟩,
    ⟨some 13, .mv (.t 0), none⟩,
    ⟨some 14, .len (.t 13), none⟩,
    ⟨some 15, .bin .lss (.t 12) (.t 14), none⟩] [0, 1, 5, 15] [])
  (.cond (.t 15) (.skip) (.exit 0)))
  (.seq (.block 1 (.seq (.reg [⟨some 18, .mv (.t 0), none⟩,
    ⟨some 19, .mv (.t 5), none⟩,
    ⟨some 20, .iaddr n (.t 18) (.t 19), none⟩,
    ⟨some 21, .load true n (.t 20), none⟩,
    ⟨some 22, .mv (.t 1), none⟩,
    ⟨some 23, .call f [.t 21, .t 22] [] [], none⟩,
    ⟨some 1, .mv (.t 23), none⟩] [0, 1, 5] [])
  (.seq (.reg [⟨some 24, .mv (.t 1), none⟩,
    ⟨some 25, .bin .lss (.t 24) (.k (.int .i64 0)), none⟩] [0, 1, 5, 25] [])
  (.cond (.t 25) (.seq (.reg [⟨some 4, .mv (.k (.int .i64 (-1))), none⟩] [4] [])
  (.ret)) (.skip)))))
  (.reg [⟨some 16, .mv (.t 5), none⟩,
    ⟨some 17, .bin .add (.t 16) (.k (.int .i64 1)), none⟩,
    ⟨some 5, .mv (.t 17), none⟩] [0, 1, 5] []))
def szSb (n f : Nat) : C := .seq (.reg [⟨some 4, .mv (.k (.int .i64 0)), none⟩] [0, 1] [])
  (.seq (.reg [⟨some 6, .mv (.t 1), none⟩,
    ⟨some 7, .mv (.t 0), none⟩,
    ⟨some 8, .len (.t 7), none⟩,
    ⟨some 9, .bin .sub (.t 6) (.t 8), none⟩,
    ⟨some 1, .mv (.t 9), none⟩] [0, 1] [])
  (.seq (.seq (.reg [⟨some 10, .mv (.t 1), none⟩,
    ⟨some 11, .bin .lss (.t 10) (.k (.int .i64 0)), none⟩] [0, 1, 11] [])
  (.cond (.t 11) (.seq (.reg [⟨some 4, .mv (.k (.int .i64 (-1))), none⟩] [4] [])
  (.ret)) (.skip)))
  (.seq (.seq (.reg [⟨some 5, .mv (.k (.int .i64 0)), none⟩] [0, 1, 5] [])
  (.block 0 (.loop (szSl n f))))
  (.seq (.reg [⟨some 26, .mv (.t 1), none⟩,
    ⟨some 4, .mv (.t 26), none⟩] [4] [])
  (.ret)))))
def szSm (n f : Nat) : Fn := { np := 2, body := szSb n f, res := [.tmp 4] }
def szSst (n : Nat) (rows : List (List T)) (s : Nat × Nat) (x : Nat) : St := { t := [(0, .c (.sl false n rows)), (1, .c (I s.2)), (5, .c (I s.1))], o := [], n := x }
/-- what is left of k behind these weights -/
def leftS (k : Nat) : List Nat → Option Nat
  | [] => some k
  | w :: ws => if k < w then none else leftS (k - w) ws
theorem leftS_eq : ∀ (ws : List Nat) (k : Nat), leftS k ws = if k < ws.sum then none else some (k - ws.sum)
  | [], k => by simp [leftS]
  | w :: ws, k => by
    have hs : (w :: ws).sum = w + ws.sum := List.sum_cons
    rw [leftS, leftS_eq ws]
    by_cases h : k < w
    · rw [if_pos h, if_pos (by rw [hs]; omega)]
    · rw [if_neg h]
      by_cases h2 : k - w < ws.sum
      · rw [if_pos h2, if_pos (by rw [hs]; omega)]
      · rw [if_neg h2, if_neg (by rw [hs]; omega)]; congr 1; rw [hs]; omega
def szFin (n : Nat) (rows : List (List T)) (q : Option Nat) (m : Nat) : Out × St := match q with
  | none => (.ret, { t := [(4, .c (I (-1)))], o := [], n := m })
  | some k => (.exit 0, { t := [(0, .c (.sl false n rows)), (1, .c (I k)), (5, .c (I rows.length)), (15, .c (.bool false))], o := [], n := m })
theorem szS_says {F n f : Nat} (h : M F = some (.code (szSm n f))) {rows : List (List T)} (hl : rows.length ≤ 9223372036854775807) (wt : List T → Nat)
    (he : ∀ r ∈ rows, r.length = n ∧ r.all closedT = true ∧ ∀ k : Nat, k ≤ 1048576 → run M f [.a r, .c (I k)] [] = some (.c (I (if k < wt r then -1 else (k : Int) - wt r)), [])) (k : Nat) (hk : k ≤ 1048576) :
    run M F [.c (.sl false n rows), .c (I k)] [] = some (.c (I (if k < rows.length + (rows.map wt).sum then -1 else (k : Int) - (rows.length + (rows.map wt).sum : Nat))), []) := by
  refine run_code (b := szSm n f) h ⟨rows.length + 1, ?_⟩
  have e0 : IntKind.i64.wrap ((k : Int) - (rows.length : Int)) = (k : Int) - (rows.length : Int) := wrap_i64 (by omega) (by omega)
  by_cases hc : k < rows.length
  · have h1 : (k : Int) - (rows.length : Int) < 0 := by omega
    have h2 : k < rows.length + (rows.map wt).sum := by omega
    rw [if_pos h2]
    simp [exB, szSm, szSb, List.range_succ, e0, h1]
  have h1 : ¬ (k : Int) - (rows.length : Int) < 0 := by omega
  obtain ⟨g, hr⟩ := loop_all (f := exC (run M) (rows.length + 1) (szSl n f)) (szSst n rows) (fun s => s.1 ≤ rows.length ∧ s.2 ≤ 1048576) (fun s => rows.length - s.1) (fun s => leftS s.2 ((rows.drop s.1).map wt)) (szFin n rows)
    (by
      rintro ⟨i, q⟩ x ⟨p1, p2⟩
      simp only at p1 p2
      by_cases hlt : i < rows.length
      · have e5 : IntKind.i64.wrap ((i : Int) + 1) = (i : Int) + 1 := wrap_i64 (by omega) (by omega)
        obtain ⟨k1, k2, k3⟩ := he rows[i] (List.getElem_mem hlt)
        have hcall := fun nn => call_sz (n := nn) (o := []) k2 (k3 q p2)
        have h6 : (List.take n rows[i]) = rows[i] := List.take_of_length_le (by omega)
        have hd : leftS q ((rows.drop i).map wt) = if q < wt rows[i] then none else leftS (q - wt rows[i]) ((rows.drop (i + 1)).map wt) := by
          rw [List.drop_eq_getElem_cons hlt, List.map_cons, leftS]
        simp only [hd]
        by_cases c : q < wt rows[i]
        · right
          have c' : (q : Int) < wt rows[i] := by omega
          simp only [if_pos c] at hcall
          rw [if_pos c]
          obtain ⟨y, hy⟩ : ∃ y, exC (run M) (rows.length + 1) (szSl n f) (szSst n rows (i, q) x) = some (szFin n rows none y) := by
            simp [szSst, szSl, szFin, hlt, k1, hcall, h6, -doCall]
          exact ⟨y, hy, by simp [szFin]⟩
        · left
          simp only [if_neg c] at hcall
          rw [if_neg c]
          have c2 : ¬ (q : Int) - wt rows[i] < 0 := by omega
          have c3 : (q : Int) - wt rows[i] = ((q - wt rows[i] : Nat) : Int) := by omega
          rw [c3] at hcall c2
          obtain ⟨y, hy⟩ : ∃ y, exC (run M) (rows.length + 1) (szSl n f) (szSst n rows (i, q) x) = some (.normal, szSst n rows (i + 1, q - wt rows[i]) y) := by
            simp [szSst, szSl, hlt, e5, k1, hcall, h6, c2, -doCall]
          exact ⟨(i + 1, q - wt rows[i]), y, hy, ⟨hlt, by simp only; omega⟩, by simp only; omega, rfl⟩
      · have : i = rows.length := by omega
        subst this
        right
        exact ⟨x + 64, by simp [szSst, szSl, szFin, leftS], by simp [szFin, leftS]⟩)
    (rows.length + 1) (0, k - rows.length) ⟨Nat.zero_le _, by simp only; omega⟩ (by simp)
  simp only [List.drop_zero, leftS_eq] at hr
  have h3 : (k : Int) - (rows.length : Int) = ((k - rows.length : Nat) : Int) := by omega
  rw [h3] at e0 h1
  have e0' : IntKind.i64.wrap ((k : Int) - (rows.length : Int)) = ((k - rows.length : Nat) : Int) := by rw [h3]; exact e0
  by_cases c : k < rows.length + (rows.map wt).sum
  · rw [if_pos (show k - rows.length < (rows.map wt).sum by omega)] at hr
    rw [if_pos c]
    simp [szSst, szFin] at hr
    simp [exB, szSm, szSb, List.range_succ, e0', hr, h1]
  · rw [if_neg (show ¬ k - rows.length < (rows.map wt).sum by omega)] at hr
    rw [if_neg c]
    simp [szSst, szFin] at hr
    have h4 : ((k - rows.length - (rows.map wt).sum : Nat) : Int) = (k : Int) - (rows.length + (rows.map wt).sum : Nat) := by omega
    simp [exB, szSm, szSb, List.range_succ, e0', hr, h1]
    omega
end Mx

namespace Mx
open Go
variable {M : Nat → Option Body}
structure Reg where
  val : Int
  time : Int
  who : Int
structure Mail where
  gid : Int
  uid : Int
  flags : List Reg
  text : List UInt8
structure Box where
  gid : Int
  name : List UInt8
  time : Int
  who : Int
  next : Int
  mails : List Mail
  gone : List Int
abbrev encReg (r : Reg) : List T := [I r.val, I r.time, I r.who]
abbrev regs (l : List Reg) : T := .sl false 3 (l.map encReg)
abbrev encMail (m : Mail) : List T := [I m.gid, I m.uid, regs m.flags, S m.text]
abbrev mails (l : List Mail) : T := .sl false 4 (l.map encMail)
abbrev encBox (b : Box) : List T := [I b.gid, S b.name, I b.time, I b.who, I b.next, mails b.mails, ints b.gone]
/-- as their own -/
abbrev encMailO (m : Mail) : List T := [I m.gid, I m.uid, .sl true 3 (m.flags.map encReg), S m.text]
abbrev encBoxO (b : Box) : List T := [I b.gid, S b.name, I b.time, I b.who, I b.next, .sl true 4 (b.mails.map encMail), .sl true 1 (irow b.gone)]
abbrev ctReg : List Ct := [.int .i64, .int .i64, .int .i64]
abbrev ctMail : List Ct := [.int .i64, .int .i64, .sl ctReg, .str]
abbrev ctBox : List Ct := [.int .i64, .str, .int .i64, .int .i64, .int .i64, .sl ctMail, .sl [.int .i64]]
theorem has_list {α : Type} {row : List Ct} (enc : α → List T) (Q : α → Prop) (hx : ∀ r, HasL row r → ∃ x, r = enc x ∧ Q x) {u : T} (h : Has (.sl row) u) :
    ∃ l : List α, u = .sl false row.length (l.map enc) ∧ l.length ≤ maxLen ∧ ∀ x ∈ l, Q x := by
  cases h with | sl _ rows hl h1 h2 =>
  have : ∀ rows : List (List T), (∀ r ∈ rows, HasL row r) → ∃ l : List α, rows = l.map enc ∧ ∀ x ∈ l, Q x := by
    intro rows
    induction rows with
    | nil => intro _; exact ⟨[], rfl, fun x h => by cases h⟩
    | cons r rs ih =>
      intro hr
      obtain ⟨l, rfl, hq⟩ := ih fun r h => hr r (List.mem_cons_of_mem _ h)
      obtain ⟨x, rfl, hqx⟩ := hx r (hr r (List.mem_cons_self ..))
      exact ⟨x :: l, rfl, fun y hy => by
        rcases List.mem_cons.1 hy with rfl | hy
        · exact hqx
        · exact hq y hy⟩
  obtain ⟨l, rfl, hq⟩ := this rows fun r hr => by
    obtain ⟨i, hi⟩ := List.getElem?_of_mem hr
    exact ⟨h1 i r hi, fun j c t e1 e2 => h2 i j r c t hi e1 e2⟩
  exact ⟨l, rfl, by simpa using hl, hq⟩
theorem has_int {k : IntKind} {u : T} (h : Has (.int k) u) : ∃ n, u = .int k n := by cases h; exact ⟨_, rfl⟩
theorem has_str {u : T} (h : Has .str u) : ∃ l : List UInt8, u = S l ∧ l.length ≤ maxLen := by
  cases h with | str s hs =>
  obtain ⟨l, rfl⟩ := of_bytes s
  exact ⟨l, rfl, by simpa using hs⟩
theorem has_reg {r : List T} (h : HasL ctReg r) : ∃ x : Reg, r = encReg x ∧ True := by
  match r, h with
  | [a, b, c], h =>
    obtain ⟨x, rfl⟩ := has_int (h.2 0 _ a rfl rfl)
    obtain ⟨y, rfl⟩ := has_int (h.2 1 _ b rfl rfl)
    obtain ⟨z, rfl⟩ := has_int (h.2 2 _ c rfl rfl)
    exact ⟨⟨x, y, z⟩, rfl, trivial⟩
def MailFits (m : Mail) : Prop := m.flags.length ≤ maxLen ∧ m.text.length ≤ maxLen
theorem has_mail {r : List T} (h : HasL ctMail r) : ∃ x : Mail, r = encMail x ∧ MailFits x := by
  match r, h with
  | [a, b, c, d], h =>
    obtain ⟨x, rfl⟩ := has_int (h.2 0 _ a rfl rfl)
    obtain ⟨y, rfl⟩ := has_int (h.2 1 _ b rfl rfl)
    obtain ⟨l, rfl, hl, _⟩ := has_list encReg (fun _ => True) (fun r hr => has_reg hr) (h.2 2 _ c rfl rfl)
    obtain ⟨t, rfl, ht⟩ := has_str (h.2 3 _ d rfl rfl)
    exact ⟨⟨x, y, l, t⟩, rfl, hl, ht⟩
def BoxFits (b : Box) : Prop := b.name.length ≤ maxLen ∧ b.mails.length ≤ maxLen ∧ b.gone.length ≤ maxLen ∧ ∀ m ∈ b.mails, MailFits m
theorem has_box {r : List T} (h : HasL ctBox r) : ∃ x : Box, r = encBox x ∧ BoxFits x := by
  match r, h with
  | [a, b, c, d, e, f, g], h =>
    obtain ⟨x1, rfl⟩ := has_int (h.2 0 _ a rfl rfl)
    obtain ⟨x2, rfl, h2⟩ := has_str (h.2 1 _ b rfl rfl)
    obtain ⟨x3, rfl⟩ := has_int (h.2 2 _ c rfl rfl)
    obtain ⟨x4, rfl⟩ := has_int (h.2 3 _ d rfl rfl)
    obtain ⟨x5, rfl⟩ := has_int (h.2 4 _ e rfl rfl)
    obtain ⟨x6, rfl, h6, q6⟩ := has_list encMail MailFits (fun r hr => has_mail hr) (h.2 5 _ f rfl rfl)
    obtain ⟨x7, rfl, h7, _⟩ := has_list (fun n : Int => [I n]) (fun _ => True) (fun r hr => by
      match r, hr with
      | [a], hr => obtain ⟨n, rfl⟩ := has_int (hr.2 0 _ a rfl rfl); exact ⟨n, rfl, trivial⟩) (h.2 6 _ g rfl rfl)
    exact ⟨⟨x1, x2, x3, x4, x5, x6, x7⟩, rfl, h2, h6, h7, q6⟩
def wMail (m : Mail) : Nat := m.flags.length + m.text.length
def wMails (l : List Mail) : Nat := l.length + (l.map wMail).sum
def wBox (b : Box) : Nat := b.name.length + wMails b.mails + b.gone.length
theorem le_sum {α : Type} (f : α → Nat) : ∀ (l : List α) (x : α), x ∈ l → f x ≤ (l.map f).sum
  | y :: l, x, h => by
    have hs : ((y :: l).map f).sum = f y + (l.map f).sum := List.sum_cons
    rcases List.mem_cons.1 h with rfl | h
    · omega
    · have := le_sum f l x h; omega
theorem wMail_le {l : List Mail} {m : Mail} (h : m ∈ l) : wMail m ≤ wMails l := by
  have := le_sum wMail l m h
  unfold wMails; omega
theorem laws_szRegS.says (h : laws_szRegS.k M) (l : List Reg) (hl : l.length ≤ maxLen) (k : Nat) (hk : k ≤ 1048576) : run M 250 [.c (regs l), .c (I k)] [] = some (.c (I (if k < l.length then -1 else (k : Int) - l.length)), []) := by
  have hm : maxLen = 9223372036854775807 := rfl
  have := szL_says (M := M) (F := 250) (n := 3) h (rows := l.map encReg) (by simp; omega) k (by omega) (by omega)
  simpa using this
theorem laws_szMail.says (h : laws_szMail.k M) (m : Mail) (hm : MailFits m) (k : Nat) (hk : k ≤ 1048576) : run M 208 [.a (encMail m), .c (I k)] [] = some (.c (I (if k < wMail m then -1 else (k : Int) - wMail m)), []) := by
  have hx : maxLen = 9223372036854775807 := rfl
  obtain ⟨f1, f2⟩ := hm
  have h1 := laws_szRegS.says h.2 m.flags f1 k hk
  refine run_code (b := laws_szMail.m) h.1 ⟨0, ?_⟩
  unfold wMail
  by_cases c1 : k < m.flags.length
  · rw [if_pos c1] at h1
    rw [if_pos (show k < m.flags.length + m.text.length by omega)]
    simp [exB, laws_szMail.m, laws_szMail.b, List.range_succ, h1]
  · rw [if_neg c1] at h1
    have e1 : ¬ (k : Int) - m.flags.length < 0 := by omega
    have e2 : IntKind.i64.wrap ((k : Int) - m.flags.length - m.text.length) = (k : Int) - m.flags.length - m.text.length := wrap_i64 (by omega) (by omega)
    by_cases c2 : k < m.flags.length + m.text.length
    · have e3 : (k : Int) - m.flags.length - m.text.length < 0 := by omega
      rw [if_pos c2]
      simp [exB, laws_szMail.m, laws_szMail.b, List.range_succ, h1, e1, e2, e3]
    · have e3 : ¬ (k : Int) - m.flags.length - m.text.length < 0 := by omega
      rw [if_neg c2]
      have e4 : (k : Int) - (m.flags.length + m.text.length : Nat) = (k : Int) - m.flags.length - m.text.length := by omega
      rw [e4]
      simp [exB, laws_szMail.m, laws_szMail.b, List.range_succ, h1, e1, e2, e3]
/-- what a row of a mail weighs -/
def wRow : List T → Nat
  | [_, _, .sl _ _ rows, .str s] => rows.length + s.size
  | _ => 0
theorem wRow_mail (m : Mail) : wRow (encMail m) = wMail m := by simp [wRow, wMail]
theorem laws_szMailS.says (h : laws_szMailS.k M) (l : List Mail) (hl : l.length ≤ maxLen) (hm : ∀ m ∈ l, MailFits m) (k : Nat) (hk : k ≤ 1048576) :
    run M 107 [.c (mails l), .c (I k)] [] = some (.c (I (if k < wMails l then -1 else (k : Int) - wMails l)), []) := by
  have hx : maxLen = 9223372036854775807 := rfl
  have := szS_says (M := M) (F := 107) (n := 4) (f := 208) h.1 (rows := l.map encMail) (by simp; omega) wRow (by
    intro r hr
    obtain ⟨m, hmm, rfl⟩ := List.mem_map.1 hr
    refine ⟨rfl, rfl, fun k hk => ?_⟩
    rw [wRow_mail]
    exact laws_szMail.says h.2 m (hm m hmm) k hk) k hk
  have e : ((l.map encMail).map wRow).sum = (l.map wMail).sum := by
    rw [List.map_map]; congr 1; apply List.map_congr_left; intro m _; exact wRow_mail m
  rw [e, List.length_map] at this
  exact this
theorem laws_szBox.says (h : laws_szBox.k M) (b : Box) (hb : BoxFits b) (k : Nat) (hk : k ≤ 1048576) : run M 17 [.a (encBox b), .c (I k)] [] = some (.c (I (if k < wBox b then -1 else (k : Int) - wBox b)), []) := by
  have hx : maxLen = 9223372036854775807 := rfl
  obtain ⟨f1, f2, f3, f4⟩ := hb
  obtain ⟨h0, k1, k2⟩ := h
  refine run_code (b := laws_szBox.m) h0 ⟨0, ?_⟩
  have e1 : IntKind.i64.wrap ((k : Int) - b.name.length) = (k : Int) - b.name.length := wrap_i64 (by omega) (by omega)
  by_cases c1 : k < b.name.length
  · have d1 : (k : Int) - b.name.length < 0 := by omega
    rw [if_pos (show k < wBox b by unfold wBox; omega)]
    simp [exB, laws_szBox.m, laws_szBox.b, List.range_succ, e1, d1]
  have d1 : ¬ (k : Int) - b.name.length < 0 := by omega
  have h1 := laws_szMailS.says k1 b.mails f2 f4 (k - b.name.length) (by omega)
  rw [show ((k - b.name.length : Nat) : Int) = (k : Int) - b.name.length by omega] at h1
  by_cases c2 : k - b.name.length < wMails b.mails
  · rw [if_pos c2] at h1
    rw [if_pos (show k < wBox b by unfold wBox; omega)]
    simp [exB, laws_szBox.m, laws_szBox.b, List.range_succ, e1, d1, h1]
  rw [if_neg c2] at h1
  have d2 : ¬ (k : Int) - b.name.length - wMails b.mails < 0 := by omega
  have h2 := laws_szIntS.says k2 b.gone (by omega) ((k : Int) - b.name.length - wMails b.mails) (by omega) (by omega)
  by_cases c3 : (k : Int) - b.name.length - wMails b.mails < b.gone.length
  · rw [if_pos c3] at h2
    rw [if_pos (show k < wBox b by unfold wBox; omega)]
    simp [exB, laws_szBox.m, laws_szBox.b, List.range_succ, e1, d1, d2, h1, h2]
  · rw [if_neg c3] at h2
    have d3 : ¬ (k : Int) - b.name.length - wMails b.mails - b.gone.length < 0 := by omega
    rw [if_neg (show ¬ k < wBox b by unfold wBox; omega)]
    have e4 : (k : Int) - (wBox b : Nat) = (k : Int) - b.name.length - wMails b.mails - b.gone.length := by unfold wBox; omega
    rw [e4]
    simp [exB, laws_szBox.m, laws_szBox.b, List.range_succ, e1, d1, d2, d3, h1, h2]
theorem laws_toStamp.says (h : laws_toStamp.k M) (a b : Int) : run M 109 [.a [I a, I b]] [] = some (.a [I a, I b], []) := by
  refine run_code (b := laws_toStamp.m) h ⟨0, ?_⟩
  simp [exB, laws_toStamp.m, laws_toStamp.b, List.range_succ]
theorem laws_toReg.says (h : laws_toReg.k M) (r : Reg) : run M 288 [.a (encReg r)] [] = some (.a (encReg r), []) := by
  have h1 := laws_toStamp.says h.2 r.time r.who
  refine run_code (b := laws_toReg.m) h.1 ⟨0, ?_⟩
  simp [exB, laws_toReg.m, laws_toReg.b, List.range_succ, h1]
theorem laws_toRegS.says (h : laws_toRegS.k M) (l : List Reg) (hl : l.length ≤ 1048576) : run M 251 [.c (regs l)] [] = some (.c (.sl true 3 (l.map encReg)), []) := by
  refine toS_says (M := M) (F := 251) (n := 3) (by' := 24) (z := [.int .i64 0, .int .i64 0, .int .i64 0]) (f := 288) h.1 rfl (by simpa using hl) (by omega) (fun r hr => ?_)
  obtain ⟨x, _, rfl⟩ := List.mem_map.1 hr
  exact ⟨rfl, rfl, _, laws_toReg.says h.2 x, rfl, rfl⟩
theorem laws_toMail.says (h : laws_toMail.k M) (m : Mail) (hm : wMail m ≤ 1048576) : run M 209 [.a (encMail m)] [] = some (.a (encMailO m), []) := by
  have h1 := laws_toRegS.says h.2 m.flags (by unfold wMail at hm; omega)
  refine run_code (b := laws_toMail.m) h.1 ⟨0, ?_⟩
  simp [exB, laws_toMail.m, laws_toMail.b, List.range_succ, h1, setAt, List.take_of_length_le]
theorem laws_toMailS.says (h : laws_toMailS.k M) (l : List Mail) (hl : wMails l ≤ 1048576) : run M 110 [.c (mails l)] [] = some (.c (.sl true 4 (l.map encMail)), []) := by
  refine toS_says (M := M) (F := 110) (n := 4) (by' := 56) (z := [.int .i64 0, .int .i64 0, .nils 3, .str ⟨#[]⟩]) (f := 209) h.1 rfl (by simp; unfold wMails at hl; omega) (by omega) (fun r hr => ?_)
  obtain ⟨x, hx, rfl⟩ := List.mem_map.1 hr
  exact ⟨rfl, rfl, _, laws_toMail.says h.2 x (Nat.le_trans (wMail_le hx) hl), rfl, rfl⟩
theorem laws_toBox.says (h : laws_toBox.k M) (b : Box) (hb : wBox b ≤ 1048576) : run M 18 [.a (encBox b)] [] = some (.a (encBoxO b), []) := by
  obtain ⟨h0, k1, k2, k3⟩ := h
  have h1 := laws_toIntS.says k1 b.gone (by unfold wBox at hb; omega)
  have h2 := laws_toStamp.says k2 b.time b.who
  have h3 := laws_toMailS.says k3 b.mails (by unfold wBox at hb; omega)
  refine run_code (b := laws_toBox.m) h0 ⟨0, ?_⟩
  simp [exB, laws_toBox.m, laws_toBox.b, List.range_succ, h1, h2, h3, setAt, List.take_of_length_le]
theorem laws_eqStamp.says (h : laws_eqStamp.k M) (a b : Int) : run M 111 [.a [I a, I b], .a [I a, I b]] [] = some (.c (.bool true), []) := by
  refine run_code (b := laws_eqStamp.m) h ⟨0, ?_⟩
  simp [exB, laws_eqStamp.m, laws_eqStamp.b, List.range_succ]
theorem laws_eqReg.says (h : laws_eqReg.k M) (r : Reg) : run M 289 [.a (encReg r), .a (encReg r)] [] = some (.c (.bool true), []) := by
  have h1 := laws_eqStamp.says h.2 r.time r.who
  refine run_code (b := laws_eqReg.m) h.1 ⟨0, ?_⟩
  simp [exB, laws_eqReg.m, laws_eqReg.b, List.range_succ, h1]
theorem laws_eqRegS.says (h : laws_eqRegS.k M) (l : List Reg) (hl : l.length ≤ 1048576) : run M 252 [.c (regs l), .c (regs l)] [] = some (.c (.bool true), []) := by
  refine eqS_says (M := M) (F := 252) (n := 3) (f := 289) h.1 (by simp; omega) (fun r hr => ?_)
  obtain ⟨x, _, rfl⟩ := List.mem_map.1 hr
  exact ⟨rfl, rfl, laws_eqReg.says h.2 x⟩
theorem laws_eqMail.says (h : laws_eqMail.k M) (m : Mail) (hm : wMail m ≤ 1048576) : run M 210 [.a (encMail m), .a (encMail m)] [] = some (.c (.bool true), []) := by
  have h1 := laws_eqRegS.says h.2 m.flags (by unfold wMail at hm; omega)
  refine run_code (b := laws_eqMail.m) h.1 ⟨0, ?_⟩
  simp [exB, laws_eqMail.m, laws_eqMail.b, List.range_succ, h1]
theorem laws_eqMailS.says (h : laws_eqMailS.k M) (l : List Mail) (hl : wMails l ≤ 1048576) : run M 112 [.c (mails l), .c (mails l)] [] = some (.c (.bool true), []) := by
  refine eqS_says (M := M) (F := 112) (n := 4) (f := 210) h.1 (by simp; unfold wMails at hl; omega) (fun r hr => ?_)
  obtain ⟨x, hx, rfl⟩ := List.mem_map.1 hr
  exact ⟨rfl, rfl, laws_eqMail.says h.2 x (Nat.le_trans (wMail_le hx) hl)⟩
theorem laws_eqBox.says (h : laws_eqBox.k M) (b : Box) (hb : wBox b ≤ 1048576) : run M 21 [.a (encBox b), .a (encBox b)] [] = some (.c (.bool true), []) := by
  obtain ⟨h0, k1, k2, k3⟩ := h
  have h1 := laws_eqIntS.says k1 b.gone (by unfold wBox at hb; omega)
  have h2 := laws_eqStamp.says k2 b.time b.who
  have h3 := laws_eqMailS.says k3 b.mails (by unfold wBox at hb; omega)
  refine run_code (b := laws_eqBox.m) h0 ⟨0, ?_⟩
  simp [exB, laws_eqBox.m, laws_eqBox.b, List.range_succ, h1, h2, h3]
end Mx

namespace Mx
open Go
variable {M : Nat → Option Body}
/-- the first mail of this number, from a place on -/
def atO (l : List Mail) (g : Int) : Nat → Nat → Option Nat
  | 0, _ => none
  | d + 1, i => if h : i < l.length then (if l[i].gid = g then some i else atO l g d (i + 1)) else none
def mailO (l : List Mail) (g : Int) : Option Nat := atO l g l.length 0
def intO : Option Nat → Int
  | some i => i
  | none => -1
theorem atO_lt (l : List Mail) (g : Int) : ∀ d i k, atO l g d i = some k → k < l.length
  | 0, i, k, h => by simp [atO] at h
  | d + 1, i, k, h => by
    rw [atO] at h
    by_cases hl : i < l.length
    · rw [dif_pos hl] at h
      split at h
      · cases h; exact hl
      · exact atO_lt l g d (i + 1) k h
    · rw [dif_neg hl] at h; cases h
def atFin (q : Option Nat) (m : St) : Out × St := match q with
  | some i => (.ret, { t := [(4, .c (I i))], o := [], n := m.n })
  | none => (.exit 0, m)
theorem atFin_ne (q : Option Nat) (m : St) : (atFin q m).1 ≠ .normal := by cases q <;> simp [atFin]
/-- the loop of either -/
theorem at_loop {f : St → Option (Out × St)} {β : Type} (l : List Mail) (g : Int) (S : Nat → β → St)
    (h1 : ∀ i (h : i < l.length) x, l[i].gid = g → ∃ m, f (S i x) = some (atFin (some i) m)) (h2 : ∀ i (h : i < l.length) x, ¬ l[i].gid = g → ∃ y, f (S i x) = some (.normal, S (i + 1) y))
    (h3 : ∀ x, ∃ m, f (S l.length x) = some (atFin none m)) : ∃ g' : β → St, ∀ x, loopN f (l.length + 1) (S 0 x) = some (atFin (mailO l g) (g' x)) := by
  refine loop_all (f := f) S (fun i => i ≤ l.length) (fun i => l.length - i) (fun i => atO l g (l.length - i) i) atFin ?_ (l.length + 1) 0 (Nat.zero_le _) (by omega)
  intro i x hi
  by_cases hlt : i < l.length
  · have hd : l.length - i = (l.length - (i + 1)) + 1 := by omega
    have hg : atO l g (l.length - i) i = if l[i].gid = g then some i else atO l g (l.length - (i + 1)) (i + 1) := by rw [hd, atO, dif_pos hlt]
    simp only [hg]
    by_cases c : l[i].gid = g
    · right
      obtain ⟨m, hm⟩ := h1 i hlt x c
      rw [if_pos c]
      exact ⟨m, hm, atFin_ne _ _⟩
    · left
      obtain ⟨y, hy⟩ := h2 i hlt x c
      rw [if_neg c]
      exact ⟨i + 1, y, hy, hlt, by omega, rfl⟩
  · have : i = l.length := by omega
    subst this
    right
    obtain ⟨m, hm⟩ := h3 x
    simp only [Nat.sub_self, atO]
    exact ⟨m, hm, atFin_ne _ _⟩
def spAtS (b : Box) (g : Int) (i : Nat) (x : Nat × Nat) : St := { t := [(1, .c (I g)), (2, .c (.ptr 2 x.1 0 0)), (5, .c (I i))], o := [(2, ⟨x.1, 7, true, true, [encBox b]⟩)], n := x.2 }
theorem spec_MailAt.says (h : spec_MailAt.k M) (b : Box) (g : Int) (hb : b.mails.length ≤ 1048576) : run M 91 [.a (encBox b), .c (I g)] [] = some (.c (I (intO (mailO b.mails g))), []) := by
  refine run_code (b := spec_MailAt.m) h ⟨b.mails.length + 1, ?_⟩
  obtain ⟨g', hr⟩ := at_loop (f := exC (run M) (b.mails.length + 1) spec_MailAt.l0) b.mails g (spAtS b g)
    (fun i hi x c => by
      obtain ⟨v, x⟩ := x
      simp [spAtS, spec_MailAt.l0, hi, c, encMail, atFin]
      exact ⟨⟨[], [], _⟩, rfl⟩)
    (fun i hi x c => by
      obtain ⟨v, x⟩ := x
      have e5 : IntKind.i64.wrap ((i : Int) + 1) = (i : Int) + 1 := wrap_i64 (by omega) (by omega)
      simp only [Prod.exists]
      simp [spAtS, spec_MailAt.l0, hi, c, encMail, e5])
    (fun x => by
      obtain ⟨v, x⟩ := x
      simp [spAtS, spec_MailAt.l0, atFin])
  cases hm : mailO b.mails g with
  | none =>
    simp [spAtS, hm, atFin] at hr
    simp [exB, spec_MailAt.m, spec_MailAt.b, List.range_succ, hr, intO]
  | some k =>
    simp [spAtS, hm, atFin] at hr
    simp [exB, spec_MailAt.m, spec_MailAt.b, List.range_succ, hr, intO]
theorem impl_MailAt_1.says (h : impl_MailAt_1.k M) (m : Mail) (g : Int) : run M 160 [.a (encMail m), .c (.vp [I g] 0)] [] = some (.c (.bool (decide (m.gid = g))), []) := by
  refine run_code (b := impl_MailAt_1.m) h ⟨0, ?_⟩
  simp [exB, impl_MailAt_1.m, impl_MailAt_1.b, List.range_succ]
def ixS (l : List Mail) (g : Int) (i : Nat) (x : Nat) : St := { t := [(0, .c (mails l)), (1, .c (.fn 160 [.vp [I g] 0])), (7, .c (I l.length)), (8, .c (I i))], o := [], n := x }
theorem slices_IndexFunc_impl_Mail_impl_Mail.says (h : slices_IndexFunc_impl_Mail_impl_Mail.k M) (h2 : impl_MailAt_1.k M) (l : List Mail) (g : Int) (hl : l.length ≤ 1048576) :
    run M 161 [.c (mails l), .c (.fn 160 [.vp [I g] 0])] [] = some (.c (I (intO (mailO l g))), []) := by
  refine run_code (b := slices_IndexFunc_impl_Mail_impl_Mail.m) h ⟨l.length + 1, ?_⟩
  obtain ⟨g', hr⟩ := at_loop (f := exC (run M) (l.length + 1) slices_IndexFunc_impl_Mail_impl_Mail.l0) l g (ixS l g)
    (fun i hi x c => by
      have hm := impl_MailAt_1.says h2 l[i] g
      rw [decide_eq_true c] at hm
      simp [ixS, slices_IndexFunc_impl_Mail_impl_Mail.l0, hi, hm, encMail, atFin]
      exact ⟨⟨[], [], _⟩, rfl⟩)
    (fun i hi x c => by
      have hm := impl_MailAt_1.says h2 l[i] g
      rw [decide_eq_false c] at hm
      have e5 : IntKind.i64.wrap ((i : Int) + 1) = (i : Int) + 1 := wrap_i64 (by omega) (by omega)
      simp [ixS, slices_IndexFunc_impl_Mail_impl_Mail.l0, hi, hm, encMail, e5])
    (fun x => by simp [ixS, slices_IndexFunc_impl_Mail_impl_Mail.l0, atFin])
  cases hm : mailO l g with
  | none =>
    simp [ixS, hm, atFin] at hr
    simp [exB, slices_IndexFunc_impl_Mail_impl_Mail.m, slices_IndexFunc_impl_Mail_impl_Mail.b, List.range_succ, hr, intO]
  | some k =>
    simp [ixS, hm, atFin] at hr
    simp [exB, slices_IndexFunc_impl_Mail_impl_Mail.m, slices_IndexFunc_impl_Mail_impl_Mail.b, List.range_succ, hr, intO]
theorem impl_MailAt.says (h : impl_MailAt.k M) (b : Box) (g : Int) (hb : b.mails.length ≤ 1048576) : run M 72 [.a (encBox b), .c (I g)] [] = some (.c (I (intO (mailO b.mails g))), []) := by
  have h1 := slices_IndexFunc_impl_Mail_impl_Mail.says h.2.2 h.2.1 b.mails g hb
  refine run_code (b := impl_MailAt.m) h.1 ⟨0, ?_⟩
  simp [exB, impl_MailAt.m, impl_MailAt.b, List.range_succ, h1]
def holds (b : Box) (g : Int) : Bool := decide (0 ≤ intO (mailO b.mails g))
theorem impl_Holds.says (h : impl_Holds.k M) (b : Box) (g : Int) (hb : b.mails.length ≤ 1048576) : run M 20 [.a (encBox b), .c (I g)] [] = some (.c (.bool (holds b g)), []) := by
  have h1 := impl_MailAt.says h.2 b g hb
  refine run_code (b := impl_Holds.m) h.1 ⟨0, ?_⟩
  simp [exB, impl_Holds.m, impl_Holds.b, List.range_succ, h1, holds, List.take_of_length_le]
end Mx

namespace Mx
open Go
/-- the first place from i on, of the d places there, of which p says yes -/
def firstF (p : Nat → Bool) : Nat → Nat → Option Nat
  | 0, _ => none
  | d + 1, i => if p i = true then some i else firstF p d (i + 1)
def firstN (p : Nat → Bool) (n : Nat) : Option Nat := firstF p n 0
theorem firstF_none (p : Nat → Bool) : ∀ d i, firstF p d i = none → ∀ j, i ≤ j → j < i + d → p j = false
  | 0, i, _, j, h1, h2 => by omega
  | d + 1, i, h, j, h1, h2 => by
    rw [firstF] at h
    split at h
    · cases h
    · by_cases e : j = i
      · subst e; simpa using ‹¬p j = true›
      · exact firstF_none p d (i + 1) h j (by omega) (by omega)
theorem firstF_some (p : Nat → Bool) : ∀ d i k, firstF p d i = some k → i ≤ k ∧ k < i + d ∧ p k = true ∧ ∀ j, i ≤ j → j < k → p j = false
  | d + 1, i, k, h => by
    rw [firstF] at h
    split at h
    · cases h
      exact ⟨by omega, by omega, ‹_›, fun j h1 h2 => by omega⟩
    · obtain ⟨h1, h2, h3, h4⟩ := firstF_some p d (i + 1) k h
      refine ⟨by omega, by omega, h3, fun j h5 h6 => ?_⟩
      by_cases e : j = i
      · subst e; simpa using ‹¬p j = true›
      · exact h4 j (by omega) h6
theorem firstN_none {p : Nat → Bool} {n : Nat} (h : firstN p n = none) : ∀ j, j < n → p j = false := fun j hj => firstF_none p n 0 h j (by omega) (by omega)
theorem firstN_some {p : Nat → Bool} {n k : Nat} (h : firstN p n = some k) : k < n ∧ p k = true ∧ ∀ j, j < k → p j = false := by
  obtain ⟨_, h2, h3, h4⟩ := firstF_some p n 0 k h
  exact ⟨by omega, h3, fun j hj => h4 j (by omega) hj⟩
theorem firstN_isNone {p : Nat → Bool} {n : Nat} : firstN p n = none ↔ ∀ j, j < n → p j = false := by
  refine ⟨firstN_none, fun h => ?_⟩
  cases q : firstN p n with
  | none => rfl
  | some k =>
    obtain ⟨h1, h2, _⟩ := firstN_some q
    rw [h k h1] at h2; cases h2
theorem first_loop {γ β : Type} (n : Nat) (p : Nat → Bool) {f : St → Option (Out × St)} (S : Nat → β → St) (fin : Option Nat → γ → Out × St) (hfin : ∀ q m, (fin q m).1 ≠ .normal)
    (h1 : ∀ i, i < n → ∀ x, p i = false → ∃ y, f (S i x) = some (.normal, S (i + 1) y)) (h2 : ∀ i, i < n → ∀ x, p i = true → ∃ m, f (S i x) = some (fin (some i) m))
    (h3 : ∀ x, ∃ m, f (S n x) = some (fin none m)) : ∃ g : β → γ, ∀ x, loopN f (n + 1) (S 0 x) = some (fin (firstN p n) (g x)) := by
  refine loop_all (f := f) S (fun i => i ≤ n) (fun i => n - i) (fun i => firstF p (n - i) i) fin ?_ (n + 1) 0 (Nat.zero_le _) (by omega)
  intro i x hi
  by_cases hlt : i < n
  · have hd : n - i = (n - (i + 1)) + 1 := by omega
    have hg : firstF p (n - i) i = if p i = true then some i else firstF p (n - (i + 1)) (i + 1) := by rw [hd, firstF]
    simp only [hg]
    by_cases c : p i = true
    · right
      obtain ⟨m, hm⟩ := h2 i hlt x c
      rw [if_pos c]
      exact ⟨m, hm, hfin _ _⟩
    · left
      obtain ⟨y, hy⟩ := h1 i hlt x (by simpa using c)
      rw [if_neg c]
      exact ⟨i + 1, y, hy, hlt, by omega, rfl⟩
  · have : i = n := by omega
    subst this
    right
    obtain ⟨m, hm⟩ := h3 x
    simp only [Nat.sub_self, firstF]
    exact ⟨m, hm, hfin _ _⟩
theorem loopN_le {f : St → Option (Out × St)} {n m : Nat} {s : St} {r : Out × St} (h : loopN f n s = some r) (hm : n ≤ m) : loopN f m s = some r := loopN_mono (fun _ _ h => h) hm h
/-- a loop that answers w at the first place found, and goes on behind itself if there is none -/
def fin1 {β : Type} (r : Nat) (w : T) (e : Nat) (E : β → St) (q : Option Nat) (m : β × Nat) : Out × St := match q with
  | none => (.exit e, E m.1)
  | some _ => (.ret, { t := [(r, .c w)], o := [], n := m.2 })
theorem early_loop {β : Type} (n : Nat) (p : Nat → Bool) {f : St → Option (Out × St)} (S : Nat → β → St) (r : Nat) (w : T) (e : Nat) (E : β → St)
    (h1 : ∀ i, i < n → ∀ x, p i = false → ∃ y, f (S i x) = some (.normal, S (i + 1) y)) (h2 : ∀ i, i < n → ∀ x, p i = true → ∃ k, f (S i x) = some (.ret, { t := [(r, .c w)], o := [], n := k }))
    (h3 : ∀ x, ∃ y, f (S n x) = some (.exit e, E y)) : ∃ g : β → β × Nat, ∀ x, loopN f (n + 1) (S 0 x) = some (fin1 r w e E (firstN p n) (g x)) :=
  first_loop n p S (fin1 r w e E) (fun q m => by cases q <;> simp [fin1]) h1 (fun i hi x c => by
    obtain ⟨k, hk⟩ := h2 i hi x c
    exact ⟨(x, k), hk⟩) (fun x => by
    obtain ⟨y, hy⟩ := h3 x
    exact ⟨(y, 0), hy⟩)
/-- a loop that goes through a whole list with what it has so far -/
theorem fold_loop {α σ β γ : Type} (l : List α) (step : σ → α → σ) (Inv : Nat → σ → Prop) {f : St → Option (Out × St)} (S : Nat → σ → β → St) (e : Nat) (E : σ → γ → St)
    (hI : ∀ i (h : i < l.length) s, Inv i s → Inv (i + 1) (step s l[i]))
    (h1 : ∀ i (h : i < l.length) s x, Inv i s → ∃ y, f (S i s x) = some (.normal, S (i + 1) (step s l[i]) y))
    (h3 : ∀ s x, Inv l.length s → ∃ y, f (S l.length s x) = some (.exit e, E s y)) (s : σ) (h0 : Inv 0 s) :
    ∃ g : β → γ, ∀ x, loopN f (l.length + 1) (S 0 s x) = some (.exit e, E (l.foldl step s) (g x)) := by
  refine loop_all (f := f) (fun p : Nat × σ => S p.1 p.2) (fun p => p.1 ≤ l.length ∧ Inv p.1 p.2) (fun p => l.length - p.1) (fun p => (l.drop p.1).foldl step p.2) (fun q m => (.exit e, E q m)) ?_ (l.length + 1) (0, s) ⟨Nat.zero_le _, h0⟩ (by simp)
  rintro ⟨i, s⟩ x ⟨hi, hs⟩
  simp only at hi hs
  by_cases hlt : i < l.length
  · left
    obtain ⟨y, hy⟩ := h1 i hlt s x hs
    refine ⟨(i + 1, step s l[i]), y, hy, ⟨hlt, hI i hlt s hs⟩, by simp only; omega, ?_⟩
    simp only
    rw [List.drop_eq_getElem_cons hlt, List.foldl_cons]
  · have : i = l.length := by omega
    subst this
    right
    obtain ⟨y, hy⟩ := h3 s x hs
    exact ⟨y, by simp [hy], by simp⟩
theorem foldl_inv {α σ : Type} (l : List α) (step : σ → α → σ) (Inv : Nat → σ → Prop) (hI : ∀ i (h : i < l.length) s, Inv i s → Inv (i + 1) (step s l[i])) : ∀ s, Inv 0 s → Inv l.length (l.foldl step s) := by
  have key : ∀ d i s, i + d = l.length → Inv i s → Inv l.length ((l.drop i).foldl step s) := by
    intro d
    induction d with
    | zero => intro i s hi h; have : i = l.length := by omega
              subst this; simpa using h
    | succ d ih =>
      intro i s hi h
      have hlt : i < l.length := by omega
      rw [List.drop_eq_getElem_cons hlt, List.foldl_cons]
      exact ih (i + 1) _ (by omega) (hI i hlt s h)
  intro s h
  simpa using key l.length 0 s (by omega) h
/-- texts one behind the other -/
def texts {α : Type} (t : α → List UInt8) (l : List α) : List UInt8 := l.flatMap t
end Mx

namespace Mx
open Go
variable {M : Nat → Option Body}
def inR (a n b : Int) : Bool := decide (a ≤ n) && decide (n ≤ b)
theorem impl_within.inR (h : impl_within.k M) (n a b : Int) : run M 101 [.c (I n), .c (I a), .c (I b)] [] = some (.c (.bool (inR a n b)), []) := impl_within.says h n a b
theorem spec_l01In.inR (h : spec_l01In.k M) (n a b : Int) : run M 98 [.c (I n), .c (I a), .c (I b)] [] = some (.c (.bool (inR a n b)), []) := spec_l01In.says h n a b
def stampOk (t w : Int) : Bool := inR 0 t 100000 && inR 0 w 2
theorem impl_StampOk.says (h : impl_StampOk.k M) (t w : Int) : run M 164 [.a [I t, I w]] [] = some (.c (.bool (stampOk t w)), []) := by
  have h1 := impl_within.inR h.2 t 0 100000
  have h2 := impl_within.inR h.2 w 0 2
  refine run_code (b := impl_StampOk.m) h.1 ⟨0, ?_⟩
  cases c : inR 0 t 100000 <;> simp (maxSteps := 1000000) (disch := (first | omega | (simp; done) | (simp; omega))) [exB, impl_StampOk.m, impl_StampOk.b, List.range_succ, bs_get, List.take_of_length_le, setAt, str_add, h1, h2, c, stampOk]
theorem spec_StampOk.says (h : spec_StampOk.k M) (t w : Int) : run M 183 [.a [I t, I w]] [] = some (.c (.bool (stampOk t w)), []) := by
  have h1 := spec_l01In.inR h.2 t 0 100000
  have h2 := spec_l01In.inR h.2 w 0 2
  refine run_code (b := spec_StampOk.m) h.1 ⟨0, ?_⟩
  cases c : inR 0 t 100000 <;> simp (maxSteps := 1000000) (disch := (first | omega | (simp; done) | (simp; omega))) [exB, spec_StampOk.m, spec_StampOk.b, List.range_succ, bs_get, List.take_of_length_le, setAt, str_add, h1, h2, c, stampOk]
def regOk (r : Reg) : Bool := stampOk r.time r.who && inR 0 r.val 1000000000
theorem impl_RegOk.says (h : impl_RegOk.k M) (r : Reg) : run M 272 [.a (encReg r)] [] = some (.c (.bool (regOk r)), []) := by
  have h1 := impl_StampOk.says h.2.2 r.time r.who
  have h2 := impl_within.inR h.2.1 r.val 0 1000000000
  refine run_code (b := impl_RegOk.m) h.1 ⟨0, ?_⟩
  cases c : stampOk r.time r.who <;> simp (maxSteps := 1000000) (disch := (first | omega | (simp; done) | (simp; omega))) [exB, impl_RegOk.m, impl_RegOk.b, List.range_succ, bs_get, List.take_of_length_le, setAt, str_add, h1, h2, c, regOk]
theorem spec_RegOk.says (h : spec_RegOk.k M) (r : Reg) : run M 276 [.a (encReg r)] [] = some (.c (.bool (regOk r)), []) := by
  have h1 := spec_StampOk.says h.2.2 r.time r.who
  have h2 := spec_l01In.inR h.2.1 r.val 0 1000000000
  refine run_code (b := spec_RegOk.m) h.1 ⟨0, ?_⟩
  cases c : stampOk r.time r.who <;> simp (maxSteps := 1000000) (disch := (first | omega | (simp; done) | (simp; omega))) [exB, spec_RegOk.m, spec_RegOk.b, List.range_succ, bs_get, List.take_of_length_le, setAt, str_add, h1, h2, c, regOk]
def badFlag (l : List Reg) (i : Nat) : Bool := match l[i]? with
  | some r => !regOk r || decide (1 < r.val)
  | none => false
def flagsOk (l : List Reg) : Bool := (firstN (badFlag l) l.length).isNone && decide (l.length = 3)
theorem badFlag_at {l : List Reg} {i : Nat} (h : i < l.length) : badFlag l i = (!regOk l[i] || decide (1 < l[i].val)) := by simp [badFlag, h]
def ifS (l : List Reg) (i : Nat) (x : Nat) : St := { t := [(0, .c (regs l)), (5, .c (regs l)), (6, .c (I l.length)), (7, .c (I i))], o := [], n := x }
def ifE (l : List Reg) (x : Nat) : St := { t := [(0, .c (regs l)), (5, .c (regs l)), (6, .c (I l.length)), (7, .c (I l.length)), (8, .c (.bool false))], o := [], n := x }
theorem impl_FlagsOk.says (h : impl_FlagsOk.k M) (l : List Reg) (hl : l.length ≤ 1048576) : run M 235 [.c (regs l)] [] = some (.c (.bool (flagsOk l)), []) := by
  refine run_code (b := impl_FlagsOk.m) h.1 ⟨l.length + 1, ?_⟩
  obtain ⟨g, hr⟩ := early_loop (f := exC (run M) (l.length + 1) impl_FlagsOk.l0) l.length (badFlag l) (ifS l) 2 (.bool false) 0 (ifE l)
    (fun i hi x c => by
      have e5 : IntKind.i64.wrap ((i : Int) + 1) = (i : Int) + 1 := wrap_i64 (by omega) (by omega)
      have hm := impl_RegOk.says h.2 l[i]
      rw [badFlag_at hi] at c
      simp at c
      simp only [encReg, c.1] at hm
      have c2 : ¬ (1 : Int) < l[i].val := by omega
      simp (maxSteps := 1000000) (disch := (first | omega | (simp; done) | (simp; omega))) [impl_FlagsOk.l0, List.range_succ, bs_get, List.take_of_length_le, setAt, str_add, ifS, hi, hm, encReg, c, c2, e5])
    (fun i hi x c => by
      have hm := impl_RegOk.says h.2 l[i]
      rw [badFlag_at hi] at c
      cases c1 : regOk l[i]
      · simp only [encReg, c1] at hm
        simp (maxSteps := 1000000) (disch := (first | omega | (simp; done) | (simp; omega))) [impl_FlagsOk.l0, List.range_succ, bs_get, List.take_of_length_le, setAt, str_add, ifS, hi, hm, encReg, c1]
      · simp [c1] at c
        simp only [encReg, c1] at hm
        simp (maxSteps := 1000000) (disch := (first | omega | (simp; done) | (simp; omega))) [impl_FlagsOk.l0, List.range_succ, bs_get, List.take_of_length_le, setAt, str_add, ifS, hi, hm, encReg, c1, c])
    (fun x => by simp (maxSteps := 1000000) (disch := (first | omega | (simp; done) | (simp; omega))) [impl_FlagsOk.l0, List.range_succ, bs_get, List.take_of_length_le, setAt, str_add, ifS, ifE])
  cases q : firstN (badFlag l) l.length with
  | none =>
    simp [ifS, ifE, q, fin1] at hr
    simp (maxSteps := 1000000) (disch := (first | omega | (simp; done) | (simp; omega))) [exB, impl_FlagsOk.m, impl_FlagsOk.b, List.range_succ, bs_get, List.take_of_length_le, setAt, str_add, hr, flagsOk, q]
    omega
  | some k =>
    simp [ifS, q, fin1] at hr
    simp (maxSteps := 1000000) (disch := (first | omega | (simp; done) | (simp; omega))) [exB, impl_FlagsOk.m, impl_FlagsOk.b, List.range_succ, bs_get, List.take_of_length_le, setAt, str_add, hr, flagsOk, q]
def sfS (l : List Reg) (i : Nat) (x : Nat) : St := { t := [(0, .c (regs l)), (3, .c (I i))], o := [], n := x }
def sfE (l : List Reg) (x : Nat) : St := { t := [(0, .c (regs l)), (3, .c (I l.length)), (7, .c (.bool false))], o := [], n := x }
theorem spec_FlagsOk.says (h : spec_FlagsOk.k M) (l : List Reg) (hl : l.length ≤ 1048576) : run M 242 [.c (regs l)] [] = some (.c (.bool (flagsOk l)), []) := by
  refine run_code (b := spec_FlagsOk.m) h.1 ⟨l.length + 1, ?_⟩
  obtain ⟨g, hr⟩ := early_loop (f := exC (run M) (l.length + 1) spec_FlagsOk.l0) l.length (badFlag l) (sfS l) 2 (.bool false) 0 (sfE l)
    (fun i hi x c => by
      have e5 : IntKind.i64.wrap ((i : Int) + 1) = (i : Int) + 1 := wrap_i64 (by omega) (by omega)
      have hm := spec_RegOk.says h.2 l[i]
      rw [badFlag_at hi] at c
      simp at c
      simp only [encReg, c.1] at hm
      have c2 : ¬ (1 : Int) < l[i].val := by omega
      simp (maxSteps := 1000000) (disch := (first | omega | (simp; done) | (simp; omega))) [spec_FlagsOk.l0, List.range_succ, bs_get, List.take_of_length_le, setAt, str_add, sfS, hi, hm, encReg, c, c2, e5])
    (fun i hi x c => by
      have hm := spec_RegOk.says h.2 l[i]
      rw [badFlag_at hi] at c
      cases c1 : regOk l[i]
      · simp only [encReg, c1] at hm
        simp (maxSteps := 1000000) (disch := (first | omega | (simp; done) | (simp; omega))) [spec_FlagsOk.l0, List.range_succ, bs_get, List.take_of_length_le, setAt, str_add, sfS, hi, hm, encReg, c1]
      · simp [c1] at c
        simp only [encReg, c1] at hm
        simp (maxSteps := 1000000) (disch := (first | omega | (simp; done) | (simp; omega))) [spec_FlagsOk.l0, List.range_succ, bs_get, List.take_of_length_le, setAt, str_add, sfS, hi, hm, encReg, c1, c])
    (fun x => by simp (maxSteps := 1000000) (disch := (first | omega | (simp; done) | (simp; omega))) [spec_FlagsOk.l0, List.range_succ, bs_get, List.take_of_length_le, setAt, str_add, sfS, sfE])
  cases q : firstN (badFlag l) l.length with
  | none =>
    simp [sfS, sfE, q, fin1] at hr
    simp (maxSteps := 1000000) (disch := (first | omega | (simp; done) | (simp; omega))) [exB, spec_FlagsOk.m, spec_FlagsOk.b, List.range_succ, bs_get, List.take_of_length_le, setAt, str_add, hr, flagsOk, q]
    omega
  | some k =>
    simp [sfS, q, fin1] at hr
    simp (maxSteps := 1000000) (disch := (first | omega | (simp; done) | (simp; omega))) [exB, spec_FlagsOk.m, spec_FlagsOk.b, List.range_succ, bs_get, List.take_of_length_le, setAt, str_add, hr, flagsOk, q]
theorem impl_isGid.says (h : impl_isGid.k M) (n : Int) : run M 147 [.c (I n)] [] = some (.c (.bool (inR 1 n 9999)), []) := by
  have h1 := impl_within.inR h.2 n 1 9999
  refine run_code (b := impl_isGid.m) h.1 ⟨0, ?_⟩
  simp (maxSteps := 1000000) (disch := (first | omega | (simp; done) | (simp; omega))) [exB, impl_isGid.m, impl_isGid.b, List.range_succ, bs_get, List.take_of_length_le, setAt, str_add, h1]
def mailOk (m : Mail) : Bool := inR 1 m.gid 9999 && inR 1 m.uid 9999 && flagsOk m.flags && decide (m.text.length ≤ 60)
theorem impl_MailOk.says (h : impl_MailOk.k M) (m : Mail) (hl : m.flags.length ≤ 1048576) : run M 166 [.a (encMail m)] [] = some (.c (.bool (mailOk m)), []) := by
  have h1 := impl_isGid.says h.2.1 m.gid
  have h2 := impl_isGid.says h.2.1 m.uid
  have h3 := impl_FlagsOk.says h.2.2 m.flags hl
  refine run_code (b := impl_MailOk.m) h.1 ⟨0, ?_⟩
  cases c1 : inR 1 m.gid 9999
  · simp (maxSteps := 1000000) (disch := (first | omega | (simp; done) | (simp; omega))) [exB, impl_MailOk.m, impl_MailOk.b, List.range_succ, bs_get, List.take_of_length_le, setAt, str_add, h1, c1, mailOk]
  cases c2 : inR 1 m.uid 9999
  · simp (maxSteps := 1000000) (disch := (first | omega | (simp; done) | (simp; omega))) [exB, impl_MailOk.m, impl_MailOk.b, List.range_succ, bs_get, List.take_of_length_le, setAt, str_add, h1, h2, c1, c2, mailOk]
  cases c3 : flagsOk m.flags
  · simp (maxSteps := 1000000) (disch := (first | omega | (simp; done) | (simp; omega))) [exB, impl_MailOk.m, impl_MailOk.b, List.range_succ, bs_get, List.take_of_length_le, setAt, str_add, h1, h2, h3, c1, c2, c3, mailOk]
  simp (maxSteps := 1000000) (disch := (first | omega | (simp; done) | (simp; omega))) [exB, impl_MailOk.m, impl_MailOk.b, List.range_succ, bs_get, List.take_of_length_le, setAt, str_add, h1, h2, h3, c1, c2, c3, mailOk]
  omega
theorem spec_MailOk.says (h : spec_MailOk.k M) (m : Mail) (hl : m.flags.length ≤ 1048576) : run M 187 [.a (encMail m)] [] = some (.c (.bool (mailOk m)), []) := by
  have h1 := spec_l01In.inR h.2.1 m.gid 1 9999
  have h2 := spec_l01In.inR h.2.1 m.uid 1 9999
  have h3 := spec_FlagsOk.says h.2.2 m.flags hl
  refine run_code (b := spec_MailOk.m) h.1 ⟨0, ?_⟩
  cases c1 : inR 1 m.gid 9999
  · simp (maxSteps := 1000000) (disch := (first | omega | (simp; done) | (simp; omega))) [exB, spec_MailOk.m, spec_MailOk.b, List.range_succ, bs_get, List.take_of_length_le, setAt, str_add, h1, c1, mailOk]
  cases c2 : inR 1 m.uid 9999
  · simp (maxSteps := 1000000) (disch := (first | omega | (simp; done) | (simp; omega))) [exB, spec_MailOk.m, spec_MailOk.b, List.range_succ, bs_get, List.take_of_length_le, setAt, str_add, h1, h2, c1, c2, mailOk]
  cases c3 : flagsOk m.flags
  · simp (maxSteps := 1000000) (disch := (first | omega | (simp; done) | (simp; omega))) [exB, spec_MailOk.m, spec_MailOk.b, List.range_succ, bs_get, List.take_of_length_le, setAt, str_add, h1, h2, h3, c1, c2, c3, mailOk]
  simp (maxSteps := 1000000) (disch := (first | omega | (simp; done) | (simp; omega))) [exB, spec_MailOk.m, spec_MailOk.b, List.range_succ, bs_get, List.take_of_length_le, setAt, str_add, h1, h2, h3, c1, c2, c3, mailOk]
  omega
def badSign (l : List UInt8) (i : Nat) : Bool := match l[i]? with
  | some b => (decide ((b.toNat : Int) < 97) || decide (122 < (b.toNat : Int))) && (decide ((b.toNat : Int) < 48) || decide (57 < (b.toNat : Int)))
  | none => false
theorem badSign_at {l : List UInt8} {i : Nat} (h : i < l.length) :
    badSign l i = ((decide ((l[i].toNat : Int) < 97) || decide (122 < (l[i].toNat : Int))) && (decide ((l[i].toNat : Int) < 48) || decide (57 < (l[i].toNat : Int)))) := by simp [badSign, h]
def nameOk (l : List UInt8) : Bool := (firstN (badSign l) l.length).isNone && inR 1 l.length 12
def inSS (l : List UInt8) (i : Nat) (x : Nat) : St := { t := [(0, .c (S l)), (3, .c (I i))], o := [], n := x }
def inSE (l : List UInt8) (x : Nat) : St := { t := [(0, .c (S l)), (3, .c (I l.length)), (7, .c (.bool false))], o := [], n := x }
theorem impl_NameOk.says (h : impl_NameOk.k M) (l : List UInt8) (hl : l.length ≤ 4611686018427387904) : run M 89 [.c (S l)] [] = some (.c (.bool (nameOk l)), []) := by
  have h1 := impl_within.inR h.2 l.length 1 12
  refine run_code (b := impl_NameOk.m) h.1 ⟨l.length + 1, ?_⟩
  obtain ⟨g, hr⟩ := early_loop (f := exC (run M) (l.length + 1) impl_NameOk.l0) l.length (badSign l) (inSS l) 2 (.bool false) 0 (inSE l)
    (fun i hi x c => by
      have e5 : IntKind.i64.wrap ((i : Int) + 1) = (i : Int) + 1 := wrap_i64 (by omega) (by omega)
      rw [badSign_at hi] at c
      generalize hb : ((l[i].toNat : Nat) : Int) = b at c
      by_cases c1 : b < 97
      · by_cases c2 : b < 48
        · simp [c1, c2] at c
        · by_cases c3 : 57 < b
          · simp [c1, c2, c3] at c
          · simp (maxSteps := 1000000) (disch := (first | omega | (simp; done) | (simp; omega))) [impl_NameOk.l0, List.range_succ, bs_get, List.take_of_length_le, setAt, str_add, inSS, hi, e5, hb, c1, c2, c3]
      · by_cases c4 : 122 < b
        · have c3 : 57 < b := by omega
          simp [c1, c4, c3] at c
        · simp (maxSteps := 1000000) (disch := (first | omega | (simp; done) | (simp; omega))) [impl_NameOk.l0, List.range_succ, bs_get, List.take_of_length_le, setAt, str_add, inSS, hi, e5, hb, c1, c4])
    (fun i hi x c => by
      rw [badSign_at hi] at c
      generalize hb : ((l[i].toNat : Nat) : Int) = b at c
      by_cases c1 : b < 97
      · by_cases c2 : b < 48
        · simp (maxSteps := 1000000) (disch := (first | omega | (simp; done) | (simp; omega))) [impl_NameOk.l0, List.range_succ, bs_get, List.take_of_length_le, setAt, str_add, inSS, hi, hb, c1, c2]
        · by_cases c3 : 57 < b
          · simp (maxSteps := 1000000) (disch := (first | omega | (simp; done) | (simp; omega))) [impl_NameOk.l0, List.range_succ, bs_get, List.take_of_length_le, setAt, str_add, inSS, hi, hb, c1, c2, c3]
          · simp [c1, c2, c3] at c
      · by_cases c4 : 122 < b
        · have c2 : ¬ b < 48 := by omega
          have c3 : 57 < b := by omega
          simp (maxSteps := 1000000) (disch := (first | omega | (simp; done) | (simp; omega))) [impl_NameOk.l0, List.range_succ, bs_get, List.take_of_length_le, setAt, str_add, inSS, hi, hb, c1, c2, c3, c4]
        · simp [c1, c4] at c)
    (fun x => by simp (maxSteps := 1000000) (disch := (first | omega | (simp; done) | (simp; omega))) [impl_NameOk.l0, List.range_succ, bs_get, List.take_of_length_le, setAt, str_add, inSS, inSE])
  cases q : firstN (badSign l) l.length with
  | none =>
    simp [inSS, inSE, q, fin1] at hr
    simp (maxSteps := 1000000) (disch := (first | omega | (simp; done) | (simp; omega))) [exB, impl_NameOk.m, impl_NameOk.b, List.range_succ, bs_get, List.take_of_length_le, setAt, str_add, hr, nameOk, q, h1]
  | some k =>
    simp [inSS, q, fin1] at hr
    simp (maxSteps := 1000000) (disch := (first | omega | (simp; done) | (simp; omega))) [exB, impl_NameOk.m, impl_NameOk.b, List.range_succ, bs_get, List.take_of_length_le, setAt, str_add, hr, nameOk, q]
def snSS (l : List UInt8) (i : Nat) (x : Nat) : St := { t := [(0, .c (S l)), (3, .c (I i))], o := [], n := x }
def snSE (l : List UInt8) (x : Nat) : St := { t := [(0, .c (S l)), (3, .c (I l.length)), (7, .c (.bool false))], o := [], n := x }
theorem spec_NameOk.says (h : spec_NameOk.k M) (l : List UInt8) (hl : l.length ≤ 4611686018427387904) : run M 90 [.c (S l)] [] = some (.c (.bool (nameOk l)), []) := by
  have h1 := spec_l01In.inR h.2 l.length 1 12
  refine run_code (b := spec_NameOk.m) h.1 ⟨l.length + 1, ?_⟩
  obtain ⟨g, hr⟩ := early_loop (f := exC (run M) (l.length + 1) spec_NameOk.l0) l.length (badSign l) (snSS l) 2 (.bool false) 0 (snSE l)
    (fun i hi x c => by
      have e5 : IntKind.i64.wrap ((i : Int) + 1) = (i : Int) + 1 := wrap_i64 (by omega) (by omega)
      rw [badSign_at hi] at c
      generalize hb : ((l[i].toNat : Nat) : Int) = b at c
      by_cases c1 : b < 97
      · by_cases c2 : b < 48
        · simp [c1, c2] at c
        · by_cases c3 : 57 < b
          · simp [c1, c2, c3] at c
          · simp (maxSteps := 1000000) (disch := (first | omega | (simp; done) | (simp; omega))) [spec_NameOk.l0, List.range_succ, bs_get, List.take_of_length_le, setAt, str_add, snSS, hi, e5, hb, c1, c2, c3]
      · by_cases c4 : 122 < b
        · have c3 : 57 < b := by omega
          simp [c1, c4, c3] at c
        · simp (maxSteps := 1000000) (disch := (first | omega | (simp; done) | (simp; omega))) [spec_NameOk.l0, List.range_succ, bs_get, List.take_of_length_le, setAt, str_add, snSS, hi, e5, hb, c1, c4])
    (fun i hi x c => by
      rw [badSign_at hi] at c
      generalize hb : ((l[i].toNat : Nat) : Int) = b at c
      by_cases c1 : b < 97
      · by_cases c2 : b < 48
        · simp (maxSteps := 1000000) (disch := (first | omega | (simp; done) | (simp; omega))) [spec_NameOk.l0, List.range_succ, bs_get, List.take_of_length_le, setAt, str_add, snSS, hi, hb, c1, c2]
        · by_cases c3 : 57 < b
          · simp (maxSteps := 1000000) (disch := (first | omega | (simp; done) | (simp; omega))) [spec_NameOk.l0, List.range_succ, bs_get, List.take_of_length_le, setAt, str_add, snSS, hi, hb, c1, c2, c3]
          · simp [c1, c2, c3] at c
      · by_cases c4 : 122 < b
        · have c2 : ¬ b < 48 := by omega
          have c3 : 57 < b := by omega
          simp (maxSteps := 1000000) (disch := (first | omega | (simp; done) | (simp; omega))) [spec_NameOk.l0, List.range_succ, bs_get, List.take_of_length_le, setAt, str_add, snSS, hi, hb, c1, c2, c3, c4]
        · simp [c1, c4] at c)
    (fun x => by simp (maxSteps := 1000000) (disch := (first | omega | (simp; done) | (simp; omega))) [spec_NameOk.l0, List.range_succ, bs_get, List.take_of_length_le, setAt, str_add, snSS, snSE])
  cases q : firstN (badSign l) l.length with
  | none =>
    simp [snSS, snSE, q, fin1] at hr
    simp (maxSteps := 1000000) (disch := (first | omega | (simp; done) | (simp; omega))) [exB, spec_NameOk.m, spec_NameOk.b, List.range_succ, bs_get, List.take_of_length_le, setAt, str_add, hr, nameOk, q, h1]
  | some k =>
    simp [snSS, q, fin1] at hr
    simp (maxSteps := 1000000) (disch := (first | omega | (simp; done) | (simp; omega))) [exB, spec_NameOk.m, spec_NameOk.b, List.range_succ, bs_get, List.take_of_length_le, setAt, str_add, hr, nameOk, q]
def badGid (l : List Int) (i : Nat) : Bool := match l[i]? with
  | some g => !inR 1 g 9999 || (decide (0 < i) && match l[i - 1]? with | some f => decide (g ≤ f) | none => false)
  | none => false
theorem badGid_at {l : List Int} {i : Nat} (h : i < l.length) : badGid l i = (!inR 1 l[i] 9999 || (decide (0 < i) && decide (l[i] ≤ l[i - 1]))) := by
  simp [badGid, h, (show i - 1 < l.length by omega)]
def gidsOk (l : List Int) (most : Int) : Bool := (firstN (badGid l) l.length).isNone && decide ((l.length : Int) ≤ most)
def agS (l : List Int) (most : Int) (i : Nat) (x : Nat) : St := { t := [(0, .c (ints l)), (1, .c (I most)), (7, .c (ints l)), (8, .c (I l.length)), (9, .c (I i))], o := [], n := x }
def agE (l : List Int) (most : Int) (x : Nat) : St := { t := [(0, .c (ints l)), (1, .c (I most)), (7, .c (ints l)), (8, .c (I l.length)), (9, .c (I l.length)), (10, .c (.bool false))], o := [], n := x }
theorem impl_areGids.says (h : impl_areGids.k M) (l : List Int) (most : Int) (hl : l.length ≤ 4611686018427387904) : run M 165 [.c (ints l), .c (I most)] [] = some (.c (.bool (gidsOk l most)), []) := by
  refine run_code (b := impl_areGids.m) h.1 ⟨l.length + 1, ?_⟩
  obtain ⟨g, hr⟩ := early_loop (f := exC (run M) (l.length + 1) impl_areGids.l0) l.length (badGid l) (agS l most) 4 (.bool false) 0 (agE l most)
    (fun i hi x c => by
      have e5 : IntKind.i64.wrap ((i : Int) + 1) = (i : Int) + 1 := wrap_i64 (by omega) (by omega)
      have hm := impl_isGid.says h.2 l[i]
      rw [badGid_at hi] at c
      simp at c
      simp only [c.1] at hm
      by_cases c1 : 0 < i
      · have c2 : ¬ l[i] ≤ l[i - 1] := by have := c.2 c1; omega
        have e6 : IntKind.i64.wrap ((i : Int) - 1) = ((i - 1 : Nat) : Int) := by rw [wrap_i64 (by omega) (by omega)]; omega
        simp (maxSteps := 1000000) (disch := (first | omega | (simp; done) | (simp; omega))) [impl_areGids.l0, List.range_succ, bs_get, List.take_of_length_le, setAt, str_add, agS, hi, hm, c1, c2, e5, e6, (show i - 1 < l.length by omega)]
      · simp (maxSteps := 1000000) (disch := (first | omega | (simp; done) | (simp; omega))) [impl_areGids.l0, List.range_succ, bs_get, List.take_of_length_le, setAt, str_add, agS, hi, hm, c1, e5])
    (fun i hi x c => by
      have hm := impl_isGid.says h.2 l[i]
      rw [badGid_at hi] at c
      cases c1 : inR 1 l[i] 9999
      · simp only [c1] at hm
        simp (maxSteps := 1000000) (disch := (first | omega | (simp; done) | (simp; omega))) [impl_areGids.l0, List.range_succ, bs_get, List.take_of_length_le, setAt, str_add, agS, hi, hm]
      · simp [c1] at c
        obtain ⟨c2, c3⟩ := c
        simp only [c1] at hm
        have e6 : IntKind.i64.wrap ((i : Int) - 1) = ((i - 1 : Nat) : Int) := by rw [wrap_i64 (by omega) (by omega)]; omega
        simp (maxSteps := 1000000) (disch := (first | omega | (simp; done) | (simp; omega))) [impl_areGids.l0, List.range_succ, bs_get, List.take_of_length_le, setAt, str_add, agS, hi, hm, c2, c3, e6, (show i - 1 < l.length by omega)])
    (fun x => by simp (maxSteps := 1000000) (disch := (first | omega | (simp; done) | (simp; omega))) [impl_areGids.l0, List.range_succ, bs_get, List.take_of_length_le, setAt, str_add, agS, agE])
  cases q : firstN (badGid l) l.length with
  | none =>
    simp [agS, agE, q, fin1] at hr
    simp (maxSteps := 1000000) (disch := (first | omega | (simp; done) | (simp; omega))) [exB, impl_areGids.m, impl_areGids.b, List.range_succ, bs_get, List.take_of_length_le, setAt, str_add, hr, gidsOk, q]
  | some k =>
    simp [agS, q, fin1] at hr
    simp (maxSteps := 1000000) (disch := (first | omega | (simp; done) | (simp; omega))) [exB, impl_areGids.m, impl_areGids.b, List.range_succ, bs_get, List.take_of_length_le, setAt, str_add, hr, gidsOk, q]
def soS (l : List Int) (most : Int) (i : Nat) (x : Nat) : St := { t := [(0, .c (ints l)), (1, .c (I most)), (5, .c (I i))], o := [], n := x }
def soE (l : List Int) (most : Int) (x : Nat) : St := { t := [(0, .c (ints l)), (1, .c (I most)), (5, .c (I l.length)), (9, .c (.bool false))], o := [], n := x }
theorem spec_l06Sorted.says (h : spec_l06Sorted.k M) (l : List Int) (most : Int) (hl : l.length ≤ 4611686018427387904) : run M 186 [.c (ints l), .c (I most)] [] = some (.c (.bool (gidsOk l most)), []) := by
  refine run_code (b := spec_l06Sorted.m) h.1 ⟨l.length + 1, ?_⟩
  obtain ⟨g, hr⟩ := early_loop (f := exC (run M) (l.length + 1) spec_l06Sorted.l0) l.length (badGid l) (soS l most) 4 (.bool false) 0 (soE l most)
    (fun i hi x c => by
      have e5 : IntKind.i64.wrap ((i : Int) + 1) = (i : Int) + 1 := wrap_i64 (by omega) (by omega)
      have hm := spec_l01In.inR h.2 l[i] 1 9999
      rw [badGid_at hi] at c
      simp at c
      simp only [c.1] at hm
      by_cases c1 : 0 < i
      · have c2 : ¬ l[i] ≤ l[i - 1] := by have := c.2 c1; omega
        have e6 : IntKind.i64.wrap ((i : Int) - 1) = ((i - 1 : Nat) : Int) := by rw [wrap_i64 (by omega) (by omega)]; omega
        simp (maxSteps := 1000000) (disch := (first | omega | (simp; done) | (simp; omega))) [spec_l06Sorted.l0, List.range_succ, bs_get, List.take_of_length_le, setAt, str_add, soS, hi, hm, c1, c2, e5, e6, (show i - 1 < l.length by omega)]
      · simp (maxSteps := 1000000) (disch := (first | omega | (simp; done) | (simp; omega))) [spec_l06Sorted.l0, List.range_succ, bs_get, List.take_of_length_le, setAt, str_add, soS, hi, hm, c1, e5])
    (fun i hi x c => by
      have hm := spec_l01In.inR h.2 l[i] 1 9999
      rw [badGid_at hi] at c
      cases c1 : inR 1 l[i] 9999
      · simp only [c1] at hm
        simp (maxSteps := 1000000) (disch := (first | omega | (simp; done) | (simp; omega))) [spec_l06Sorted.l0, List.range_succ, bs_get, List.take_of_length_le, setAt, str_add, soS, hi, hm]
      · simp [c1] at c
        obtain ⟨c2, c3⟩ := c
        simp only [c1] at hm
        have e6 : IntKind.i64.wrap ((i : Int) - 1) = ((i - 1 : Nat) : Int) := by rw [wrap_i64 (by omega) (by omega)]; omega
        simp (maxSteps := 1000000) (disch := (first | omega | (simp; done) | (simp; omega))) [spec_l06Sorted.l0, List.range_succ, bs_get, List.take_of_length_le, setAt, str_add, soS, hi, hm, c2, c3, e6, (show i - 1 < l.length by omega)])
    (fun x => by simp (maxSteps := 1000000) (disch := (first | omega | (simp; done) | (simp; omega))) [spec_l06Sorted.l0, List.range_succ, bs_get, List.take_of_length_le, setAt, str_add, soS, soE])
  cases q : firstN (badGid l) l.length with
  | none =>
    simp [soS, soE, q, fin1] at hr
    simp (maxSteps := 1000000) (disch := (first | omega | (simp; done) | (simp; omega))) [exB, spec_l06Sorted.m, spec_l06Sorted.b, List.range_succ, bs_get, List.take_of_length_le, setAt, str_add, hr, gidsOk, q]
  | some k =>
    simp [soS, q, fin1] at hr
    simp (maxSteps := 1000000) (disch := (first | omega | (simp; done) | (simp; omega))) [exB, spec_l06Sorted.m, spec_l06Sorted.b, List.range_succ, bs_get, List.take_of_length_le, setAt, str_add, hr, gidsOk, q]
def isAt (l : List Int) (g : Int) (i : Nat) : Bool := match l[i]? with
  | some x => decide (x = g)
  | none => false
theorem isAt_at {l : List Int} {g : Int} {i : Nat} (h : i < l.length) : isAt l g i = decide (l[i] = g) := by simp [isAt, h]
theorem isAt_mem (l : List Int) (g : Int) : (firstN (isAt l g) l.length).isSome = decide (g ∈ l) := by
  rw [Bool.eq_iff_iff]
  simp only [decide_eq_true_eq]
  cases q : firstN (isAt l g) l.length with
  | none =>
    have := firstN_none q
    refine ⟨fun h => by simp at h, fun h => ?_⟩
    obtain ⟨i, hi, e⟩ := List.getElem_of_mem h
    have h1 := this i hi
    rw [isAt_at hi] at h1
    simp [e] at h1
  | some k =>
    obtain ⟨h1, h2, _⟩ := firstN_some q
    rw [isAt_at h1] at h2
    simp at h2
    refine ⟨fun _ => ?_, fun _ => rfl⟩
    rw [← h2]; exact List.getElem_mem h1
def siS (l : List Int) (g : Int) (i : Nat) (x : Nat) : St := { t := [(0, .c (ints l)), (1, .c (I g)), (5, .c (I i))], o := [], n := x }
def siE (l : List Int) (g : Int) (x : Nat) : St := { t := [(0, .c (ints l)), (1, .c (I g)), (5, .c (I l.length)), (9, .c (.bool false))], o := [], n := x }
theorem spec_l06In.says (h : spec_l06In.k M) (l : List Int) (g : Int) (hl : l.length ≤ 4611686018427387904) : run M 132 [.c (ints l), .c (I g)] [] = some (.c (.bool (decide (g ∈ l))), []) := by
  refine run_code (b := spec_l06In.m) h ⟨l.length + 1, ?_⟩
  obtain ⟨g', hr⟩ := early_loop (f := exC (run M) (l.length + 1) spec_l06In.l0) l.length (isAt l g) (siS l g) 4 (.bool true) 0 (siE l g)
    (fun i hi x c => by
      have e5 : IntKind.i64.wrap ((i : Int) + 1) = (i : Int) + 1 := wrap_i64 (by omega) (by omega)
      rw [isAt_at hi] at c
      simp at c
      simp (maxSteps := 1000000) (disch := (first | omega | (simp; done) | (simp; omega))) [spec_l06In.l0, List.range_succ, bs_get, List.take_of_length_le, setAt, str_add, siS, hi, e5, c])
    (fun i hi x c => by
      rw [isAt_at hi] at c
      simp at c
      simp (maxSteps := 1000000) (disch := (first | omega | (simp; done) | (simp; omega))) [spec_l06In.l0, List.range_succ, bs_get, List.take_of_length_le, setAt, str_add, siS, hi, c])
    (fun x => by simp (maxSteps := 1000000) (disch := (first | omega | (simp; done) | (simp; omega))) [spec_l06In.l0, List.range_succ, bs_get, List.take_of_length_le, setAt, str_add, siS, siE])
  have hm := isAt_mem l g
  rw [← hm]
  cases q : firstN (isAt l g) l.length with
  | none =>
    simp [siS, siE, q, fin1] at hr
    simp (maxSteps := 1000000) (disch := (first | omega | (simp; done) | (simp; omega))) [exB, spec_l06In.m, spec_l06In.b, List.range_succ, bs_get, List.take_of_length_le, setAt, str_add, hr]
  | some k =>
    simp [siS, q, fin1] at hr
    simp (maxSteps := 1000000) (disch := (first | omega | (simp; done) | (simp; omega))) [exB, spec_l06In.m, spec_l06In.b, List.range_succ, bs_get, List.take_of_length_le, setAt, str_add, hr]
def xiS (l : List Int) (g : Int) (i : Nat) (x : Nat) : St := { t := [(0, .c (ints l)), (1, .c (I g)), (7, .c (I l.length)), (8, .c (I i))], o := [], n := x }
theorem slices_Index_int_int.says (h : slices_Index_int_int.k M) (l : List Int) (g : Int) (hl : l.length ≤ 4611686018427387904) : run M 234 [.c (ints l), .c (I g)] [] = some (.c (I (intO (firstN (isAt l g) l.length))), []) := by
  refine run_code (b := slices_Index_int_int.m) h ⟨l.length + 1, ?_⟩
  obtain ⟨g', hr⟩ := first_loop (f := exC (run M) (l.length + 1) slices_Index_int_int.l0) l.length (isAt l g) (xiS l g) atFin atFin_ne
    (fun i hi x c => by
      have e5 : IntKind.i64.wrap ((i : Int) + 1) = (i : Int) + 1 := wrap_i64 (by omega) (by omega)
      rw [isAt_at hi] at c
      simp at c
      have c' : ¬ g = l[i] := fun q => c q.symm
      simp (maxSteps := 1000000) (disch := (first | omega | (simp; done) | (simp; omega))) [slices_Index_int_int.l0, List.range_succ, bs_get, List.take_of_length_le, setAt, str_add, xiS, hi, e5, c, c'])
    (fun i hi x c => by
      rw [isAt_at hi] at c
      simp at c
      simp (maxSteps := 1000000) (disch := (first | omega | (simp; done) | (simp; omega))) [slices_Index_int_int.l0, List.range_succ, bs_get, List.take_of_length_le, setAt, str_add, xiS, hi, c, atFin]
      exact ⟨⟨[], [], _⟩, rfl⟩)
    (fun x => by simp (maxSteps := 1000000) (disch := (first | omega | (simp; done) | (simp; omega))) [slices_Index_int_int.l0, List.range_succ, bs_get, List.take_of_length_le, setAt, str_add, xiS, atFin])
  cases q : firstN (isAt l g) l.length with
  | none =>
    simp [xiS, q, atFin] at hr
    simp (maxSteps := 1000000) (disch := (first | omega | (simp; done) | (simp; omega))) [exB, slices_Index_int_int.m, slices_Index_int_int.b, List.range_succ, bs_get, List.take_of_length_le, setAt, str_add, hr, intO]
  | some k =>
    simp [xiS, q, atFin] at hr
    simp (maxSteps := 1000000) (disch := (first | omega | (simp; done) | (simp; omega))) [exB, slices_Index_int_int.m, slices_Index_int_int.b, List.range_succ, bs_get, List.take_of_length_le, setAt, str_add, hr, intO]
theorem intO_pos (q : Option Nat) : decide (0 ≤ intO q) = q.isSome := by cases q <;> simp [intO]
theorem slices_Contains_int_int.says (h : slices_Contains_int_int.k M) (l : List Int) (g : Int) (hl : l.length ≤ 4611686018427387904) : run M 156 [.c (ints l), .c (I g)] [] = some (.c (.bool (decide (g ∈ l))), []) := by
  have h1 := slices_Index_int_int.says h.2 l g hl
  refine run_code (b := slices_Contains_int_int.m) h.1 ⟨0, ?_⟩
  rw [← isAt_mem l g, ← intO_pos]
  simp (maxSteps := 1000000) (disch := (first | omega | (simp; done) | (simp; omega))) [exB, slices_Contains_int_int.m, slices_Contains_int_int.b, List.range_succ, bs_get, List.take_of_length_le, setAt, str_add, h1]
end Mx

namespace Mx
open Go
variable {M : Nat → Option Body}
def guS (l : List Int) (x : Int) (i : Nat) (s : List Int) (m : Nat × Nat) : St := { t := [(0, .c (ints l)), (1, .c (I x)), (5, .c (.row 8 m.1 0 s.length)), (6, .c (I i))], o := [(8, ⟨m.1, 1, true, false, irow s⟩)], n := m.2 }
def guE (l : List Int) (x : Int) (s : List Int) (m : Nat × Nat) : St := { t := [(0, .c (ints l)), (1, .c (I x)), (5, .c (.row 8 m.1 0 s.length)), (6, .c (I l.length)), (12, .c (.bool false))], o := [(8, ⟨m.1, 1, true, false, irow s⟩)], n := m.2 }
def gvS (l : List Int) (x : Int) (i : Nat) (s : List Int) (m : Nat × Nat) : St := { t := [(0, .c (ints l)), (1, .c (I x)), (5, .c (.row 8 m.1 0 s.length)), (7, .c (I i))], o := [(8, ⟨m.1, 1, true, false, irow s⟩)], n := m.2 }
def gvE (l : List Int) (x : Int) (s : List Int) (m : Nat × Nat) : St := { t := [(0, .c (ints l)), (1, .c (I x)), (5, .c (.row 8 m.1 0 s.length)), (7, .c (I l.length)), (35, .c (.bool false))], o := [(8, ⟨m.1, 1, true, false, irow s⟩)], n := m.2 }
theorem filter_fold (p : Int → Bool) : ∀ (l s : List Int), l.foldl (fun s a => if p a = true then s ++ [a] else s) s = s ++ l.filter p
  | [], s => by simp
  | a :: l, s => by
    rw [List.foldl_cons, filter_fold p l, List.filter_cons]
    by_cases h : p a = true <;> simp [h]
theorem irow_snoc (s : List Int) (a : Int) : irow (s ++ [a]) = irow s ++ [[I a]] := by simp [irow]
theorem irow_length (s : List Int) : (irow s).length = s.length := by simp [irow]
theorem spec_l06Put.says (h : spec_l06Put.k M) (l : List Int) (x : Int) (hl : l.length ≤ 16777216) : run M 133 [.c (ints l), .c (I x)] [] = some (.c (.sl true 1 (irow (gput l x))), []) := by
  refine run_code (b := spec_l06Put.m) h ⟨l.length + 1, ?_⟩
  obtain ⟨g, hr⟩ := fold_loop (f := exC (run M) (l.length + 1) spec_l06Put.l0) l (fun s a => if decide (a < x) = true then s ++ [a] else s) (fun i s => s.length ≤ i) (guS l x) 0 (guE l x)
    (fun i h s hs => by split <;> (try simp) <;> omega)
    (fun i hi s m hs => by
      obtain ⟨v, m⟩ := m
      have e5 : IntKind.i64.wrap ((i : Int) + 1) = (i : Int) + 1 := wrap_i64 (by omega) (by omega)
      have e6 : s.length + 1 ≤ 4294967296 := by omega
      have e9 := irow_length s
      simp only [Prod.exists]
      by_cases c : l[i] < x
      · simp only [c, decide_true, if_true, guS, irow_snoc]
        generalize irow s = rr at *
        simp (maxSteps := 1000000) [spec_l06Put.l0, List.range_succ, bs_get, setAt, hi, c, e5, e6, e9, List.take_of_length_le]
      · simp only [c, decide_false, Bool.false_eq_true, if_false]
        simp (maxSteps := 1000000) [spec_l06Put.l0, List.range_succ, bs_get, setAt, guS, hi, c, e5])
    (fun s m hs => by
      obtain ⟨v, m⟩ := m
      simp only [Prod.exists]
      simp (maxSteps := 1000000) [spec_l06Put.l0, List.range_succ, bs_get, setAt, guS, guE]) [] (by simp)
  obtain ⟨g', hr'⟩ := fold_loop (f := exC (run M) (l.length + 1) spec_l06Put.l1) l (fun s a => if decide (x < a) = true then s ++ [a] else s) (fun i s => s.length ≤ l.length + 1 + i) (gvS l x) 2 (gvE l x)
    (fun i h s hs => by split <;> (try simp) <;> omega)
    (fun i hi s m hs => by
      obtain ⟨v, m⟩ := m
      have e5 : IntKind.i64.wrap ((i : Int) + 1) = (i : Int) + 1 := wrap_i64 (by omega) (by omega)
      have e6 : s.length + 1 ≤ 4294967296 := by omega
      have e9 := irow_length s
      simp only [Prod.exists]
      by_cases c : x < l[i]
      · simp only [c, decide_true, if_true, gvS, irow_snoc]
        generalize irow s = rr at *
        simp (maxSteps := 1000000) [spec_l06Put.l1, List.range_succ, bs_get, setAt, hi, c, e5, e6, e9, List.take_of_length_le]
      · simp only [c, decide_false, Bool.false_eq_true, if_false]
        simp (maxSteps := 1000000) [spec_l06Put.l1, List.range_succ, bs_get, setAt, gvS, hi, c, e5])
    (fun s m hs => by
      obtain ⟨v, m⟩ := m
      simp only [Prod.exists]
      simp (maxSteps := 1000000) [spec_l06Put.l1, List.range_succ, bs_get, setAt, gvS, gvE]) (l.filter (fun y => decide (y < x)) ++ [x]) (by have := List.length_filter_le (fun y => decide (y < x)) l; simp; omega)
  rw [filter_fold] at hr hr'
  have hfl := List.length_filter_le (fun y => decide (y < x)) l
  have e6 : (l.filter (fun y => decide (y < x))).length + 1 ≤ 4294967296 := by omega
  have e9 := irow_length (l.filter (fun y => decide (y < x)))
  have e10 := irow_length (l.filter (fun y => decide (y < x)) ++ [x] ++ l.filter (fun y => decide (x < y)))
  have e11 : (l.filter (fun y => decide (y < x)) ++ [x] ++ l.filter (fun y => decide (x < y))).length = (l.filter (fun y => decide (y < x))).length + ((l.filter (fun y => decide (x < y))).length + 1) := by simp only [List.length_append, List.length_singleton]; omega
  rw [e11] at e10
  have e12 := irow_snoc (l.filter (fun y => decide (y < x))) x
  unfold gput
  simp only [List.nil_append] at hr
  simp only [guS, guE, List.length_nil, e11] at hr
  simp only [gvS, gvE, e12, e11, List.length_append, List.length_singleton] at hr'
  generalize irow (l.filter (fun y => decide (y < x)) ++ [x] ++ l.filter (fun y => decide (x < y))) = r2 at *
  generalize irow (l.filter (fun y => decide (y < x))) = r1 at *
  simp [irow] at hr
  simp at hr'
  simp (maxSteps := 1000000) [exB, spec_l06Put.m, spec_l06Put.b, List.range_succ, bs_get, setAt, hr, hr', e6, e9, e10, List.take_of_length_le, irow]
structure GX where
  w : Nat
  v8 : Nat
  v1 : Nat
  v2 : Nat
  r8 : List (List T)
  r1 : List (List T)
  n : Nat
def gO0 (s : List Int) (x : GX) : List (Nat × Ob) := match x.w with
  | 0 => [(8, ⟨x.v8, 1, true, false, irow s⟩)]
  | _ => [(8, ⟨x.v8, 1, true, false, x.r8⟩), (12700, ⟨x.v1, 1, true, false, irow s⟩)]
def gR0 (s : List Int) (x : GX) : T := match x.w with
  | 0 => .row 8 x.v8 0 s.length
  | _ => .row 12700 x.v1 0 s.length
def gO (s : List Int) (x : GX) : List (Nat × Ob) := match x.w with
  | 0 => [(8, ⟨x.v8, 1, true, false, irow s⟩)]
  | 1 => [(8, ⟨x.v8, 1, true, false, x.r8⟩), (12700, ⟨x.v1, 1, true, false, irow s⟩)]
  | 2 => [(8, ⟨x.v8, 1, true, false, x.r8⟩), (14600, ⟨x.v2, 1, true, false, irow s⟩)]
  | _ => [(8, ⟨x.v8, 1, true, false, x.r8⟩), (12700, ⟨x.v1, 1, true, false, x.r1⟩), (14600, ⟨x.v2, 1, true, false, irow s⟩)]
def gR (s : List Int) (x : GX) : T := match x.w with
  | 0 => .row 8 x.v8 0 s.length
  | 1 => .row 12700 x.v1 0 s.length
  | _ => .row 14600 x.v2 0 s.length
theorem GX.of {p : GX → Prop} (w r8 r1) (h : ∃ v8 v1 v2 n, p ⟨w, v8, v1, v2, r8, r1, n⟩) : ∃ x, p x := by
  obtain ⟨v8, v1, v2, n, h⟩ := h; exact ⟨_, h⟩
def gjS (a b : List Int) (i : Nat) (s : List Int) (x : GX) : St := { t := [(0, .c (ints a)), (1, .c (ints b)), (5, .c (gR0 s x)), (6, .c (I i))], o := gO0 s x, n := x.n }
def gjE (a b : List Int) (s : List Int) (x : GX) : St := { t := [(0, .c (ints a)), (1, .c (ints b)), (5, .c (gR0 s x)), (6, .c (I a.length)), (12, .c (.bool false))], o := gO0 s x, n := x.n }
def gkS (b : List Int) (i : Nat) (s : List Int) (x : GX) : St := { t := [(1, .c (ints b)), (5, .c (gR s x)), (7, .c (I i))], o := gO s x, n := x.n }
def gkE (b : List Int) (s : List Int) (x : GX) : St := { t := [(1, .c (ints b)), (5, .c (gR s x)), (7, .c (I b.length)), (31, .c (.bool false))], o := gO s x, n := x.n }
theorem irow_scalar (l : List Int) : (irow l).all (fun r => r.all T.scalar) = true := by simp [irow, T.scalar]
theorem spec_JoinGone.turn0 (k1 : spec_l06In.k M) (k2 : spec_l06Put.k M) (a b : List Int) (K i : Nat) (hi : i < a.length) (ha : a.length ≤ 1048576) (s : List Int) (hs : s.length ≤ i) (x : GX) :
    ∃ y, exC (run M) K spec_JoinGone.l0 (gjS a b i s x) = some (.normal, gjS a b (i + 1) (gadd s a[i]) y) := by
  have h1 := spec_l06In.says k1 s a[i] (by omega)
  have h2 := spec_l06Put.says k2 s a[i] (by omega)
  have e5 : IntKind.i64.wrap ((i : Int) + 1) = (i : Int) + 1 := wrap_i64 (by omega) (by omega)
  have e9 := irow_length s
  have e10 := irow_length (gput s a[i])
  have hfl := irow_scalar (gput s a[i])
  simp only [ints] at h1 h2
  obtain ⟨w, v8, v1, v2, r8, r1, n⟩ := x
  unfold gadd
  by_cases c : a[i] ∈ s
  · rw [if_pos c]
    rw [decide_eq_true c] at h1
    refine GX.of w r8 r1 ?_
    match w with
    | 0 => simp only [gjS, gO0, gR0]; generalize irow s = rr at *; simp (maxSteps := 1000000) [spec_JoinGone.l0, List.range_succ, bs_get, setAt, hi, h1, e5, e9, List.take_of_length_le]
    | w + 1 => simp only [gjS, gO0, gR0]; generalize irow s = rr at *; simp (maxSteps := 1000000) [spec_JoinGone.l0, List.range_succ, bs_get, setAt, hi, h1, e5, e9, List.take_of_length_le]
  · rw [if_neg c]
    rw [decide_eq_false c] at h1
    match w with
    | 0 =>
      refine GX.of 1 (irow s) r1 ?_
      simp only [gjS, gO0, gR0]; generalize irow (gput s a[i]) = r2 at *; generalize irow s = rr at *; simp (maxSteps := 1000000) [spec_JoinGone.l0, List.range_succ, bs_get, setAt, hi, h1, h2, e5, e9, e10, hfl, List.take_of_length_le]
    | w + 1 =>
      refine GX.of 1 r8 r1 ?_
      simp only [gjS, gO0, gR0]; generalize irow (gput s a[i]) = r2 at *; generalize irow s = rr at *; simp (maxSteps := 1000000) [spec_JoinGone.l0, List.range_succ, bs_get, setAt, hi, h1, h2, e5, e9, e10, hfl, List.take_of_length_le]
theorem spec_JoinGone.turn1 (k1 : spec_l06In.k M) (k2 : spec_l06Put.k M) (b : List Int) (K i : Nat) (hi : i < b.length) (hb : b.length ≤ 1048576) (s : List Int) (hs : s.length ≤ 1048576 + i) (x : GX) :
    ∃ y, exC (run M) K spec_JoinGone.l1 (gkS b i s x) = some (.normal, gkS b (i + 1) (gadd s b[i]) y) := by
  have h1 := spec_l06In.says k1 s b[i] (by omega)
  have h2 := spec_l06Put.says k2 s b[i] (by omega)
  have e5 : IntKind.i64.wrap ((i : Int) + 1) = (i : Int) + 1 := wrap_i64 (by omega) (by omega)
  have e9 := irow_length s
  have e10 := irow_length (gput s b[i])
  have hfl := irow_scalar (gput s b[i])
  simp only [ints] at h1 h2
  obtain ⟨w, v8, v1, v2, r8, r1, n⟩ := x
  unfold gadd
  by_cases c : b[i] ∈ s
  · rw [if_pos c]
    rw [decide_eq_true c] at h1
    refine GX.of w r8 r1 ?_
    match w with
    | 0 => simp only [gkS, gO, gR]; generalize irow s = rr at *; simp (maxSteps := 1000000) [spec_JoinGone.l1, List.range_succ, bs_get, setAt, hi, h1, e5, e9, List.take_of_length_le]
    | 1 => simp only [gkS, gO, gR]; generalize irow s = rr at *; simp (maxSteps := 1000000) [spec_JoinGone.l1, List.range_succ, bs_get, setAt, hi, h1, e5, e9, List.take_of_length_le]
    | 2 => simp only [gkS, gO, gR]; generalize irow s = rr at *; simp (maxSteps := 1000000) [spec_JoinGone.l1, List.range_succ, bs_get, setAt, hi, h1, e5, e9, List.take_of_length_le]
    | w + 3 => simp only [gkS, gO, gR]; generalize irow s = rr at *; simp (maxSteps := 1000000) [spec_JoinGone.l1, List.range_succ, bs_get, setAt, hi, h1, e5, e9, List.take_of_length_le]
  · rw [if_neg c]
    rw [decide_eq_false c] at h1
    match w with
    | 0 =>
      refine GX.of 2 (irow s) r1 ?_
      simp only [gkS, gO, gR]; generalize irow (gput s b[i]) = r2 at *; generalize irow s = rr at *; simp (maxSteps := 1000000) [spec_JoinGone.l1, List.range_succ, bs_get, setAt, hi, h1, h2, e5, e9, e10, hfl, List.take_of_length_le]
    | 1 =>
      refine GX.of 3 r8 (irow s) ?_
      simp only [gkS, gO, gR]; generalize irow (gput s b[i]) = r2 at *; generalize irow s = rr at *; simp (maxSteps := 1000000) [spec_JoinGone.l1, List.range_succ, bs_get, setAt, hi, h1, h2, e5, e9, e10, hfl, List.take_of_length_le]
    | 2 =>
      refine GX.of 2 r8 r1 ?_
      simp only [gkS, gO, gR]; generalize irow (gput s b[i]) = r2 at *; generalize irow s = rr at *; simp (maxSteps := 1000000) [spec_JoinGone.l1, List.range_succ, bs_get, setAt, hi, h1, h2, e5, e9, e10, hfl, List.take_of_length_le]
    | w + 3 =>
      refine GX.of 3 r8 r1 ?_
      simp only [gkS, gO, gR]; generalize irow (gput s b[i]) = r2 at *; generalize irow s = rr at *; simp (maxSteps := 1000000) [spec_JoinGone.l1, List.range_succ, bs_get, setAt, hi, h1, h2, e5, e9, e10, hfl, List.take_of_length_le]
theorem spec_JoinGone.says (h : spec_JoinGone.k M) (a b : List Int) (ha : a.length ≤ 1048576) (hb : b.length ≤ 1048576) : run M 43 [.c (ints a), .c (ints b)] [] = some (.c (.sl true 1 (irow (joinGone a b))), []) := by
  obtain ⟨h0, k1, k2⟩ := h
  refine run_code (b := spec_JoinGone.m) h0 ⟨a.length + b.length + 1, ?_⟩
  obtain ⟨g, hr⟩ := fold_loop (f := exC (run M) (a.length + b.length + 1) spec_JoinGone.l0) a gadd (fun i s => s.length ≤ i) (gjS a b) 0 (gjE a b)
    (fun i h s hs => by have := gadd_len s a[i]; omega)
    (fun i hi s x hs => spec_JoinGone.turn0 k1 k2 a b _ i hi ha s hs x)
    (fun s x hs => by
      obtain ⟨w, v8, v1, v2, r8, r1, n⟩ := x
      refine GX.of w r8 r1 ?_
      match w with
      | 0 => simp only [gjS, gjE, gO0, gR0]; simp (maxSteps := 1000000) [spec_JoinGone.l0, List.range_succ, bs_get, setAt]
      | w + 1 => simp only [gjS, gjE, gO0, gR0]; simp (maxSteps := 1000000) [spec_JoinGone.l0, List.range_succ, bs_get, setAt]) [] (by simp)
  have hla := gfold_len a []
  obtain ⟨g', hr'⟩ := fold_loop (f := exC (run M) (a.length + b.length + 1) spec_JoinGone.l1) b gadd (fun i s => s.length ≤ 1048576 + i) (gkS b) 2 (gkE b)
    (fun i h s hs => by have := gadd_len s b[i]; omega)
    (fun i hi s x hs => spec_JoinGone.turn1 k1 k2 b _ i hi hb s hs x)
    (fun s x hs => by
      obtain ⟨w, v8, v1, v2, r8, r1, n⟩ := x
      refine GX.of w r8 r1 ?_
      match w with
      | 0 => simp only [gkS, gkE, gO, gR]; simp (maxSteps := 1000000) [spec_JoinGone.l1, List.range_succ, bs_get, setAt]
      | 1 => simp only [gkS, gkE, gO, gR]; simp (maxSteps := 1000000) [spec_JoinGone.l1, List.range_succ, bs_get, setAt]
      | 2 => simp only [gkS, gkE, gO, gR]; simp (maxSteps := 1000000) [spec_JoinGone.l1, List.range_succ, bs_get, setAt]
      | w + 3 => simp only [gkS, gkE, gO, gR]; simp (maxSteps := 1000000) [spec_JoinGone.l1, List.range_succ, bs_get, setAt]) (a.foldl gadd []) (by simp at hla ⊢; omega)
  have hr2 := fun x => loopN_le (hr x) (show a.length + 1 ≤ a.length + b.length + 1 by omega)
  have hr3 := fun x => loopN_le (hr' x) (show b.length + 1 ≤ a.length + b.length + 1 by omega)
  have hj : b.foldl gadd (a.foldl gadd []) = joinGone a b := by rw [joinGone, List.foldl_append]
  rw [hj] at hr3
  have e9 := irow_length (joinGone a b)
  generalize joinGone a b = j at *
  generalize a.foldl gadd [] = s at *
  have hr4 : ∀ y : GX, ∃ z : GX, loopN (exC (run M) (a.length + b.length + 1) spec_JoinGone.l1) (a.length + b.length + 1) (gkS b 0 s y) = some (.exit 2, gkE b j z) := fun y => ⟨_, hr3 y⟩
  have hq := hr2 ⟨0, 2000016, 0, 0, [], [], 2000064⟩
  generalize g ⟨0, 2000016, 0, 0, [], [], 2000064⟩ = y at hq
  clear hr hr2 hr' hr3
  obtain ⟨w, v8, v1, v2, r8, r1, n⟩ := y
  match w with
  | 0 =>
    obtain ⟨⟨w', u8, u1, u2, q8, q1, m⟩, hz⟩ := hr4 ⟨0, v8, v1, v2, r8, r1, n + 16⟩
    simp [gjS, gjE, gO0, gR0, irow] at hq
    match w' with
    | 0 => simp [gkS, gkE, gO, gR, irow] at hz; simp only [irow] at e9 ⊢; simp (maxSteps := 1000000) [exB, spec_JoinGone.m, spec_JoinGone.b, List.range_succ, bs_get, setAt, hq, hz, e9, List.take_of_length_le]
    | 1 => simp [gkS, gkE, gO, gR, irow] at hz; simp only [irow] at e9 ⊢; simp (maxSteps := 1000000) [exB, spec_JoinGone.m, spec_JoinGone.b, List.range_succ, bs_get, setAt, hq, hz, e9, List.take_of_length_le]
    | 2 => simp [gkS, gkE, gO, gR, irow] at hz; simp only [irow] at e9 ⊢; simp (maxSteps := 1000000) [exB, spec_JoinGone.m, spec_JoinGone.b, List.range_succ, bs_get, setAt, hq, hz, e9, List.take_of_length_le]
    | w' + 3 => simp [gkS, gkE, gO, gR, irow] at hz; simp only [irow] at e9 ⊢; simp (maxSteps := 1000000) [exB, spec_JoinGone.m, spec_JoinGone.b, List.range_succ, bs_get, setAt, hq, hz, e9, List.take_of_length_le]
  | w + 1 =>
    obtain ⟨⟨w', u8, u1, u2, q8, q1, m⟩, hz⟩ := hr4 ⟨1, v8, v1, v2, r8, r1, n + 16⟩
    simp [gjS, gjE, gO0, gR0, irow] at hq
    match w' with
    | 0 => simp [gkS, gkE, gO, gR, irow] at hz; simp only [irow] at e9 ⊢; simp (maxSteps := 1000000) [exB, spec_JoinGone.m, spec_JoinGone.b, List.range_succ, bs_get, setAt, hq, hz, e9, List.take_of_length_le]
    | 1 => simp [gkS, gkE, gO, gR, irow] at hz; simp only [irow] at e9 ⊢; simp (maxSteps := 1000000) [exB, spec_JoinGone.m, spec_JoinGone.b, List.range_succ, bs_get, setAt, hq, hz, e9, List.take_of_length_le]
    | 2 => simp [gkS, gkE, gO, gR, irow] at hz; simp only [irow] at e9 ⊢; simp (maxSteps := 1000000) [exB, spec_JoinGone.m, spec_JoinGone.b, List.range_succ, bs_get, setAt, hq, hz, e9, List.take_of_length_le]
    | w' + 3 => simp [gkS, gkE, gO, gR, irow] at hz; simp only [irow] at e9 ⊢; simp (maxSteps := 1000000) [exB, spec_JoinGone.m, spec_JoinGone.b, List.range_succ, bs_get, setAt, hq, hz, e9, List.take_of_length_le]
theorem run_sort (h : M 135 = some (.ext sortG)) (zs : List Int) (hz : zs.length ≤ 4294967296) : run M 135 [.c (.row 0 0 0 zs.length)] [(0, ⟨0, 1, true, false, irow zs⟩)] = some (.tup [], [(0, ⟨0, 1, true, false, irow (sortI zs)⟩)]) := by
  refine run_ext h ?_
  simp [sortG, lentInts, rowsInts_irow, hz]
theorem run_compact (h : M 136 = some (.ext compactG)) (zs : List Int) (hz : zs.length ≤ 4294967296) :
    run M 136 [.c (.row 0 0 0 zs.length)] [(0, ⟨0, 1, true, false, irow zs⟩)] = some (.c (.row 0 0 0 (Lib.compact zs).length), [(0, ⟨0, 1, true, false, irow (Lib.compact zs ++ List.replicate (zs.length - (Lib.compact zs).length) 0)⟩)]) := by
  refine run_ext h ?_
  simp [compactG, lentInts, rowsInts_irow, hz]
theorem impl_JoinGone.says (h : impl_JoinGone.k M) (a b : List Int) (ha : a.length ≤ 1048576) (hb : b.length ≤ 1048576) : run M 44 [.c (ints a), .c (ints b)] [] = some (.c (.sl true 1 (irow (joinGone a b))), []) := by
  obtain ⟨h0, k1, k2, k3⟩ := h
  have h1 := impl_copyInts.says k1 a ha
  have hab : (a ++ b).length ≤ 4294967296 := by simp; omega
  have h2 := run_sort k2 (a ++ b) hab
  have hsl : (sortI (a ++ b)).length = (a ++ b).length := by simp [sortI]
  have h3 := run_compact k3 (sortI (a ++ b)) (by rw [hsl]; exact hab)
  rw [joinGone_sort] at h3
  have hjl : (joinGone a b).length ≤ (a ++ b).length := by
    have := gfold_len (a ++ b) []; simp only [joinGone]; simpa using this
  refine run_code (b := impl_JoinGone.m) h0 ⟨0, ?_⟩
  rw [hsl] at h3
  have e1 : irow (a ++ b) = irow a ++ irow b := by simp [irow]
  have e2 : irow (joinGone a b ++ List.replicate ((a ++ b).length - (joinGone a b).length) 0) = irow (joinGone a b) ++ irow (List.replicate ((a ++ b).length - (joinGone a b).length) 0) := by simp [irow]
  rw [e1] at h2
  rw [e2] at h3
  simp only [List.length_append] at h2 h3 hab hjl
  have l1 := irow_length a
  have l2 := irow_length b
  have l3 := irow_length (joinGone a b)
  have l4 : (irow (List.replicate (a.length + b.length - (joinGone a b).length) 0)).length = a.length + b.length - (joinGone a b).length := by simp [irow]
  have s1 := irow_scalar (sortI (a ++ b))
  have s2 := irow_scalar (joinGone a b)
  have l5 := irow_length (sortI (a ++ b))
  rw [hsl] at l5
  simp only [List.length_append] at l5
  simp only [ints] at h1 ⊢
  generalize irow (List.replicate (a.length + b.length - (joinGone a b).length) 0) = rz at *
  generalize irow (sortI (a ++ b)) = rs at *
  generalize joinGone a b = j at *
  generalize irow j = rj at *
  have e5 : a.length ≤ 4294967296 := by omega
  have e6 : j.length ≤ rj.length + rz.length := by omega
  generalize irow a = ra at *
  generalize irow b = rb at *
  simp (maxSteps := 1000000) [exB, impl_JoinGone.m, impl_JoinGone.b, List.range_succ, bs_get, setAt, h1, h2, h3, hab, l1, l2, l3, l4, l5, e5, List.take_of_length_le]
end Mx

namespace Mx
open Go
def slices_IndexFunc_impl_Box_impl_Box.l0 : C := .seq (.reg [⟨some 9, .bin .lss (.t 8) (.t 7), none⟩] [0, 1, 7, 8, 9] [])
  (.seq (.cond (.t 9) (.skip) (.exit 0))
  (.seq (.block 1 (.seq (.reg [⟨some 10, .mv (.t 8), none⟩,
    ⟨some 5, .mv (.t 10), none⟩] [0, 1, 5, 7, 8] [])
  (.seq (.reg [⟨some 11, .mv (.t 1), none⟩,
    ⟨some 12, .mv (.t 0), none⟩,
    ⟨some 13, .mv (.t 5), none⟩,
    ⟨some 14, .iaddr 7 (.t 12) (.t 13), none⟩,
    ⟨some 15, .load true 7 (.t 14), none⟩,
    ⟨some 16, .callv (.t 11) [.t 15], none⟩] [0, 1, 5, 7, 8, 16] [])
  (.cond (.t 16) (.seq (.reg [⟨some 17, .mv (.t 5), none⟩,
    ⟨some 4, .mv (.t 17), none⟩] [4] [])
  (.ret)) (.skip)))))
  (.reg [⟨some 18, .bin .add (.t 8) (.k (.int .i64 1)), none⟩,
    ⟨some 8, .mv (.t 18), none⟩] [0, 1, 7, 8] [])))
def slices_IndexFunc_impl_Box_impl_Box.b : C := .seq (.reg [⟨some 4, .mv (.k (.int .i64 0)), none⟩] [0, 1] [])
  (.seq (.seq (.reg [⟨some 6, .mv (.t 0), none⟩,
    ⟨some 7, .len (.t 6), none⟩,
    ⟨some 8, .mv (.k (.int .i64 0)), none⟩] [0, 1, 7, 8] [])
  (.block 0 (.loop slices_IndexFunc_impl_Box_impl_Box.l0)))
  (.seq (.reg [⟨some 4, .mv (.k (.int .i64 (-1))), none⟩] [4] [])
  (.ret)))
def slices_IndexFunc_impl_Box_impl_Box.m : Fn := { np := 2, body := slices_IndexFunc_impl_Box_impl_Box.b, res := [.tmp 4] }
def slices_IndexFunc_impl_Box_impl_Box.k (M : Nat → Option Body) : Prop := M 200 = some (.code slices_IndexFunc_impl_Box_impl_Box.m)
def impl_BoxNamed_1.b : C := .seq (.reg [⟨some 2, .box (.t 0), none⟩,
    ⟨some 3, .mv (.k (.bool false)), none⟩] [1, 2] [2])
  (.seq (.reg [⟨some 4, .faddr 1 (.t 2), none⟩,
    ⟨some 5, .load false 1 (.t 4), none⟩,
    ⟨some 6, .load false 1 (.t 1), none⟩,
    ⟨some 7, .bin .eql (.t 5) (.t 6), none⟩,
    ⟨some 3, .mv (.t 7), none⟩] [3] [])
  (.ret))
def impl_BoxNamed_1.m : Fn := { np := 2, body := impl_BoxNamed_1.b, res := [.tmp 3] }
def impl_BoxNamed_1.k (M : Nat → Option Body) : Prop := M 271 = some (.code impl_BoxNamed_1.m)
def impl_BoxNamed.b : C := .seq (.reg [⟨some 2, .box (.t 0), none⟩,
    ⟨some 3, .box (.t 1), none⟩,
    ⟨some 4, .mv (.k (.int .i64 0)), none⟩] [2, 3] [2, 3])
  (.seq (.reg [⟨some 5, .faddr 2 (.t 2), none⟩,
    ⟨some 6, .load false 1 (.t 5), none⟩,
    ⟨some 7, .mkfn 271 [.t 3], none⟩,
    ⟨some 8, .call 200 [.t 6, .t 7] [] [], none⟩,
    ⟨some 4, .mv (.t 8), none⟩] [4] [])
  (.ret))
def impl_BoxNamed.m : Fn := { np := 2, body := impl_BoxNamed.b, res := [.tmp 4] }
def impl_BoxNamed.k (M : Nat → Option Body) : Prop := M 228 = some (.code impl_BoxNamed.m) ∧ slices_IndexFunc_impl_Box_impl_Box.k M ∧ impl_BoxNamed_1.k M
def impl_isLate.l1 : C := .seq (.reg [⟨some 20, .bin .lss (.t 19) (.t 18), none⟩] [1, 2, 10, 11, 12, 17, 18, 19, 20] [2])
  (.seq (.cond (.t 20) (.skip) (.exit 2))
  (.seq (.block 3 (.seq (.reg [⟨some 21, .iaddr 3 (.t 17) (.t 19), none⟩,
    ⟨some 22, .load true 3 (.t 21), none⟩,
    ⟨some 8, .alloc [.int .i64 0, .int .i64 0, .int .i64 0], none⟩,
    ⟨none, .store 3 (.t 8) (.t 22), none⟩] [1, 2, 8, 10, 11, 12, 17, 18, 19] [2, 8])
  (.seq (.reg [⟨some 23, .faddr 1 (.t 8), none⟩,
    ⟨some 24, .faddr 0 (.t 23), none⟩,
    ⟨some 25, .load false 1 (.t 24), none⟩,
    ⟨some 26, .mv (.t 1), none⟩,
    ⟨some 27, .bin .gtr (.t 25) (.t 26), none⟩] [1, 2, 10, 11, 12, 17, 18, 19, 27] [2])
  (.cond (.t 27) (.seq (.reg [⟨some 4, .mv (.k (.bool true)), none⟩] [4] [])
  (.ret)) (.skip)))))
  (.reg [⟨some 28, .bin .add (.t 19) (.k (.int .i64 1)), none⟩,
    ⟨some 19, .mv (.t 28), none⟩] [1, 2, 10, 11, 12, 17, 18, 19] [2])))
def impl_isLate.l0 : C := .seq (.reg [⟨some 13, .bin .lss (.t 12) (.t 11), none⟩] [1, 2, 10, 11, 12, 13] [2])
  (.seq (.cond (.t 13) (.skip) (.exit 0))
  (.seq (.block 1 (.seq (.reg [⟨some 14, .iaddr 4 (.t 10) (.t 12), none⟩,
    ⟨some 15, .load true 4 (.t 14), none⟩,
    ⟨some 6, .alloc [.int .i64 0, .int .i64 0, .nils 3, .str ⟨#[]⟩], none⟩,
    ⟨none, .store 4 (.t 6) (.t 15), none⟩] [1, 2, 6, 10, 11, 12] [2, 6])
  (.seq (.reg [⟨some 16, .faddr 2 (.t 6), none⟩,
    ⟨some 17, .load false 1 (.t 16), none⟩,
    ⟨some 18, .len (.t 17), none⟩,
    ⟨some 19, .mv (.k (.int .i64 0)), none⟩] [1, 2, 10, 11, 12, 17, 18, 19] [2])
  (.block 2 (.loop impl_isLate.l1)))))
  (.reg [⟨some 29, .bin .add (.t 12) (.k (.int .i64 1)), none⟩,
    ⟨some 12, .mv (.t 29), none⟩] [1, 2, 10, 11, 12] [2])))
def impl_isLate.b : C := .seq (.reg [⟨some 2, .box (.t 0), none⟩,
    ⟨some 4, .mv (.k (.bool false)), none⟩] [1, 2] [2])
  (.seq (.seq (.reg [⟨some 9, .faddr 5 (.t 2), none⟩,
    ⟨some 10, .load false 1 (.t 9), none⟩,
    ⟨some 11, .len (.t 10), none⟩,
    ⟨some 12, .mv (.k (.int .i64 0)), none⟩] [1, 2, 10, 11, 12] [2])
  (.block 0 (.loop impl_isLate.l0)))
  (.seq (.reg [⟨some 30, .faddr 2 (.t 2), none⟩,
    ⟨some 31, .faddr 0 (.t 30), none⟩,
    ⟨some 32, .load false 1 (.t 31), none⟩,
    ⟨some 33, .mv (.t 1), none⟩,
    ⟨some 34, .bin .gtr (.t 32) (.t 33), none⟩,
    ⟨some 4, .mv (.t 34), none⟩] [4] [])
  (.ret)))
def impl_isLate.m : Fn := { np := 2, body := impl_isLate.b, res := [.tmp 4] }
def impl_isLate.k (M : Nat → Option Body) : Prop := M 229 = some (.code impl_isLate.m)
def impl_StoreOk.l1 : C := .seq (.reg [⟨some 83, .bin .lss (.t 82) (.t 81), none⟩] [1, 3, 32, 33, 34, 80, 81, 82, 83] [1, 30, 94])
  (.seq (.cond (.t 83) (.skip) (.exit 2))
  (.seq (.block 3 (.seq (.reg [⟨some 84, .iaddr 4 (.t 80) (.t 82), none⟩,
    ⟨some 85, .load true 4 (.t 84), none⟩,
    ⟨some 7, .alloc [.int .i64 0, .int .i64 0, .nils 3, .str ⟨#[]⟩], none⟩,
    ⟨none, .store 4 (.t 7) (.t 85), none⟩] [1, 3, 7, 32, 33, 34, 80, 81, 82] [1, 7, 30, 94])
  (.seq (.seq (.reg [⟨some 86, .mv (.t 3), none⟩,
    ⟨some 87, .faddr 0 (.t 7), none⟩,
    ⟨some 88, .load false 1 (.t 87), none⟩,
    ⟨some 89, .call 156 [.t 86, .t 88] [] [], none⟩] [1, 3, 7, 32, 33, 34, 80, 81, 82, 89] [1, 7, 30, 94])
  (.cond (.t 89) (.seq (.reg [⟨some 2, .mv (.k (.bool false)), none⟩] [2] [])
  (.ret)) (.skip)))
  (.reg [⟨some 90, .mv (.t 3), none⟩,
    ⟨some 91, .faddr 0 (.t 7), none⟩,
    ⟨some 92, .load false 1 (.t 91), none⟩,
    ⟨some 93, .bslice 1 1 [.int .i64 0] [(0, .t 92)], none⟩,
    ⟨some 94, .app 1 8 (.t 90) (.t 93), none⟩,
    ⟨some 3, .mv (.t 94), none⟩] [1, 3, 32, 33, 34, 80, 81, 82] [1, 30, 94]))))
  (.reg [⟨some 95, .bin .add (.t 82) (.k (.int .i64 1)), none⟩,
    ⟨some 82, .mv (.t 95), none⟩] [1, 3, 32, 33, 34, 80, 81, 82] [1, 30, 94])))
def impl_StoreOk.l0 : C := .seq (.reg [⟨some 35, .bin .lss (.t 34) (.t 33), none⟩] [1, 3, 32, 33, 34, 35] [1, 30, 94])
  (.seq (.cond (.t 35) (.skip) (.exit 0))
  (.seq (.block 1 (.seq (.reg [⟨some 36, .mv (.t 34), none⟩,
    ⟨some 37, .iaddr 7 (.t 32) (.t 34), none⟩,
    ⟨some 38, .load true 7 (.t 37), none⟩,
    ⟨some 5, .alloc [.int .i64 0, .str ⟨#[]⟩, .int .i64 0, .int .i64 0, .int .i64 0, .nils 4, .nils 1], none⟩,
    ⟨some 4, .mv (.t 36), none⟩,
    ⟨none, .store 7 (.t 5) (.t 38), none⟩] [1, 3, 4, 5, 32, 33, 34] [1, 5, 30, 94])
  (.seq (.seq (.regd [⟨some 39, .load true 7 (.t 5), none⟩,
    ⟨some 40, .call 74 [.t 39] [] [], none⟩,
    ⟨some 41, .not (.t 40), none⟩,
    ⟨some 42, .mv (.t 41), none⟩,
    ⟨some 43, .mv (.t 4), some (42, false)⟩,
    ⟨some 44, .bin .gtr (.t 43) (.k (.int .i64 0)), some (42, false)⟩,
    ⟨some 45, .mv (.t 44), some (42, false)⟩,
    ⟨some 46, .faddr 2 (.t 1), some (45, true)⟩,
    ⟨some 47, .load false 1 (.t 46), some (45, true)⟩,
    ⟨some 48, .mv (.t 4), some (45, true)⟩,
    ⟨some 49, .bin .sub (.t 48) (.k (.int .i64 1)), some (45, true)⟩,
    ⟨some 50, .iaddr 7 (.t 47) (.t 49), some (45, true)⟩,
    ⟨some 51, .faddr 0 (.t 50), some (45, true)⟩,
    ⟨some 52, .load false 1 (.t 51), some (45, true)⟩,
    ⟨some 53, .faddr 0 (.t 5), some (45, true)⟩,
    ⟨some 54, .load false 1 (.t 53), some (45, true)⟩,
    ⟨some 55, .bin .geq (.t 52) (.t 54), some (45, true)⟩,
    ⟨some 56, .pick (.t 45) (.t 55) (.k (.bool false)), some (42, false)⟩,
    ⟨some 57, .pick (.t 42) (.k (.bool true)) (.t 56), none⟩,
    ⟨some 58, .mv (.t 57), none⟩,
    ⟨some 59, .load true 4 (.t 1), some (58, false)⟩,
    ⟨some 60, .faddr 1 (.t 5), some (58, false)⟩,
    ⟨some 61, .load false 1 (.t 60), some (58, false)⟩,
    ⟨some 62, .call 228 [.t 59, .t 61] [] [], some (58, false)⟩,
    ⟨some 63, .mv (.t 4), some (58, false)⟩,
    ⟨some 64, .bin .neq (.t 62) (.t 63), some (58, false)⟩,
    ⟨some 65, .pick (.t 58) (.k (.bool true)) (.t 64), none⟩,
    ⟨some 66, .mv (.t 65), none⟩,
    ⟨some 67, .faddr 3 (.t 1), some (66, false)⟩,
    ⟨some 68, .load false 1 (.t 67), some (66, false)⟩,
    ⟨some 69, .faddr 0 (.t 5), some (66, false)⟩,
    ⟨some 70, .load false 1 (.t 69), some (66, false)⟩,
    ⟨some 71, .call 156 [.t 68, .t 70] [] [], some (66, false)⟩,
    ⟨some 72, .pick (.t 66) (.k (.bool true)) (.t 71), none⟩,
    ⟨some 73, .mv (.t 72), none⟩,
    ⟨some 74, .load true 7 (.t 5), some (73, false)⟩,
    ⟨some 75, .faddr 1 (.t 1), some (73, false)⟩,
    ⟨some 76, .load false 1 (.t 75), some (73, false)⟩,
    ⟨some 77, .call 229 [.t 74, .t 76] [] [], some (73, false)⟩,
    ⟨some 78, .pick (.t 73) (.k (.bool true)) (.t 77), none⟩] [[], [0], [0, 1], [0, 1, 2], List.range 4, List.range 5, List.range 6, List.range 7, List.range 8, List.range 7, List.range 7 ++ [9], List.range 11, List.range 12, List.range 13, List.range 7, List.range 7 ++ [14], List.range 16, List.range 17, List.range 18, List.range 19, List.range 20, List.range 20, List.range 20 ++ [21], List.range 23, List.range 20, List.range 25, List.range 26, List.range 27, List.range 28, List.range 29, List.range 28, List.range 28 ++ [30], List.range 32, List.range 33, List.range 34, List.range 35, List.range 35, List.range 35 ++ [36], List.range 38, List.range 39] [1, 3, 5, 32, 33, 34, 78] [1, 5, 30, 94])
  (.cond (.t 78) (.seq (.reg [⟨some 2, .mv (.k (.bool false)), none⟩] [2] [])
  (.ret)) (.skip)))
  (.seq (.reg [⟨some 79, .faddr 5 (.t 5), none⟩,
    ⟨some 80, .load false 1 (.t 79), none⟩,
    ⟨some 81, .len (.t 80), none⟩,
    ⟨some 82, .mv (.k (.int .i64 0)), none⟩] [1, 3, 32, 33, 34, 80, 81, 82] [1, 30, 94])
  (.block 2 (.loop impl_StoreOk.l1))))))
  (.reg [⟨some 96, .bin .add (.t 34) (.k (.int .i64 1)), none⟩,
    ⟨some 34, .mv (.t 96), none⟩] [1, 3, 32, 33, 34] [1, 30, 94])))
def impl_StoreOk.b : C := .seq (.reg [⟨some 1, .box (.t 0), none⟩,
    ⟨some 2, .mv (.k (.bool false)), none⟩] [1] [1])
  (.seq (.seq (.reg [⟨some 8, .faddr 0 (.t 1), none⟩,
    ⟨some 9, .load false 1 (.t 8), none⟩,
    ⟨some 10, .call 101 [.t 9, .k (.int .i64 1), .k (.int .i64 2)] [] [], none⟩,
    ⟨some 11, .not (.t 10), none⟩,
    ⟨some 12, .mv (.t 11), none⟩,
    ⟨some 13, .faddr 1 (.t 1), some (12, false)⟩,
    ⟨some 14, .load false 1 (.t 13), some (12, false)⟩,
    ⟨some 15, .call 101 [.t 14, .k (.int .i64 0), .k (.int .i64 100000)] [] [], some (12, false)⟩,
    ⟨some 16, .not (.t 15), some (12, false)⟩,
    ⟨some 17, .pick (.t 12) (.k (.bool true)) (.t 16), none⟩,
    ⟨some 18, .mv (.t 17), none⟩,
    ⟨some 19, .faddr 2 (.t 1), some (18, false)⟩,
    ⟨some 20, .load false 1 (.t 19), some (18, false)⟩,
    ⟨some 21, .len (.t 20), some (18, false)⟩,
    ⟨some 22, .bin .gtr (.t 21) (.k (.int .i64 5)), some (18, false)⟩,
    ⟨some 23, .pick (.t 18) (.k (.bool true)) (.t 22), none⟩,
    ⟨some 24, .mv (.t 23), none⟩,
    ⟨some 25, .faddr 3 (.t 1), some (24, false)⟩,
    ⟨some 26, .load false 1 (.t 25), some (24, false)⟩,
    ⟨some 27, .call 165 [.t 26, .k (.int .i64 20)] [] [], some (24, false)⟩,
    ⟨some 28, .not (.t 27), some (24, false)⟩,
    ⟨some 29, .pick (.t 24) (.k (.bool true)) (.t 28), none⟩] [1, 29] [1])
  (.cond (.t 29) (.seq (.reg [⟨some 2, .mv (.k (.bool false)), none⟩] [2] [])
  (.ret)) (.skip)))
  (.seq (.reg [⟨some 30, .bslice 1 0 [.int .i64 0] [], none⟩,
    ⟨some 3, .mv (.t 30), none⟩] [1, 3] [1, 30, 94])
  (.seq (.seq (.reg [⟨some 31, .faddr 2 (.t 1), none⟩,
    ⟨some 32, .load false 1 (.t 31), none⟩,
    ⟨some 33, .len (.t 32), none⟩,
    ⟨some 34, .mv (.k (.int .i64 0)), none⟩] [1, 3, 32, 33, 34] [1, 30, 94])
  (.block 0 (.loop impl_StoreOk.l0)))
  (.seq (.reg [⟨some 2, .mv (.k (.bool true)), none⟩] [2] [])
  (.ret)))))
def impl_StoreOk.m : Fn := { np := 1, body := impl_StoreOk.b, res := [.tmp 2] }
def impl_StoreOk.k (M : Nat → Option Body) : Prop := M 150 = some (.code impl_StoreOk.m) ∧ impl_BoxOk.k M ∧ impl_within.k M ∧ slices_Contains_int_int.k M ∧ impl_areGids.k M ∧ impl_BoxNamed.k M ∧ impl_isLate.k M
def spec_BoxNamed.l0 : C := .seq (.seq (.reg [⟨some 6, .mv (.t 5), none⟩,
    ⟨some 7, .faddr 2 (.t 2), none⟩,
    ⟨some 8, .load false 1 (.t 7), none⟩,
    ⟨some 9, .len (.t 8), none⟩,
    ⟨some 10, .bin .lss (.t 6) (.t 9), none⟩] [1, 2, 5, 10] [2])
  (.cond (.t 10) (.skip) (.exit 0)))
  (.seq (.block 1 (.seq (.reg [⟨some 13, .faddr 2 (.t 2), none⟩,
    ⟨some 14, .load false 1 (.t 13), none⟩,
    ⟨some 15, .mv (.t 5), none⟩,
    ⟨some 16, .iaddr 7 (.t 14) (.t 15), none⟩,
    ⟨some 17, .faddr 1 (.t 16), none⟩,
    ⟨some 18, .load false 1 (.t 17), none⟩,
    ⟨some 19, .mv (.t 1), none⟩,
    ⟨some 20, .bin .eql (.t 18) (.t 19), none⟩] [1, 2, 5, 20] [2])
  (.cond (.t 20) (.seq (.reg [⟨some 21, .mv (.t 5), none⟩,
    ⟨some 4, .mv (.t 21), none⟩] [4] [])
  (.ret)) (.skip))))
  (.reg [⟨some 11, .mv (.t 5), none⟩,
    ⟨some 12, .bin .add (.t 11) (.k (.int .i64 1)), none⟩,
    ⟨some 5, .mv (.t 12), none⟩] [1, 2, 5] [2]))
def spec_BoxNamed.b : C := .seq (.reg [⟨some 2, .box (.t 0), none⟩,
    ⟨some 4, .mv (.k (.int .i64 0)), none⟩] [1, 2] [2])
  (.seq (.seq (.reg [⟨some 5, .mv (.k (.int .i64 0)), none⟩] [1, 2, 5] [2])
  (.block 0 (.loop spec_BoxNamed.l0)))
  (.seq (.reg [⟨some 4, .mv (.k (.int .i64 (-1))), none⟩] [4] [])
  (.ret)))
def spec_BoxNamed.m : Fn := { np := 2, body := spec_BoxNamed.b, res := [.tmp 4] }
def spec_BoxNamed.k (M : Nat → Option Body) : Prop := M 226 = some (.code spec_BoxNamed.m)
def spec_l07Times.l1 : C := .seq (.seq (.reg [⟨some 19, .mv (.t 6), none⟩,
    ⟨some 20, .faddr 5 (.t 2), none⟩,
    ⟨some 21, .load false 1 (.t 20), none⟩,
    ⟨some 22, .mv (.t 5), none⟩,
    ⟨some 23, .iaddr 4 (.t 21) (.t 22), none⟩,
    ⟨some 24, .faddr 2 (.t 23), none⟩,
    ⟨some 25, .load false 1 (.t 24), none⟩,
    ⟨some 26, .len (.t 25), none⟩,
    ⟨some 27, .bin .lss (.t 19) (.t 26), none⟩] [1, 2, 5, 6, 27] [2])
  (.cond (.t 27) (.skip) (.exit 2)))
  (.seq (.block 3 (.seq (.reg [⟨some 30, .faddr 5 (.t 2), none⟩,
    ⟨some 31, .load false 1 (.t 30), none⟩,
    ⟨some 32, .mv (.t 5), none⟩,
    ⟨some 33, .iaddr 4 (.t 31) (.t 32), none⟩,
    ⟨some 34, .faddr 2 (.t 33), none⟩,
    ⟨some 35, .load false 1 (.t 34), none⟩,
    ⟨some 36, .mv (.t 6), none⟩,
    ⟨some 37, .iaddr 3 (.t 35) (.t 36), none⟩,
    ⟨some 38, .faddr 1 (.t 37), none⟩,
    ⟨some 39, .faddr 0 (.t 38), none⟩,
    ⟨some 40, .load false 1 (.t 39), none⟩,
    ⟨some 41, .mv (.t 1), none⟩,
    ⟨some 42, .bin .gtr (.t 40) (.t 41), none⟩] [1, 2, 5, 6, 42] [2])
  (.cond (.t 42) (.seq (.reg [⟨some 4, .mv (.k (.bool false)), none⟩] [4] [])
  (.ret)) (.skip))))
  (.reg [⟨some 28, .mv (.t 6), none⟩,
    ⟨some 29, .bin .add (.t 28) (.k (.int .i64 1)), none⟩,
    ⟨some 6, .mv (.t 29), none⟩] [1, 2, 5, 6] [2]))
def spec_l07Times.l0 : C := .seq (.seq (.reg [⟨some 12, .mv (.t 5), none⟩,
    ⟨some 13, .faddr 5 (.t 2), none⟩,
    ⟨some 14, .load false 1 (.t 13), none⟩,
    ⟨some 15, .len (.t 14), none⟩,
    ⟨some 16, .bin .lss (.t 12) (.t 15), none⟩] [1, 2, 5, 16] [2])
  (.cond (.t 16) (.skip) (.exit 0)))
  (.seq (.block 1 (.seq (.reg [⟨some 6, .mv (.k (.int .i64 0)), none⟩] [1, 2, 5, 6] [2])
  (.block 2 (.loop spec_l07Times.l1))))
  (.reg [⟨some 17, .mv (.t 5), none⟩,
    ⟨some 18, .bin .add (.t 17) (.k (.int .i64 1)), none⟩,
    ⟨some 5, .mv (.t 18), none⟩] [1, 2, 5] [2]))
def spec_l07Times.b : C := .seq (.reg [⟨some 2, .box (.t 0), none⟩,
    ⟨some 4, .mv (.k (.bool false)), none⟩] [1, 2] [2])
  (.seq (.seq (.reg [⟨some 7, .faddr 2 (.t 2), none⟩,
    ⟨some 8, .faddr 0 (.t 7), none⟩,
    ⟨some 9, .load false 1 (.t 8), none⟩,
    ⟨some 10, .mv (.t 1), none⟩,
    ⟨some 11, .bin .gtr (.t 9) (.t 10), none⟩] [1, 2, 11] [2])
  (.cond (.t 11) (.seq (.reg [⟨some 4, .mv (.k (.bool false)), none⟩] [4] [])
  (.ret)) (.skip)))
  (.seq (.seq (.reg [⟨some 5, .mv (.k (.int .i64 0)), none⟩] [1, 2, 5] [2])
  (.block 0 (.loop spec_l07Times.l0)))
  (.seq (.reg [⟨some 4, .mv (.k (.bool true)), none⟩] [4] [])
  (.ret))))
def spec_l07Times.m : Fn := { np := 2, body := spec_l07Times.b, res := [.tmp 4] }
def spec_l07Times.k (M : Nat → Option Body) : Prop := M 227 = some (.code spec_l07Times.m)
def spec_StoreOk.l1 : C := .seq (.seq (.reg [⟨some 83, .mv (.t 6), none⟩,
    ⟨some 84, .faddr 5 (.t 5), none⟩,
    ⟨some 85, .load false 1 (.t 84), none⟩,
    ⟨some 86, .len (.t 85), none⟩,
    ⟨some 87, .bin .lss (.t 83) (.t 86), none⟩] [1, 3, 4, 5, 6, 87] [1, 5, 29, 106])
  (.cond (.t 87) (.skip) (.exit 2)))
  (.seq (.block 3 (.seq (.seq (.reg [⟨some 90, .mv (.t 3), none⟩,
    ⟨some 91, .faddr 5 (.t 5), none⟩,
    ⟨some 92, .load false 1 (.t 91), none⟩,
    ⟨some 93, .mv (.t 6), none⟩,
    ⟨some 94, .iaddr 4 (.t 92) (.t 93), none⟩,
    ⟨some 95, .faddr 0 (.t 94), none⟩,
    ⟨some 96, .load false 1 (.t 95), none⟩,
    ⟨some 97, .call 132 [.t 90, .t 96] [] [], none⟩] [1, 3, 4, 5, 6, 97] [1, 5, 29, 106])
  (.cond (.t 97) (.seq (.reg [⟨some 2, .mv (.k (.bool false)), none⟩] [2] [])
  (.ret)) (.skip)))
  (.reg [⟨some 98, .mv (.t 3), none⟩,
    ⟨some 99, .faddr 5 (.t 5), none⟩,
    ⟨some 100, .load false 1 (.t 99), none⟩,
    ⟨some 101, .mv (.t 6), none⟩,
    ⟨some 102, .iaddr 4 (.t 100) (.t 101), none⟩,
    ⟨some 103, .faddr 0 (.t 102), none⟩,
    ⟨some 104, .load false 1 (.t 103), none⟩,
    ⟨some 105, .bslice 1 1 [.int .i64 0] [(0, .t 104)], none⟩,
    ⟨some 106, .app 1 8 (.t 98) (.t 105), none⟩,
    ⟨some 3, .mv (.t 106), none⟩] [1, 3, 4, 5, 6] [1, 5, 29, 106])))
  (.reg [⟨some 88, .mv (.t 6), none⟩,
    ⟨some 89, .bin .add (.t 88) (.k (.int .i64 1)), none⟩,
    ⟨some 6, .mv (.t 89), none⟩] [1, 3, 4, 5, 6] [1, 5, 29, 106]))
def spec_StoreOk.l0 : C := .seq (.seq (.reg [⟨some 30, .mv (.t 4), none⟩,
    ⟨some 31, .faddr 2 (.t 1), none⟩,
    ⟨some 32, .load false 1 (.t 31), none⟩,
    ⟨some 33, .len (.t 32), none⟩,
    ⟨some 34, .bin .lss (.t 30) (.t 33), none⟩] [1, 3, 4, 34] [1, 29, 106])
  (.cond (.t 34) (.skip) (.exit 0)))
  (.seq (.block 1 (.seq (.reg [⟨some 37, .faddr 2 (.t 1), none⟩,
    ⟨some 38, .load false 1 (.t 37), none⟩,
    ⟨some 39, .mv (.t 4), none⟩,
    ⟨some 40, .iaddr 7 (.t 38) (.t 39), none⟩,
    ⟨some 41, .load true 7 (.t 40), none⟩,
    ⟨some 5, .alloc [.int .i64 0, .str ⟨#[]⟩, .int .i64 0, .int .i64 0, .int .i64 0, .nils 4, .nils 1], none⟩,
    ⟨none, .store 7 (.t 5) (.t 41), none⟩] [1, 3, 4, 5] [1, 5, 29, 106])
  (.seq (.seq (.regd [⟨some 42, .load true 7 (.t 5), none⟩,
    ⟨some 43, .call 88 [.t 42] [] [], none⟩,
    ⟨some 44, .not (.t 43), none⟩,
    ⟨some 45, .mv (.t 44), none⟩,
    ⟨some 46, .mv (.t 4), some (45, false)⟩,
    ⟨some 47, .bin .gtr (.t 46) (.k (.int .i64 0)), some (45, false)⟩,
    ⟨some 48, .mv (.t 47), some (45, false)⟩,
    ⟨some 49, .faddr 2 (.t 1), some (48, true)⟩,
    ⟨some 50, .load false 1 (.t 49), some (48, true)⟩,
    ⟨some 51, .mv (.t 4), some (48, true)⟩,
    ⟨some 52, .bin .sub (.t 51) (.k (.int .i64 1)), some (48, true)⟩,
    ⟨some 53, .iaddr 7 (.t 50) (.t 52), some (48, true)⟩,
    ⟨some 54, .faddr 0 (.t 53), some (48, true)⟩,
    ⟨some 55, .load false 1 (.t 54), some (48, true)⟩,
    ⟨some 56, .faddr 0 (.t 5), some (48, true)⟩,
    ⟨some 57, .load false 1 (.t 56), some (48, true)⟩,
    ⟨some 58, .bin .geq (.t 55) (.t 57), some (48, true)⟩,
    ⟨some 59, .pick (.t 48) (.t 58) (.k (.bool false)), some (45, false)⟩,
    ⟨some 60, .pick (.t 45) (.k (.bool true)) (.t 59), none⟩,
    ⟨some 61, .mv (.t 60), none⟩,
    ⟨some 62, .load true 4 (.t 1), some (61, false)⟩,
    ⟨some 63, .faddr 1 (.t 5), some (61, false)⟩,
    ⟨some 64, .load false 1 (.t 63), some (61, false)⟩,
    ⟨some 65, .call 226 [.t 62, .t 64] [] [], some (61, false)⟩,
    ⟨some 66, .mv (.t 4), some (61, false)⟩,
    ⟨some 67, .bin .neq (.t 65) (.t 66), some (61, false)⟩,
    ⟨some 68, .pick (.t 61) (.k (.bool true)) (.t 67), none⟩,
    ⟨some 69, .mv (.t 68), none⟩,
    ⟨some 70, .faddr 3 (.t 1), some (69, false)⟩,
    ⟨some 71, .load false 1 (.t 70), some (69, false)⟩,
    ⟨some 72, .faddr 0 (.t 5), some (69, false)⟩,
    ⟨some 73, .load false 1 (.t 72), some (69, false)⟩,
    ⟨some 74, .call 132 [.t 71, .t 73] [] [], some (69, false)⟩,
    ⟨some 75, .pick (.t 69) (.k (.bool true)) (.t 74), none⟩,
    ⟨some 76, .mv (.t 75), none⟩,
    ⟨some 77, .load true 7 (.t 5), some (76, false)⟩,
    ⟨some 78, .faddr 1 (.t 1), some (76, false)⟩,
    ⟨some 79, .load false 1 (.t 78), some (76, false)⟩,
    ⟨some 80, .call 227 [.t 77, .t 79] [] [], some (76, false)⟩,
    ⟨some 81, .not (.t 80), some (76, false)⟩,
    ⟨some 82, .pick (.t 76) (.k (.bool true)) (.t 81), none⟩] [[], [0], [0, 1], [0, 1, 2], List.range 4, List.range 5, List.range 6, List.range 7, List.range 8, List.range 7, List.range 7 ++ [9], List.range 11, List.range 12, List.range 13, List.range 7, List.range 7 ++ [14], List.range 16, List.range 17, List.range 18, List.range 19, List.range 20, List.range 20, List.range 20 ++ [21], List.range 23, List.range 20, List.range 25, List.range 26, List.range 27, List.range 28, List.range 29, List.range 28, List.range 28 ++ [30], List.range 32, List.range 33, List.range 34, List.range 35, List.range 35, List.range 35 ++ [36], List.range 38, List.range 39, List.range 40] [1, 3, 4, 5, 82] [1, 5, 29, 106])
  (.cond (.t 82) (.seq (.reg [⟨some 2, .mv (.k (.bool false)), none⟩] [2] [])
  (.ret)) (.skip)))
  (.seq (.reg [⟨some 6, .mv (.k (.int .i64 0)), none⟩] [1, 3, 4, 5, 6] [1, 5, 29, 106])
  (.block 2 (.loop spec_StoreOk.l1))))))
  (.reg [⟨some 35, .mv (.t 4), none⟩,
    ⟨some 36, .bin .add (.t 35) (.k (.int .i64 1)), none⟩,
    ⟨some 4, .mv (.t 36), none⟩] [1, 3, 4] [1, 29, 106]))
def spec_StoreOk.b : C := .seq (.reg [⟨some 1, .box (.t 0), none⟩,
    ⟨some 2, .mv (.k (.bool false)), none⟩] [1] [1])
  (.seq (.seq (.reg [⟨some 7, .faddr 0 (.t 1), none⟩,
    ⟨some 8, .load false 1 (.t 7), none⟩,
    ⟨some 9, .call 98 [.t 8, .k (.int .i64 1), .k (.int .i64 2)] [] [], none⟩,
    ⟨some 10, .not (.t 9), none⟩,
    ⟨some 11, .mv (.t 10), none⟩,
    ⟨some 12, .faddr 1 (.t 1), some (11, false)⟩,
    ⟨some 13, .load false 1 (.t 12), some (11, false)⟩,
    ⟨some 14, .call 98 [.t 13, .k (.int .i64 0), .k (.int .i64 100000)] [] [], some (11, false)⟩,
    ⟨some 15, .not (.t 14), some (11, false)⟩,
    ⟨some 16, .pick (.t 11) (.k (.bool true)) (.t 15), none⟩,
    ⟨some 17, .mv (.t 16), none⟩,
    ⟨some 18, .faddr 2 (.t 1), some (17, false)⟩,
    ⟨some 19, .load false 1 (.t 18), some (17, false)⟩,
    ⟨some 20, .len (.t 19), some (17, false)⟩,
    ⟨some 21, .bin .gtr (.t 20) (.k (.int .i64 5)), some (17, false)⟩,
    ⟨some 22, .pick (.t 17) (.k (.bool true)) (.t 21), none⟩,
    ⟨some 23, .mv (.t 22), none⟩,
    ⟨some 24, .faddr 3 (.t 1), some (23, false)⟩,
    ⟨some 25, .load false 1 (.t 24), some (23, false)⟩,
    ⟨some 26, .call 186 [.t 25, .k (.int .i64 20)] [] [], some (23, false)⟩,
    ⟨some 27, .not (.t 26), some (23, false)⟩,
    ⟨some 28, .pick (.t 23) (.k (.bool true)) (.t 27), none⟩] [1, 28] [1])
  (.cond (.t 28) (.seq (.reg [⟨some 2, .mv (.k (.bool false)), none⟩] [2] [])
  (.ret)) (.skip)))
  (.seq (.reg [⟨some 29, .bslice 1 0 [.int .i64 0] [], none⟩,
    ⟨some 3, .mv (.t 29), none⟩] [1, 3] [1, 29, 106])
  (.seq (.seq (.reg [⟨some 4, .mv (.k (.int .i64 0)), none⟩] [1, 3, 4] [1, 29, 106])
  (.block 0 (.loop spec_StoreOk.l0)))
  (.seq (.reg [⟨some 2, .mv (.k (.bool true)), none⟩] [2] [])
  (.ret)))))
def spec_StoreOk.m : Fn := { np := 1, body := spec_StoreOk.b, res := [.tmp 2] }
def spec_StoreOk.k (M : Nat → Option Body) : Prop := M 149 = some (.code spec_StoreOk.m) ∧ spec_BoxOk.k M ∧ spec_l01In.k M ∧ spec_l06In.k M ∧ spec_l06Sorted.k M ∧ spec_BoxNamed.k M ∧ spec_l07Times.k M
end Mx

namespace Mx
open Go
variable {M : Nat → Option Body}
def badMail (b : Box) (i : Nat) : Bool := match b.mails[i]? with
  | some m => !mailOk m || decide (b.next ≤ m.uid) || (decide (0 < i) && match b.mails[i - 1]? with | some p => decide (m.uid ≤ p.uid) | none => false) || !decide (intO (mailO b.mails m.gid) = (i : Int)) || decide (m.gid ∈ b.gone)
  | none => false
theorem badMail_at {b : Box} {i : Nat} (h : i < b.mails.length) : badMail b i = (!mailOk b.mails[i] || decide (b.next ≤ b.mails[i].uid) || (decide (0 < i) && decide (b.mails[i].uid ≤ b.mails[i - 1].uid)) ||
    !decide (intO (mailO b.mails b.mails[i].gid) = (i : Int)) || decide (b.mails[i].gid ∈ b.gone)) := by
  simp [badMail, h, (show i - 1 < b.mails.length by omega)]
def boxOk (b : Box) : Bool := inR 1 b.gid 9999 && nameOk b.name && stampOk b.time b.who && inR 1 b.next 10000 && decide (b.mails.length ≤ 10) && gidsOk b.gone 40 && (firstN (badMail b) b.mails.length).isNone
def ibS (b : Box) (i : Nat) (x : Nat × Nat) : St := { t := [(1, .c (.ptr 1 x.1 0 0)), (40, .c (mails b.mails)), (41, .c (I b.mails.length)), (42, .c (I i))], o := [(1, ⟨x.1, 7, true, true, [encBox b]⟩)], n := x.2 }
def ibSE (b : Box) (x : Nat × Nat) : St := { t := [(1, .c (.ptr 1 x.1 0 0)), (40, .c (mails b.mails)), (41, .c (I b.mails.length)), (42, .c (I b.mails.length)), (43, .c (.bool false))], o := [(1, ⟨x.1, 7, true, true, [encBox b]⟩)], n := x.2 }
theorem impl_BoxOk.good (hat : impl_MailAt.k M) (hin : slices_Contains_int_int.k M) (hmo : impl_MailOk.k M) (b : Box) (hml : b.mails.length ≤ 1048576) (hgl : b.gone.length ≤ 4611686018427387904) (hw : ∀ m ∈ b.mails, m.flags.length ≤ 1048576)
    (i : Nat) (hi : i < b.mails.length) (x : Nat × Nat) (c : badMail b i = false) : ∃ y, exC (run M) (b.mails.length + 1) impl_BoxOk.l0 (ibS b i x) = some (.normal, ibS b (i + 1) y) := by
      obtain ⟨v, x⟩ := x
      simp only [Prod.exists]
      have hm := impl_MailOk.says hmo b.mails[i] (hw _ (List.getElem_mem hi))
      have ha := impl_MailAt.says hat b b.mails[i].gid hml
      have hg := slices_Contains_int_int.says hin b.gone b.mails[i].gid hgl
      simp only [encMail, encBox] at hm ha hg
      rw [badMail_at hi] at c
      simp at c
      obtain ⟨⟨⟨⟨c1, c2⟩, c3⟩, c4⟩, c5⟩ := c
      have e5 : IntKind.i64.wrap ((i : Int) + 1) = (i : Int) + 1 := wrap_i64 (by omega) (by omega)
      rw [c1] at hm
      rw [c4] at ha
      rw [decide_eq_false c5] at hg
      have c2' : ¬ b.next ≤ b.mails[i].uid := by omega
      by_cases c6 : 0 < i
      · have e6 : IntKind.i64.wrap ((i : Int) - 1) = ((i - 1 : Nat) : Int) := by rw [wrap_i64 (by omega) (by omega)]; omega
        have c3' : ¬ b.mails[i].uid ≤ b.mails[i - 1].uid := by have := c3 c6; omega
        simp (maxSteps := 1000000) [impl_BoxOk.l0, List.range_succ, bs_get, setAt, ibS, encMail, hi, hm, ha, hg, c2', c6, c3', e5, e6, (show i - 1 < b.mails.length by omega)]
      · simp (maxSteps := 1000000) [impl_BoxOk.l0, List.range_succ, bs_get, setAt, ibS, encMail, hi, hm, ha, hg, c2', c6, e5]
theorem impl_BoxOk.bad (hat : impl_MailAt.k M) (hin : slices_Contains_int_int.k M) (hmo : impl_MailOk.k M) (b : Box) (hml : b.mails.length ≤ 1048576) (hgl : b.gone.length ≤ 4611686018427387904) (hw : ∀ m ∈ b.mails, m.flags.length ≤ 1048576)
    (i : Nat) (hi : i < b.mails.length) (x : Nat × Nat) (c : badMail b i = true) : ∃ k, exC (run M) (b.mails.length + 1) impl_BoxOk.l0 (ibS b i x) = some (.ret, { t := [(2, .c (.bool false))], o := [], n := k }) := by
      obtain ⟨v, x⟩ := x
      have hm := impl_MailOk.says hmo b.mails[i] (hw _ (List.getElem_mem hi))
      have ha := impl_MailAt.says hat b b.mails[i].gid hml
      have hg := slices_Contains_int_int.says hin b.gone b.mails[i].gid hgl
      simp only [encMail, encBox] at hm ha hg
      rw [badMail_at hi] at c
      cases c1 : mailOk b.mails[i]
      · rw [c1] at hm
        simp (maxSteps := 1000000) [impl_BoxOk.l0, List.range_succ, bs_get, setAt, ibS, encMail, hi, hm]
      rw [c1] at hm
      by_cases c2 : b.next ≤ b.mails[i].uid
      · simp (maxSteps := 1000000) [impl_BoxOk.l0, List.range_succ, bs_get, setAt, ibS, encMail, hi, hm, c2]
      have c2' : ¬ b.next ≤ b.mails[i].uid := c2
      by_cases c6 : 0 < i
      · have e6 : IntKind.i64.wrap ((i : Int) - 1) = ((i - 1 : Nat) : Int) := by rw [wrap_i64 (by omega) (by omega)]; omega
        by_cases c3 : b.mails[i].uid ≤ b.mails[i - 1].uid
        · simp (maxSteps := 1000000) [impl_BoxOk.l0, List.range_succ, bs_get, setAt, ibS, encMail, hi, hm, c2, c6, c3, e6, (show i - 1 < b.mails.length by omega)]
        by_cases c4 : intO (mailO b.mails b.mails[i].gid) = (i : Int)
        rotate_left
        · simp (maxSteps := 1000000) [impl_BoxOk.l0, List.range_succ, bs_get, setAt, ibS, encMail, hi, hm, c2, c6, c3, e6, (show i - 1 < b.mails.length by omega), ha, c4]
        rw [c4] at ha
        by_cases c5 : b.mails[i].gid ∈ b.gone
        rotate_left
        · simp [c1, c2, c3, c4, c5] at c
        rw [decide_eq_true c5] at hg
        simp (maxSteps := 1000000) [impl_BoxOk.l0, List.range_succ, bs_get, setAt, ibS, encMail, hi, hm, c2, c6, c3, e6, (show i - 1 < b.mails.length by omega), ha, hg]
      · have c3 := c6
        by_cases c4 : intO (mailO b.mails b.mails[i].gid) = (i : Int)
        rotate_left
        · simp (maxSteps := 1000000) [impl_BoxOk.l0, List.range_succ, bs_get, setAt, ibS, encMail, hi, hm, c2, c6, ha, c4]
        rw [c4] at ha
        by_cases c5 : b.mails[i].gid ∈ b.gone
        rotate_left
        · simp [c1, c2, c3, c4, c5] at c
        rw [decide_eq_true c5] at hg
        simp (maxSteps := 1000000) [impl_BoxOk.l0, List.range_succ, bs_get, setAt, ibS, encMail, hi, hm, c2, c6, ha, hg]
theorem impl_BoxOk.says (h : impl_BoxOk.k M) (b : Box) (hml : b.mails.length ≤ 1048576) (hgl : b.gone.length ≤ 4611686018427387904) (hnl : b.name.length ≤ 4611686018427387904) (hw : ∀ m ∈ b.mails, m.flags.length ≤ 1048576) :
    run M 74 [.a (encBox b)] [] = some (.c (.bool (boxOk b)), []) := by
  obtain ⟨h0, hat, hno, hwi, hig, hin, hso, hgo, hmo⟩ := h
  have h1 := impl_isGid.says hig b.gid
  have h2 := impl_NameOk.says hno b.name hnl
  have h3 := impl_StampOk.says hso b.time b.who
  have h4 := impl_within.inR hwi b.next 1 10000
  have h5 := impl_areGids.says hgo b.gone 40 hgl
  refine run_code (b := impl_BoxOk.m) h0 ⟨b.mails.length + 1, ?_⟩
  obtain ⟨g, hr⟩ := early_loop (f := exC (run M) (b.mails.length + 1) impl_BoxOk.l0) b.mails.length (badMail b) (ibS b) 2 (.bool false) 0 (ibSE b)
    (fun i hi x c => impl_BoxOk.good hat hin hmo b hml hgl hw i hi x c)
    (fun i hi x c => impl_BoxOk.bad hat hin hmo b hml hgl hw i hi x c)
    (fun x => by
      obtain ⟨v, x⟩ := x
      simp only [Prod.exists]
      simp (maxSteps := 1000000) [impl_BoxOk.l0, List.range_succ, bs_get, setAt, ibS, ibSE])
  cases c1 : inR 1 b.gid 9999
  · simp (maxSteps := 1000000) [exB, impl_BoxOk.m, impl_BoxOk.b, List.range_succ, bs_get, setAt, h1, c1, boxOk]
  cases c2 : nameOk b.name
  · simp (maxSteps := 1000000) [exB, impl_BoxOk.m, impl_BoxOk.b, List.range_succ, bs_get, setAt, h1, h2, c1, c2, boxOk]
  cases c3 : stampOk b.time b.who
  · simp (maxSteps := 1000000) [exB, impl_BoxOk.m, impl_BoxOk.b, List.range_succ, bs_get, setAt, h1, h2, h3, c1, c2, c3, boxOk]
  cases c4 : inR 1 b.next 10000
  · simp (maxSteps := 1000000) [exB, impl_BoxOk.m, impl_BoxOk.b, List.range_succ, bs_get, setAt, h1, h2, h3, h4, c1, c2, c3, c4, boxOk]
  by_cases c5 : 10 < b.mails.length
  · have c5' : ¬ b.mails.length ≤ 10 := by omega
    have ci : (10 : Int) < b.mails.length := by omega
    simp (maxSteps := 1000000) [exB, impl_BoxOk.m, impl_BoxOk.b, List.range_succ, bs_get, setAt, h1, h2, h3, h4, c1, c2, c3, c4, c5, c5', ci, boxOk]
  have c5' : b.mails.length ≤ 10 := by omega
  have ci : ¬ (10 : Int) < b.mails.length := by omega
  cases c6 : gidsOk b.gone 40
  · simp (maxSteps := 1000000) [exB, impl_BoxOk.m, impl_BoxOk.b, List.range_succ, bs_get, setAt, h1, h2, h3, h4, h5, c1, c2, c3, c4, c5, ci, c6, boxOk]
  cases q : firstN (badMail b) b.mails.length with
  | none =>
    simp [ibS, ibSE, q, fin1] at hr
    simp (maxSteps := 1000000) [exB, impl_BoxOk.m, impl_BoxOk.b, List.range_succ, bs_get, setAt, h1, h2, h3, h4, h5, c1, c2, c3, c4, c5, c5', ci, c6, hr, boxOk, q]
  | some k =>
    simp [ibS, q, fin1] at hr
    simp (maxSteps := 1000000) [exB, impl_BoxOk.m, impl_BoxOk.b, List.range_succ, bs_get, setAt, h1, h2, h3, h4, h5, c1, c2, c3, c4, c5, c5', ci, c6, hr, boxOk, q]
def sbxS (b : Box) (i : Nat) (x : Nat × Nat) : St := { t := [(1, .c (.ptr 1 x.1 0 0)), (3, .c (I i))], o := [(1, ⟨x.1, 7, true, true, [encBox b]⟩)], n := x.2 }
def sbxSE (b : Box) (x : Nat × Nat) : St := { t := [(1, .c (.ptr 1 x.1 0 0)), (3, .c (I b.mails.length)), (43, .c (.bool false))], o := [(1, ⟨x.1, 7, true, true, [encBox b]⟩)], n := x.2 }
theorem spec_BoxOk.good (hat : spec_MailAt.k M) (hin : spec_l06In.k M) (hmo : spec_MailOk.k M) (b : Box) (hml : b.mails.length ≤ 1048576) (hgl : b.gone.length ≤ 4611686018427387904) (hw : ∀ m ∈ b.mails, m.flags.length ≤ 1048576)
    (i : Nat) (hi : i < b.mails.length) (x : Nat × Nat) (c : badMail b i = false) : ∃ y, exC (run M) (b.mails.length + 1) spec_BoxOk.l0 (sbxS b i x) = some (.normal, sbxS b (i + 1) y) := by
      obtain ⟨v, x⟩ := x
      simp only [Prod.exists]
      have hm := spec_MailOk.says hmo b.mails[i] (hw _ (List.getElem_mem hi))
      have ha := spec_MailAt.says hat b b.mails[i].gid hml
      have hg := spec_l06In.says hin b.gone b.mails[i].gid hgl
      simp only [encMail, encBox] at hm ha hg
      rw [badMail_at hi] at c
      simp at c
      obtain ⟨⟨⟨⟨c1, c2⟩, c3⟩, c4⟩, c5⟩ := c
      have e5 : IntKind.i64.wrap ((i : Int) + 1) = (i : Int) + 1 := wrap_i64 (by omega) (by omega)
      rw [c1] at hm
      rw [c4] at ha
      rw [decide_eq_false c5] at hg
      have c2' : ¬ b.next ≤ b.mails[i].uid := by omega
      by_cases c6 : 0 < i
      · have e6 : IntKind.i64.wrap ((i : Int) - 1) = ((i - 1 : Nat) : Int) := by rw [wrap_i64 (by omega) (by omega)]; omega
        have c3' : ¬ b.mails[i].uid ≤ b.mails[i - 1].uid := by have := c3 c6; omega
        simp (maxSteps := 1000000) [spec_BoxOk.l0, List.range_succ, bs_get, setAt, sbxS, encMail, hi, hm, ha, hg, c2', c6, c3', e5, e6, (show i - 1 < b.mails.length by omega)]
      · simp (maxSteps := 1000000) [spec_BoxOk.l0, List.range_succ, bs_get, setAt, sbxS, encMail, hi, hm, ha, hg, c2', c6, e5]
theorem spec_BoxOk.bad (hat : spec_MailAt.k M) (hin : spec_l06In.k M) (hmo : spec_MailOk.k M) (b : Box) (hml : b.mails.length ≤ 1048576) (hgl : b.gone.length ≤ 4611686018427387904) (hw : ∀ m ∈ b.mails, m.flags.length ≤ 1048576)
    (i : Nat) (hi : i < b.mails.length) (x : Nat × Nat) (c : badMail b i = true) : ∃ k, exC (run M) (b.mails.length + 1) spec_BoxOk.l0 (sbxS b i x) = some (.ret, { t := [(2, .c (.bool false))], o := [], n := k }) := by
      obtain ⟨v, x⟩ := x
      have hm := spec_MailOk.says hmo b.mails[i] (hw _ (List.getElem_mem hi))
      have ha := spec_MailAt.says hat b b.mails[i].gid hml
      have hg := spec_l06In.says hin b.gone b.mails[i].gid hgl
      simp only [encMail, encBox] at hm ha hg
      rw [badMail_at hi] at c
      cases c1 : mailOk b.mails[i]
      · rw [c1] at hm
        simp (maxSteps := 1000000) [spec_BoxOk.l0, List.range_succ, bs_get, setAt, sbxS, encMail, hi, hm]
      rw [c1] at hm
      by_cases c2 : b.next ≤ b.mails[i].uid
      · simp (maxSteps := 1000000) [spec_BoxOk.l0, List.range_succ, bs_get, setAt, sbxS, encMail, hi, hm, c2]
      have c2' : ¬ b.next ≤ b.mails[i].uid := c2
      by_cases c6 : 0 < i
      · have e6 : IntKind.i64.wrap ((i : Int) - 1) = ((i - 1 : Nat) : Int) := by rw [wrap_i64 (by omega) (by omega)]; omega
        by_cases c3 : b.mails[i].uid ≤ b.mails[i - 1].uid
        · simp (maxSteps := 1000000) [spec_BoxOk.l0, List.range_succ, bs_get, setAt, sbxS, encMail, hi, hm, c2, c6, c3, e6, (show i - 1 < b.mails.length by omega)]
        by_cases c5 : b.mails[i].gid ∈ b.gone
        · rw [decide_eq_true c5] at hg
          simp (maxSteps := 1000000) [spec_BoxOk.l0, List.range_succ, bs_get, setAt, sbxS, encMail, hi, hm, c2, c6, c3, e6, (show i - 1 < b.mails.length by omega), hg]
        rw [decide_eq_false c5] at hg
        by_cases c4 : intO (mailO b.mails b.mails[i].gid) = (i : Int)
        · simp [c1, c2, c3, c4, c5] at c
        simp (maxSteps := 1000000) [spec_BoxOk.l0, List.range_succ, bs_get, setAt, sbxS, encMail, hi, hm, c2, c6, c3, e6, (show i - 1 < b.mails.length by omega), ha, hg, c4]
      · have c3 := c6
        by_cases c5 : b.mails[i].gid ∈ b.gone
        · rw [decide_eq_true c5] at hg
          simp (maxSteps := 1000000) [spec_BoxOk.l0, List.range_succ, bs_get, setAt, sbxS, encMail, hi, hm, c2, c6, hg]
        rw [decide_eq_false c5] at hg
        by_cases c4 : intO (mailO b.mails b.mails[i].gid) = (i : Int)
        · simp [c1, c2, c3, c4, c5] at c
        simp (maxSteps := 1000000) [spec_BoxOk.l0, List.range_succ, bs_get, setAt, sbxS, encMail, hi, hm, c2, c6, ha, hg, c4]
theorem spec_BoxOk.says (h : spec_BoxOk.k M) (b : Box) (hml : b.mails.length ≤ 1048576) (hgl : b.gone.length ≤ 4611686018427387904) (hnl : b.name.length ≤ 4611686018427387904) (hw : ∀ m ∈ b.mails, m.flags.length ≤ 1048576) :
    run M 88 [.a (encBox b)] [] = some (.c (.bool (boxOk b)), []) := by
  obtain ⟨h0, hno, hat, hwi, hin, hso, hgo, hmo⟩ := h
  have h1 := spec_l01In.inR hwi b.gid 1 9999
  have h2 := spec_NameOk.says hno b.name hnl
  have h3 := spec_StampOk.says hso b.time b.who
  have h4 := spec_l01In.inR hwi b.next 1 10000
  have h5 := spec_l06Sorted.says hgo b.gone 40 hgl
  refine run_code (b := spec_BoxOk.m) h0 ⟨b.mails.length + 1, ?_⟩
  obtain ⟨g, hr⟩ := early_loop (f := exC (run M) (b.mails.length + 1) spec_BoxOk.l0) b.mails.length (badMail b) (sbxS b) 2 (.bool false) 0 (sbxSE b)
    (fun i hi x c => spec_BoxOk.good hat hin hmo b hml hgl hw i hi x c)
    (fun i hi x c => spec_BoxOk.bad hat hin hmo b hml hgl hw i hi x c)
    (fun x => by
      obtain ⟨v, x⟩ := x
      simp only [Prod.exists]
      simp (maxSteps := 1000000) [spec_BoxOk.l0, List.range_succ, bs_get, setAt, sbxS, sbxSE])
  cases c1 : inR 1 b.gid 9999
  · simp (maxSteps := 1000000) [exB, spec_BoxOk.m, spec_BoxOk.b, List.range_succ, bs_get, setAt, h1, c1, boxOk]
  cases c2 : nameOk b.name
  · simp (maxSteps := 1000000) [exB, spec_BoxOk.m, spec_BoxOk.b, List.range_succ, bs_get, setAt, h1, h2, c1, c2, boxOk]
  cases c3 : stampOk b.time b.who
  · simp (maxSteps := 1000000) [exB, spec_BoxOk.m, spec_BoxOk.b, List.range_succ, bs_get, setAt, h1, h2, h3, c1, c2, c3, boxOk]
  cases c4 : inR 1 b.next 10000
  · simp (maxSteps := 1000000) [exB, spec_BoxOk.m, spec_BoxOk.b, List.range_succ, bs_get, setAt, h1, h2, h3, h4, c1, c2, c3, c4, boxOk]
  by_cases c5 : 10 < b.mails.length
  · have c5' : ¬ b.mails.length ≤ 10 := by omega
    have ci : (10 : Int) < b.mails.length := by omega
    simp (maxSteps := 1000000) [exB, spec_BoxOk.m, spec_BoxOk.b, List.range_succ, bs_get, setAt, h1, h2, h3, h4, c1, c2, c3, c4, c5, c5', ci, boxOk]
  have c5' : b.mails.length ≤ 10 := by omega
  have ci : ¬ (10 : Int) < b.mails.length := by omega
  cases c6 : gidsOk b.gone 40
  · simp (maxSteps := 1000000) [exB, spec_BoxOk.m, spec_BoxOk.b, List.range_succ, bs_get, setAt, h1, h2, h3, h4, h5, c1, c2, c3, c4, c5, ci, c6, boxOk]
  cases q : firstN (badMail b) b.mails.length with
  | none =>
    simp [sbxS, sbxSE, q, fin1] at hr
    simp (maxSteps := 1000000) [exB, spec_BoxOk.m, spec_BoxOk.b, List.range_succ, bs_get, setAt, h1, h2, h3, h4, h5, c1, c2, c3, c4, c5, c5', ci, c6, hr, boxOk, q]
  | some k =>
    simp [sbxS, q, fin1] at hr
    simp (maxSteps := 1000000) [exB, spec_BoxOk.m, spec_BoxOk.b, List.range_succ, bs_get, setAt, h1, h2, h3, h4, h5, c1, c2, c3, c4, c5, c5', ci, c6, hr, boxOk, q]
end Mx

namespace Mx
open Go
variable {M : Nat → Option Body}
structure Store where
  who : Int
  time : Int
  boxes : List Box
  gone : List Int
abbrev boxes (l : List Box) : T := .sl false 7 (l.map encBox)
abbrev encStore (s : Store) : List T := [I s.who, I s.time, boxes s.boxes, ints s.gone]
abbrev encStoreO (s : Store) : List T := [I s.who, I s.time, .sl true 7 (s.boxes.map encBox), .sl true 1 (irow s.gone)]
abbrev ctStore : List Ct := [.int .i64, .int .i64, .sl ctBox, .sl [.int .i64]]
def StoreFits (s : Store) : Prop := s.boxes.length ≤ maxLen ∧ s.gone.length ≤ maxLen ∧ ∀ b ∈ s.boxes, BoxFits b
theorem has_store {r : List T} (h : HasL ctStore r) : ∃ x : Store, r = encStore x ∧ StoreFits x := by
  match r, h with
  | [a, b, f, g], h =>
    obtain ⟨x1, rfl⟩ := has_int (h.2 0 _ a rfl rfl)
    obtain ⟨x3, rfl⟩ := has_int (h.2 1 _ b rfl rfl)
    obtain ⟨x6, rfl, h6, q6⟩ := has_list encBox BoxFits (fun r hr => has_box hr) (h.2 2 _ f rfl rfl)
    obtain ⟨x7, rfl, h7, _⟩ := has_list (fun n : Int => [I n]) (fun _ => True) (fun r hr => by
      match r, hr with
      | [a], hr => obtain ⟨n, rfl⟩ := has_int (hr.2 0 _ a rfl rfl); exact ⟨n, rfl, trivial⟩) (h.2 3 _ g rfl rfl)
    exact ⟨⟨x1, x3, x6, x7⟩, rfl, h6, h7, q6⟩
def wBoxes (l : List Box) : Nat := l.length + (l.map wBox).sum
def wStore (s : Store) : Nat := wBoxes s.boxes + s.gone.length
theorem wBox_le {l : List Box} {b : Box} (h : b ∈ l) : wBox b ≤ wBoxes l := by
  have := le_sum wBox l b h
  unfold wBoxes; omega
/-- what a row of a box weighs -/
def wRowB : List T → Nat
  | [_, .str s, _, _, _, .sl _ _ ms, .sl _ _ gs] => s.size + (ms.length + (ms.map wRow).sum) + gs.length
  | _ => 0
theorem wRowB_box (b : Box) : wRowB (encBox b) = wBox b := by
  have e : ((b.mails.map encMail).map wRow).sum = (b.mails.map wMail).sum := by
    rw [List.map_map]; congr 1; apply List.map_congr_left; intro m _; exact wRow_mail m
  show (bs b.name).size + ((b.mails.map encMail).length + ((b.mails.map encMail).map wRow).sum) + (irow b.gone).length = _
  rw [e, bs_size, List.length_map, irow_len]; rfl
theorem laws_szBoxS.says (h : laws_szBoxS.k M) (l : List Box) (hl : l.length ≤ maxLen) (hm : ∀ b ∈ l, BoxFits b) (k : Nat) (hk : k ≤ 1048576) :
    run M 115 [.c (boxes l), .c (I k)] [] = some (.c (I (if k < wBoxes l then -1 else (k : Int) - wBoxes l)), []) := by
  have hx : maxLen = 9223372036854775807 := rfl
  have := szS_says (M := M) (F := 115) (n := 7) (f := 17) h.1 (rows := l.map encBox) (by simp; omega) wRowB (by
    intro r hr
    obtain ⟨b, hbb, rfl⟩ := List.mem_map.1 hr
    refine ⟨rfl, rfl, fun k hk => ?_⟩
    rw [wRowB_box]
    exact laws_szBox.says h.2 b (hm b hbb) k hk) k hk
  have e : ((l.map encBox).map wRowB).sum = (l.map wBox).sum := by
    rw [List.map_map]; congr 1; apply List.map_congr_left; intro m _; exact wRowB_box m
  rw [e, List.length_map] at this
  exact this
theorem laws_szStore.says (h : laws_szStore.k M) (s : Store) (hs : StoreFits s) (k : Nat) (hk : k ≤ 1048576) : run M 29 [.a (encStore s), .c (I k)] [] = some (.c (I (if k < wStore s then -1 else (k : Int) - wStore s)), []) := by
  have hx : maxLen = 9223372036854775807 := rfl
  obtain ⟨f1, f2, f3⟩ := hs
  obtain ⟨h0, k2, k1⟩ := h
  have h1 := laws_szBoxS.says k1 s.boxes f1 f3 k hk
  refine run_code (b := laws_szStore.m) h0 ⟨0, ?_⟩
  by_cases c1 : k < wBoxes s.boxes
  · rw [if_pos c1] at h1
    rw [if_pos (show k < wStore s by unfold wStore; omega)]
    simp [exB, laws_szStore.m, laws_szStore.b, List.range_succ, h1]
  rw [if_neg c1] at h1
  have d1 : ¬ (k : Int) - wBoxes s.boxes < 0 := by omega
  have h2 := laws_szIntS.says k2 s.gone (by omega) ((k : Int) - wBoxes s.boxes) (by omega) (by omega)
  by_cases c3 : (k : Int) - wBoxes s.boxes < s.gone.length
  · rw [if_pos c3] at h2
    rw [if_pos (show k < wStore s by unfold wStore; omega)]
    simp [exB, laws_szStore.m, laws_szStore.b, List.range_succ, d1, h1, h2]
  · rw [if_neg c3] at h2
    have d3 : ¬ (k : Int) - wBoxes s.boxes - s.gone.length < 0 := by omega
    rw [if_neg (show ¬ k < wStore s by unfold wStore; omega)]
    have e4 : (k : Int) - (wStore s : Nat) = (k : Int) - wBoxes s.boxes - s.gone.length := by unfold wStore; omega
    rw [e4]
    simp [exB, laws_szStore.m, laws_szStore.b, List.range_succ, d1, d3, h1, h2]
theorem laws_toBoxS.says (h : laws_toBoxS.k M) (l : List Box) (hl : wBoxes l ≤ 1048576) : run M 117 [.c (boxes l)] [] = some (.c (.sl true 7 (l.map encBox)), []) := by
  refine toS_says (M := M) (F := 117) (n := 7) (by' := 96) (z := [.int .i64 0, .str ⟨#[]⟩, .int .i64 0, .int .i64 0, .int .i64 0, .nils 4, .nils 1]) (f := 18) h.1 rfl (by simp; unfold wBoxes at hl; omega) (by omega) (fun r hr => ?_)
  obtain ⟨x, hx, rfl⟩ := List.mem_map.1 hr
  exact ⟨rfl, rfl, _, laws_toBox.says h.2 x (Nat.le_trans (wBox_le hx) hl), rfl, rfl⟩
theorem laws_toStore.says (h : laws_toStore.k M) (s : Store) (hs : wStore s ≤ 1048576) : run M 30 [.a (encStore s)] [] = some (.a (encStoreO s), []) := by
  obtain ⟨h0, k1, k2⟩ := h
  have h1 := laws_toIntS.says k1 s.gone (by unfold wStore at hs; omega)
  have h2 := laws_toBoxS.says k2 s.boxes (by unfold wStore at hs; omega)
  refine run_code (b := laws_toStore.m) h0 ⟨0, ?_⟩
  simp [exB, laws_toStore.m, laws_toStore.b, List.range_succ, h1, h2, setAt, List.take_of_length_le]
theorem laws_eqBoxS.says (h : laws_eqBoxS.k M) (l : List Box) (hl : wBoxes l ≤ 1048576) : run M 121 [.c (boxes l), .c (boxes l)] [] = some (.c (.bool true), []) := by
  refine eqS_says (M := M) (F := 121) (n := 7) (f := 21) h.1 (by simp; unfold wBoxes at hl; omega) (fun r hr => ?_)
  obtain ⟨x, hx, rfl⟩ := List.mem_map.1 hr
  exact ⟨rfl, rfl, laws_eqBox.says h.2 x (Nat.le_trans (wBox_le hx) hl)⟩
theorem laws_eqStore.says (h : laws_eqStore.k M) (s : Store) (hs : wStore s ≤ 1048576) : run M 33 [.a (encStore s), .a (encStore s)] [] = some (.c (.bool true), []) := by
  obtain ⟨h0, k1, k2⟩ := h
  have h1 := laws_eqIntS.says k1 s.gone (by unfold wStore at hs; omega)
  have h2 := laws_eqBoxS.says k2 s.boxes (by unfold wStore at hs; omega)
  refine run_code (b := laws_eqStore.m) h0 ⟨0, ?_⟩
  simp [exB, laws_eqStore.m, laws_eqStore.b, List.range_succ, h1, h2]
end Mx

namespace Mx
open Go
variable {M : Nat → Option Body}
/-- a place of a list whose thing is so -/
def atP {α : Type} (p : α → Bool) (l : List α) (i : Nat) : Bool := match l[i]? with
  | some x => p x
  | none => false
theorem atP_at {α : Type} {p : α → Bool} {l : List α} {i : Nat} (h : i < l.length) : atP p l i = p l[i] := by simp [atP, h]
theorem firstF_findIdx {α : Type} (p : α → Bool) (l : List α) : ∀ d i, i + d = l.length → firstF (atP p l) d i = ((l.drop i).findIdx? p).map (· + i)
  | 0, i, h => by rw [firstF, List.drop_eq_nil_of_le (by omega)]; rfl
  | d + 1, i, h => by
    have hi : i < l.length := by omega
    rw [firstF, atP_at hi, List.drop_eq_getElem_cons hi, List.findIdx?_cons]
    split
    · simp
    · rw [firstF_findIdx p l d (i + 1) (by omega), Option.map_map]
      congr 1; funext x; simp only [Function.comp]; omega
theorem firstN_findIdx {α : Type} (p : α → Bool) (l : List α) : firstN (atP p l) l.length = l.findIdx? p := by
  rw [firstN, firstF_findIdx p l _ _ (by omega)]; simp
theorem firstN_any {α : Type} (p : α → Bool) (l : List α) : (firstN (atP p l) l.length).isSome = l.any p := by
  rw [firstN_findIdx, List.findIdx?_isSome]
def named (l : List Box) (s : List UInt8) : Option Nat := l.findIdx? fun b => decide (b.name = s)
def bnS (st : Store) (s : List UInt8) (i : Nat) (x : Nat × Nat) : St := { t := [(1, .c (S s)), (2, .c (.ptr 2 x.1 0 0)), (5, .c (I i))], o := [(2, ⟨x.1, 4, true, true, [encStore st]⟩)], n := x.2 }
/-- a loop that answers the first place found -/
def finI {β : Type} (r : Nat) (e : Nat) (E : β → St) (q : Option Nat) (m : β × Nat) : Out × St := match q with
  | none => (.exit e, E m.1)
  | some k => (.ret, { t := [(r, .c (I k))], o := [], n := m.2 })
theorem index_loop {β γ : Type} (n : Nat) (p : Nat → Bool) {f : St → Option (Out × St)} (S : Nat → β → St) (r : Nat) (e : Nat) (E : γ → St) (z : γ)
    (h1 : ∀ i, i < n → ∀ x, p i = false → ∃ y, f (S i x) = some (.normal, S (i + 1) y)) (h2 : ∀ i, i < n → ∀ x, p i = true → ∃ k, f (S i x) = some (.ret, { t := [(r, .c (I i))], o := [], n := k }))
    (h3 : ∀ x, ∃ y, f (S n x) = some (.exit e, E y)) : ∃ g : β → γ × Nat, ∀ x, loopN f (n + 1) (S 0 x) = some (finI r e E (firstN p n) (g x)) :=
  first_loop n p S (finI r e E) (fun q m => by cases q <;> simp [finI]) h1 (fun i hi x c => by
    obtain ⟨k, hk⟩ := h2 i hi x c
    exact ⟨(z, k), hk⟩) (fun x => by
    obtain ⟨y, hy⟩ := h3 x
    exact ⟨(y, 0), hy⟩)
def bnE (st : Store) (s : List UInt8) (x : Nat × Nat) : St := { t := [(1, .c (S s)), (2, .c (.ptr 2 x.1 0 0)), (5, .c (I st.boxes.length)), (10, .c (.bool false))], o := [(2, ⟨x.1, 4, true, true, [encStore st]⟩)], n := x.2 }
theorem spec_BoxNamed.says (h : spec_BoxNamed.k M) (st : Store) (s : List UInt8) (hb : st.boxes.length ≤ 1048576) : run M 226 [.a (encStore st), .c (S s)] [] = some (.c (I (intO (named st.boxes s))), []) := by
  refine run_code (b := spec_BoxNamed.m) h ⟨st.boxes.length + 1, ?_⟩
  obtain ⟨g, hr⟩ := index_loop (f := exC (run M) (st.boxes.length + 1) spec_BoxNamed.l0) st.boxes.length (atP (fun b => decide (b.name = s)) st.boxes) (bnS st s) 4 0 (bnE st s) (0, 0)
    (fun i hi x c => by
      obtain ⟨v, x⟩ := x
      rw [atP_at hi, decide_eq_false_iff_not] at c
      have e5 : IntKind.i64.wrap ((i : Int) + 1) = (i : Int) + 1 := wrap_i64 (by omega) (by omega)
      simp only [Prod.exists]
      simp (maxSteps := 1000000) [spec_BoxNamed.l0, List.range_succ, bs_get, setAt, bnS, hi, c, encBox, e5])
    (fun i hi x c => by
      obtain ⟨v, x⟩ := x
      rw [atP_at hi, decide_eq_true_eq] at c
      simp (maxSteps := 1000000) [spec_BoxNamed.l0, List.range_succ, bs_get, setAt, bnS, hi, c, encBox])
    (fun x => by
      obtain ⟨v, x⟩ := x
      simp only [Prod.exists]
      simp (maxSteps := 1000000) [spec_BoxNamed.l0, List.range_succ, bs_get, setAt, bnS, bnE])
  rw [firstN_findIdx] at hr
  unfold named
  cases hm : st.boxes.findIdx? fun b => decide (b.name = s) with
  | none =>
    simp [bnS, hm, finI, bnE] at hr
    simp (maxSteps := 1000000) [exB, spec_BoxNamed.m, spec_BoxNamed.b, List.range_succ, bs_get, setAt, hr, intO]
  | some k =>
    simp [bnS, hm, finI] at hr
    simp (maxSteps := 1000000) [exB, spec_BoxNamed.m, spec_BoxNamed.b, List.range_succ, bs_get, setAt, hr, intO]
theorem impl_BoxNamed_1.says (h : impl_BoxNamed_1.k M) (b : Box) (s : List UInt8) : run M 271 [.a (encBox b), .c (.vp [S s] 0)] [] = some (.c (.bool (decide (b.name = s))), []) := by
  refine run_code (b := impl_BoxNamed_1.m) h ⟨0, ?_⟩
  simp (maxSteps := 1000000) [exB, impl_BoxNamed_1.m, impl_BoxNamed_1.b, List.range_succ, bs_get, setAt]
def ixbS (l : List Box) (s : List UInt8) (i : Nat) (x : Nat) : St := { t := [(0, .c (boxes l)), (1, .c (.fn 271 [.vp [S s] 0])), (7, .c (I l.length)), (8, .c (I i))], o := [], n := x }
def ixbE (l : List Box) (s : List UInt8) (x : Nat) : St := { t := [(0, .c (boxes l)), (1, .c (.fn 271 [.vp [S s] 0])), (7, .c (I l.length)), (8, .c (I l.length)), (9, .c (.bool false))], o := [], n := x }
theorem impl_BoxNamed.index (h : slices_IndexFunc_impl_Box_impl_Box.k M) (h2 : impl_BoxNamed_1.k M) (l : List Box) (s : List UInt8) (hl : l.length ≤ 1048576) :
    run M 200 [.c (boxes l), .c (.fn 271 [.vp [S s] 0])] [] = some (.c (I (intO (named l s))), []) := by
  refine run_code (b := slices_IndexFunc_impl_Box_impl_Box.m) h ⟨l.length + 1, ?_⟩
  obtain ⟨g, hr⟩ := index_loop (f := exC (run M) (l.length + 1) slices_IndexFunc_impl_Box_impl_Box.l0) l.length (atP (fun b => decide (b.name = s)) l) (ixbS l s) 4 0 (ixbE l s) 0
    (fun i hi x c => by
      have hm := impl_BoxNamed_1.says h2 l[i] s
      rw [atP_at hi] at c
      rw [c] at hm
      simp only [encBox] at hm
      have e5 : IntKind.i64.wrap ((i : Int) + 1) = (i : Int) + 1 := wrap_i64 (by omega) (by omega)
      simp (maxSteps := 1000000) [slices_IndexFunc_impl_Box_impl_Box.l0, List.range_succ, bs_get, setAt, ixbS, hi, hm, encBox, e5])
    (fun i hi x c => by
      have hm := impl_BoxNamed_1.says h2 l[i] s
      rw [atP_at hi] at c
      rw [c] at hm
      simp only [encBox] at hm
      simp (maxSteps := 1000000) [slices_IndexFunc_impl_Box_impl_Box.l0, List.range_succ, bs_get, setAt, ixbS, hi, hm, encBox])
    (fun x => by simp (maxSteps := 1000000) [slices_IndexFunc_impl_Box_impl_Box.l0, List.range_succ, bs_get, setAt, ixbS, ixbE])
  rw [firstN_findIdx] at hr
  unfold named
  cases hm : l.findIdx? fun b => decide (b.name = s) with
  | none =>
    simp [ixbS, hm, finI, ixbE] at hr
    simp (maxSteps := 1000000) [exB, slices_IndexFunc_impl_Box_impl_Box.m, slices_IndexFunc_impl_Box_impl_Box.b, List.range_succ, bs_get, setAt, hr, intO]
  | some k =>
    simp [ixbS, hm, finI] at hr
    simp (maxSteps := 1000000) [exB, slices_IndexFunc_impl_Box_impl_Box.m, slices_IndexFunc_impl_Box_impl_Box.b, List.range_succ, bs_get, setAt, hr, intO]
theorem impl_BoxNamed.says (h : impl_BoxNamed.k M) (st : Store) (s : List UInt8) (hb : st.boxes.length ≤ 1048576) : run M 228 [.a (encStore st), .c (S s)] [] = some (.c (I (intO (named st.boxes s))), []) := by
  have h1 := impl_BoxNamed.index h.2.1 h.2.2 st.boxes s hb
  refine run_code (b := impl_BoxNamed.m) h.1 ⟨0, ?_⟩
  simp (maxSteps := 1000000) [exB, impl_BoxNamed.m, impl_BoxNamed.b, List.range_succ, bs_get, setAt, h1]
def lateM (time : Int) (m : Mail) : Bool := m.flags.any fun r => decide (time < r.time)
def late (b : Box) (time : Int) : Bool := decide (time < b.time) || b.mails.any (lateM time)
def ltS (b : Box) (time : Int) (i : Nat) (x : Nat × Nat) : St := { t := [(1, .c (I time)), (2, .c (.ptr 2 x.1 0 0)), (10, .c (mails b.mails)), (11, .c (I b.mails.length)), (12, .c (I i))], o := [(2, ⟨x.1, 7, true, true, [encBox b]⟩)], n := x.2 }
def ltE (b : Box) (time : Int) (x : Nat × Nat) : St := { t := [(1, .c (I time)), (2, .c (.ptr 2 x.1 0 0)), (10, .c (mails b.mails)), (11, .c (I b.mails.length)), (12, .c (I b.mails.length)), (13, .c (.bool false))], o := [(2, ⟨x.1, 7, true, true, [encBox b]⟩)], n := x.2 }
def lt1S (b : Box) (time : Int) (i : Nat) (l : List Reg) (k : Nat) (x : Nat × Nat) : St := { t := [(1, .c (I time)), (2, .c (.ptr 2 x.1 0 0)), (10, .c (mails b.mails)), (11, .c (I b.mails.length)), (12, .c (I i)), (17, .c (regs l)), (18, .c (I l.length)), (19, .c (I k))], o := [(2, ⟨x.1, 7, true, true, [encBox b]⟩)], n := x.2 }
def lt1E (b : Box) (time : Int) (i : Nat) (l : List Reg) (x : Nat × Nat) : St := { t := [(1, .c (I time)), (2, .c (.ptr 2 x.1 0 0)), (10, .c (mails b.mails)), (11, .c (I b.mails.length)), (12, .c (I i)), (17, .c (regs l)), (18, .c (I l.length)), (19, .c (I l.length)), (20, .c (.bool false))], o := [(2, ⟨x.1, 7, true, true, [encBox b]⟩)], n := x.2 }
theorem any_none {α : Type} {p : α → Bool} {l : List α} (h : l.any p = false) : firstN (atP p l) l.length = none := by
  have := firstN_any p l
  rw [h] at this; simpa using this
theorem any_some {α : Type} {p : α → Bool} {l : List α} (h : l.any p = true) : ∃ k, firstN (atP p l) l.length = some k := by
  have := firstN_any p l
  rw [h] at this; exact Option.isSome_iff_exists.1 this
theorem impl_isLate.inner (b : Box) (time : Int) (i K : Nat) (l : List Reg) (hl : l.length ≤ 1048576) : ∃ g : Nat × Nat → (Nat × Nat) × Nat, ∀ x, loopN (exC (run M) K impl_isLate.l1) (l.length + 1) (lt1S b time i l 0 x) = some (fin1 4 (.bool true) 2 (lt1E b time i l) (firstN (atP (fun r => decide (time < r.time)) l) l.length) (g x)) :=
  early_loop l.length (atP (fun r => decide (time < r.time)) l) (lt1S b time i l) 4 (.bool true) 2 (lt1E b time i l)
    (fun i hi x c => by
      obtain ⟨v, x⟩ := x
      rw [atP_at hi, decide_eq_false_iff_not] at c
      have e5 : IntKind.i64.wrap ((i : Int) + 1) = (i : Int) + 1 := wrap_i64 (by omega) (by omega)
      simp only [Prod.exists]
      simp (maxSteps := 1000000) [impl_isLate.l1, List.range_succ, bs_get, setAt, lt1S, hi, c, encReg, e5])
    (fun i hi x c => by
      obtain ⟨v, x⟩ := x
      rw [atP_at hi, decide_eq_true_eq] at c
      simp (maxSteps := 1000000) [impl_isLate.l1, List.range_succ, bs_get, setAt, lt1S, hi, c, encReg])
    (fun x => by
      obtain ⟨v, x⟩ := x
      simp only [Prod.exists]
      simp (maxSteps := 1000000) [impl_isLate.l1, List.range_succ, bs_get, setAt, lt1S, lt1E])
theorem impl_isLate.says (h : impl_isLate.k M) (b : Box) (time : Int) (hb : b.mails.length ≤ 1048576) (hf : ∀ m ∈ b.mails, m.flags.length ≤ 1048576) : run M 229 [.a (encBox b), .c (I time)] [] = some (.c (.bool (late b time)), []) := by
  refine run_code (b := impl_isLate.m) h ⟨b.mails.length + 1048577, ?_⟩
  obtain ⟨K, hK⟩ : ∃ K, b.mails.length + 1048577 = K := ⟨_, rfl⟩
  rw [hK]
  obtain ⟨g, hr⟩ := early_loop (f := exC (run M) K impl_isLate.l0) b.mails.length (atP (lateM time) b.mails) (ltS b time) 4 (.bool true) 0 (ltE b time)
    (fun i hi x c => by
      obtain ⟨v, x⟩ := x
      rw [atP_at hi, lateM] at c
      have e5 : IntKind.i64.wrap ((i : Int) + 1) = (i : Int) + 1 := wrap_i64 (by omega) (by omega)
      have hfl := hf _ (List.getElem_mem hi)
      obtain ⟨g, hr⟩ := impl_isLate.inner (M := M) b time i K b.mails[i].flags hfl
      rw [any_none c] at hr
      have hr2 := fun x => loopN_le (hr x) (show b.mails[i].flags.length + 1 ≤ K by omega)
      simp [lt1S, lt1E, fin1] at hr2
      simp only [Prod.exists]
      simp (maxSteps := 1000000) [impl_isLate.l0, List.range_succ, bs_get, setAt, ltS, hi, encMail, e5, hr2])
    (fun i hi x c => by
      obtain ⟨v, x⟩ := x
      rw [atP_at hi, lateM] at c
      have hfl := hf _ (List.getElem_mem hi)
      obtain ⟨g, hr⟩ := impl_isLate.inner (M := M) b time i K b.mails[i].flags hfl
      obtain ⟨k, hk⟩ := any_some c
      rw [hk] at hr
      have hr2 := fun x => loopN_le (hr x) (show b.mails[i].flags.length + 1 ≤ K by omega)
      simp [lt1S, fin1] at hr2
      simp (maxSteps := 1000000) [impl_isLate.l0, List.range_succ, bs_get, setAt, ltS, hi, encMail, hr2])
    (fun x => by
      obtain ⟨v, x⟩ := x
      simp only [Prod.exists]
      simp (maxSteps := 1000000) [impl_isLate.l0, List.range_succ, bs_get, setAt, ltS, ltE])
  have hr2 := fun x => loopN_le (hr x) (show b.mails.length + 1 ≤ K by omega)
  unfold late
  cases c : b.mails.any (lateM time)
  · rw [any_none c] at hr2
    simp [ltS, ltE, fin1] at hr2
    simp (maxSteps := 1000000) [exB, impl_isLate.m, impl_isLate.b, List.range_succ, bs_get, setAt, hr2]
  · obtain ⟨k, hk⟩ := any_some c
    rw [hk] at hr2
    simp [ltS, fin1] at hr2
    simp (maxSteps := 1000000) [exB, impl_isLate.m, impl_isLate.b, List.range_succ, bs_get, setAt, hr2]
def st0S (b : Box) (time : Int) (i : Nat) (x : Nat × Nat) : St := { t := [(1, .c (I time)), (2, .c (.ptr 2 x.1 0 0)), (5, .c (I i))], o := [(2, ⟨x.1, 7, true, true, [encBox b]⟩)], n := x.2 }
def st0E (b : Box) (time : Int) (x : Nat × Nat) : St := { t := [(1, .c (I time)), (2, .c (.ptr 2 x.1 0 0)), (5, .c (I b.mails.length)), (16, .c (.bool false))], o := [(2, ⟨x.1, 7, true, true, [encBox b]⟩)], n := x.2 }
def st1S (b : Box) (time : Int) (i : Nat) (k : Nat) (x : Nat × Nat) : St := { t := [(1, .c (I time)), (2, .c (.ptr 2 x.1 0 0)), (5, .c (I i)), (6, .c (I k))], o := [(2, ⟨x.1, 7, true, true, [encBox b]⟩)], n := x.2 }
def st1E (b : Box) (time : Int) (i : Nat) (k : Nat) (x : Nat × Nat) : St := { t := [(1, .c (I time)), (2, .c (.ptr 2 x.1 0 0)), (5, .c (I i)), (6, .c (I k)), (27, .c (.bool false))], o := [(2, ⟨x.1, 7, true, true, [encBox b]⟩)], n := x.2 }
theorem spec_l07Times.inner (b : Box) (time : Int) (i K : Nat) (hi : i < b.mails.length) (hl : b.mails[i].flags.length ≤ 1048576) : ∃ g : Nat × Nat → (Nat × Nat) × Nat, ∀ x, loopN (exC (run M) K spec_l07Times.l1) (b.mails[i].flags.length + 1) (st1S b time i 0 x) = some (fin1 4 (.bool false) 2 (st1E b time i b.mails[i].flags.length) (firstN (atP (fun r => decide (time < r.time)) b.mails[i].flags) b.mails[i].flags.length) (g x)) :=
  early_loop b.mails[i].flags.length (atP (fun r => decide (time < r.time)) b.mails[i].flags) (st1S b time i) 4 (.bool false) 2 (st1E b time i b.mails[i].flags.length)
    (fun k hk x c => by
      obtain ⟨v, x⟩ := x
      rw [atP_at hk, decide_eq_false_iff_not] at c
      have e5 : IntKind.i64.wrap ((k : Int) + 1) = (k : Int) + 1 := wrap_i64 (by omega) (by omega)
      simp only [Prod.exists]
      simp (maxSteps := 1000000) [spec_l07Times.l1, List.range_succ, bs_get, setAt, st1S, hi, hk, c, encReg, encMail, e5])
    (fun k hk x c => by
      obtain ⟨v, x⟩ := x
      rw [atP_at hk, decide_eq_true_eq] at c
      simp (maxSteps := 1000000) [spec_l07Times.l1, List.range_succ, bs_get, setAt, st1S, hi, hk, c, encReg, encMail])
    (fun x => by
      obtain ⟨v, x⟩ := x
      simp only [Prod.exists]
      simp (maxSteps := 1000000) [spec_l07Times.l1, List.range_succ, bs_get, setAt, st1S, st1E, hi, encMail])
theorem spec_l07Times.says (h : spec_l07Times.k M) (b : Box) (time : Int) (hb : b.mails.length ≤ 1048576) (hf : ∀ m ∈ b.mails, m.flags.length ≤ 1048576) : run M 227 [.a (encBox b), .c (I time)] [] = some (.c (.bool (!late b time)), []) := by
  refine run_code (b := spec_l07Times.m) h ⟨b.mails.length + 1048577, ?_⟩
  obtain ⟨K, hK⟩ : ∃ K, b.mails.length + 1048577 = K := ⟨_, rfl⟩
  rw [hK]
  obtain ⟨g, hr⟩ := early_loop (f := exC (run M) K spec_l07Times.l0) b.mails.length (atP (lateM time) b.mails) (st0S b time) 4 (.bool false) 0 (st0E b time)
    (fun i hi x c => by
      obtain ⟨v, x⟩ := x
      rw [atP_at hi, lateM] at c
      have e5 : IntKind.i64.wrap ((i : Int) + 1) = (i : Int) + 1 := wrap_i64 (by omega) (by omega)
      have hfl := hf _ (List.getElem_mem hi)
      obtain ⟨g, hr⟩ := spec_l07Times.inner (M := M) b time i K hi hfl
      rw [any_none c] at hr
      have hr2 := fun x => loopN_le (hr x) (show b.mails[i].flags.length + 1 ≤ K by omega)
      simp [st1S, st1E, fin1] at hr2
      simp only [Prod.exists]
      simp (maxSteps := 1000000) [spec_l07Times.l0, List.range_succ, bs_get, setAt, st0S, hi, encMail, e5, hr2])
    (fun i hi x c => by
      obtain ⟨v, x⟩ := x
      rw [atP_at hi, lateM] at c
      have hfl := hf _ (List.getElem_mem hi)
      obtain ⟨g, hr⟩ := spec_l07Times.inner (M := M) b time i K hi hfl
      obtain ⟨k, hk⟩ := any_some c
      rw [hk] at hr
      have hr2 := fun x => loopN_le (hr x) (show b.mails[i].flags.length + 1 ≤ K by omega)
      simp [st1S, fin1] at hr2
      simp (maxSteps := 1000000) [spec_l07Times.l0, List.range_succ, bs_get, setAt, st0S, hi, encMail, hr2])
    (fun x => by
      obtain ⟨v, x⟩ := x
      simp only [Prod.exists]
      simp (maxSteps := 1000000) [spec_l07Times.l0, List.range_succ, bs_get, setAt, st0S, st0E])
  have hr2 := fun x => loopN_le (hr x) (show b.mails.length + 1 ≤ K by omega)
  unfold late
  by_cases c0 : time < b.time
  · simp (maxSteps := 1000000) [exB, spec_l07Times.m, spec_l07Times.b, List.range_succ, bs_get, setAt, c0]
  cases c : b.mails.any (lateM time)
  · rw [any_none c] at hr2
    simp [st0S, st0E, fin1] at hr2
    simp (maxSteps := 1000000) [exB, spec_l07Times.m, spec_l07Times.b, List.range_succ, bs_get, setAt, hr2, c0]
  · obtain ⟨k, hk⟩ := any_some c
    rw [hk] at hr2
    simp [st0S, fin1] at hr2
    simp (maxSteps := 1000000) [exB, spec_l07Times.m, spec_l07Times.b, List.range_succ, bs_get, setAt, hr2, c0]
end Mx
