/-
  Small codes: laws.eqIntS, laws.markIntS, laws.heldIntS, laws.szIntS, laws.toIntS.
-/
import Derived.Test.YtddgjibndegbaaaMxB
set_option linter.unusedSimpArgs false
set_option linter.unusedVariables false
namespace Mx
open Go
def laws_eqIntS.l0 : C := .seq (.seq (.reg [⟨some 11, .mv (.t 5), none⟩,
    ⟨some 12, .mv (.t 0), none⟩,
    ⟨some 13, .len (.t 12), none⟩,
    ⟨some 14, .bin .lss (.t 11) (.t 13), none⟩] [0, 1, 5, 14] [])
  (.cond (.t 14) (.skip) (.exit 0)))
  (.seq (.block 1 (.seq (.regd [⟨some 17, .mv (.t 0), none⟩,
    ⟨some 18, .mv (.t 5), none⟩,
    ⟨some 19, .iaddr 1 (.t 17) (.t 18), none⟩,
    ⟨some 20, .load false 1 (.t 19), none⟩,
    ⟨some 21, .mv (.t 1), none⟩,
    ⟨some 22, .mv (.t 5), none⟩,
    ⟨some 23, .iaddr 1 (.t 21) (.t 22), none⟩,
    ⟨some 24, .load false 1 (.t 23), none⟩,
    ⟨some 25, .bin .neq (.t 20) (.t 24), none⟩] [[], [], [0, 1], [0, 1, 2], [], [], [4, 5], [4, 5, 6], [0, 1, 2, 3, 4, 5, 6, 7]] [0, 1, 5, 25] [])
  (.cond (.t 25) (.seq (.reg [⟨some 4, .mv (.k (.bool false)), none⟩] [4] [])
  (.ret)) (.skip))))
  (.reg [⟨some 15, .mv (.t 5), none⟩,
    ⟨some 16, .bin .add (.t 15) (.k (.int .i64 1)), none⟩,
    ⟨some 5, .mv (.t 16), none⟩] [0, 1, 5] []))
def laws_eqIntS.b : C := .seq (.reg [⟨some 4, .mv (.k (.bool false)), none⟩] [0, 1] [])
  (.seq (.seq (.reg [⟨some 6, .mv (.t 0), none⟩,
    ⟨some 7, .len (.t 6), none⟩,
    ⟨some 8, .mv (.t 1), none⟩,
    ⟨some 9, .len (.t 8), none⟩,
    ⟨some 10, .bin .neq (.t 7) (.t 9), none⟩] [0, 1, 10] [])
  (.cond (.t 10) (.seq (.reg [⟨some 4, .mv (.k (.bool false)), none⟩] [4] [])
  (.ret)) (.skip)))
  (.seq (.seq (.reg [⟨some 5, .mv (.k (.int .i64 0)), none⟩] [0, 1, 5] [])
  (.block 0 (.loop laws_eqIntS.l0)))
  (.seq (.reg [⟨some 4, .mv (.k (.bool true)), none⟩] [4] [])
  (.ret))))
def laws_eqIntS.m : Fn := { np := 2, body := laws_eqIntS.b, res := [.tmp 4] }
def laws_eqIntS.k (M : Nat → Option Body) : Prop := M 45 = some (.code laws_eqIntS.m)
def laws_markIntS.l0 : C := .seq (.seq (.reg [⟨some 6, .mv (.t 5), none⟩,
    ⟨some 7, .mv (.t 0), none⟩,
    ⟨some 8, .len (.t 7), none⟩,
    ⟨some 9, .bin .lss (.t 6) (.t 8), none⟩] [0, 1, 5, 9] [0])
  (.cond (.t 9) (.skip) (.exit 0)))
  (.seq (.block 1 (.seq (.reg [⟨some 12, .mv (.t 0), none⟩,
    ⟨some 13, .mv (.t 5), none⟩,
    ⟨some 14, .mv (.t 1), none⟩,
    ⟨some 15, .iaddr 1 (.t 12) (.t 13), none⟩,
    ⟨none, .store 1 (.t 15) (.t 14), none⟩] [0, 1, 5] [0])
  (.reg [⟨some 16, .mv (.t 1), none⟩,
    ⟨some 17, .bin .add (.t 16) (.k (.int .i64 1)), none⟩,
    ⟨some 1, .mv (.t 17), none⟩] [0, 1, 5] [0])))
  (.reg [⟨some 10, .mv (.t 5), none⟩,
    ⟨some 11, .bin .add (.t 10) (.k (.int .i64 1)), none⟩,
    ⟨some 5, .mv (.t 11), none⟩] [0, 1, 5] [0]))
def laws_markIntS.b : C := .seq (.reg [⟨some 4, .mv (.k (.int .i64 0)), none⟩] [0, 1] [0])
  (.seq (.seq (.reg [⟨some 5, .mv (.k (.int .i64 0)), none⟩] [0, 1, 5] [0])
  (.block 0 (.loop laws_markIntS.l0)))
  (.seq (.reg [⟨some 18, .mv (.t 1), none⟩,
    ⟨some 4, .mv (.t 18), none⟩] [4] [0])
  (.ret)))
def laws_markIntS.m : Fn := { np := 2, body := laws_markIntS.b, res := [.tmp 4] }
def laws_markIntS.k (M : Nat → Option Body) : Prop := M 46 = some (.code laws_markIntS.m)
def laws_heldIntS.l0 : C := .seq (.seq (.reg [⟨some 6, .mv (.t 5), none⟩,
    ⟨some 7, .mv (.t 0), none⟩,
    ⟨some 8, .len (.t 7), none⟩,
    ⟨some 9, .bin .lss (.t 6) (.t 8), none⟩] [0, 1, 5, 9] [])
  (.cond (.t 9) (.skip) (.exit 0)))
  (.seq (.block 1 (.seq (.seq (.reg [⟨some 12, .mv (.t 0), none⟩,
    ⟨some 13, .mv (.t 5), none⟩,
    ⟨some 14, .iaddr 1 (.t 12) (.t 13), none⟩,
    ⟨some 15, .load false 1 (.t 14), none⟩,
    ⟨some 16, .mv (.t 1), none⟩,
    ⟨some 17, .bin .neq (.t 15) (.t 16), none⟩] [0, 1, 5, 17] [])
  (.cond (.t 17) (.seq (.reg [⟨some 4, .mv (.k (.int .i64 (-1))), none⟩] [4] [])
  (.ret)) (.skip)))
  (.reg [⟨some 18, .mv (.t 1), none⟩,
    ⟨some 19, .bin .add (.t 18) (.k (.int .i64 1)), none⟩,
    ⟨some 1, .mv (.t 19), none⟩] [0, 1, 5] [])))
  (.reg [⟨some 10, .mv (.t 5), none⟩,
    ⟨some 11, .bin .add (.t 10) (.k (.int .i64 1)), none⟩,
    ⟨some 5, .mv (.t 11), none⟩] [0, 1, 5] []))
def laws_heldIntS.b : C := .seq (.reg [⟨some 4, .mv (.k (.int .i64 0)), none⟩] [0, 1] [])
  (.seq (.seq (.reg [⟨some 5, .mv (.k (.int .i64 0)), none⟩] [0, 1, 5] [])
  (.block 0 (.loop laws_heldIntS.l0)))
  (.seq (.reg [⟨some 20, .mv (.t 1), none⟩,
    ⟨some 4, .mv (.t 20), none⟩] [4] [])
  (.ret)))
def laws_heldIntS.m : Fn := { np := 2, body := laws_heldIntS.b, res := [.tmp 4] }
def laws_heldIntS.k (M : Nat → Option Body) : Prop := M 47 = some (.code laws_heldIntS.m)
def laws_szIntS.b : C := .seq (.reg [⟨some 4, .mv (.k (.int .i64 0)), none⟩] [0, 1] [])
  (.seq (.reg [⟨some 5, .mv (.t 1), none⟩,
    ⟨some 6, .mv (.t 0), none⟩,
    ⟨some 7, .len (.t 6), none⟩,
    ⟨some 8, .bin .sub (.t 5) (.t 7), none⟩,
    ⟨some 1, .mv (.t 8), none⟩] [1] [])
  (.seq (.seq (.reg [⟨some 9, .mv (.t 1), none⟩,
    ⟨some 10, .bin .lss (.t 9) (.k (.int .i64 0)), none⟩] [1, 10] [])
  (.cond (.t 10) (.seq (.reg [⟨some 4, .mv (.k (.int .i64 (-1))), none⟩] [4] [])
  (.ret)) (.skip)))
  (.seq (.reg [⟨some 11, .mv (.t 1), none⟩,
    ⟨some 4, .mv (.t 11), none⟩] [4] [])
  (.ret))))
def laws_szIntS.m : Fn := { np := 2, body := laws_szIntS.b, res := [.tmp 4] }
def laws_szIntS.k (M : Nat → Option Body) : Prop := M 108 = some (.code laws_szIntS.m)
def laws_toIntS.l0 : C := .seq (.seq (.reg [⟨some 8, .mv (.t 4), none⟩,
    ⟨some 9, .mv (.t 0), none⟩,
    ⟨some 10, .len (.t 9), none⟩,
    ⟨some 11, .bin .lss (.t 8) (.t 10), none⟩] [0, 3, 4, 11] [7])
  (.cond (.t 11) (.skip) (.exit 0)))
  (.seq (.block 1 (.reg [⟨some 14, .mv (.t 3), none⟩,
    ⟨some 15, .mv (.t 4), none⟩,
    ⟨some 16, .mv (.t 0), none⟩,
    ⟨some 17, .mv (.t 4), none⟩,
    ⟨some 18, .iaddr 1 (.t 16) (.t 17), none⟩,
    ⟨some 19, .load false 1 (.t 18), none⟩,
    ⟨some 20, .iaddr 1 (.t 14) (.t 15), none⟩,
    ⟨none, .store 1 (.t 20) (.t 19), none⟩] [0, 3, 4] [7]))
  (.reg [⟨some 12, .mv (.t 4), none⟩,
    ⟨some 13, .bin .add (.t 12) (.k (.int .i64 1)), none⟩,
    ⟨some 4, .mv (.t 13), none⟩] [0, 3, 4] [7]))
def laws_toIntS.b : C := .seq (.reg [⟨some 2, .nil 1, none⟩] [0] [])
  (.seq (.reg [⟨some 5, .mv (.t 0), none⟩,
    ⟨some 6, .len (.t 5), none⟩,
    ⟨some 7, .mks 1 8 [.int .i64 0] (.t 6), none⟩,
    ⟨some 3, .mv (.t 7), none⟩] [0, 3] [7])
  (.seq (.seq (.reg [⟨some 4, .mv (.k (.int .i64 0)), none⟩] [0, 3, 4] [7])
  (.block 0 (.loop laws_toIntS.l0)))
  (.seq (.reg [⟨some 21, .mv (.t 3), none⟩,
    ⟨some 2, .mv (.t 21), none⟩] [2] [2, 7])
  (.ret))))
def laws_toIntS.m : Fn := { np := 1, body := laws_toIntS.b, res := [.tmp 2] }
def laws_toIntS.k (M : Nat → Option Body) : Prop := M 42 = some (.code laws_toIntS.m)
end Mx

/-
  The laws' plumbing at any type: slices laid over and held against each other, element by element.
-/
namespace Mx
open Go
variable {M : Nat → Option Body}

/-- a cell that all may read -/
def closedT : T → Bool
  | .int .. => true
  | .bool _ => true
  | .str _ => true
  | .sl own _ _ => !own
  | _ => false
/-- as the caller sees it -/
def frz : T → T
  | .sl _ sz rows => .sl false sz rows
  | t => t
def resT : T → Bool
  | .int .. => true
  | .bool _ => true
  | .str _ => true
  | .sl .. => true
  | _ => false
theorem im_closed {o : List (Nat × Ob)} {t : T} (h : closedT t = true) : im o t = some t ∧ wr3 o t = [] ∧ cl o t = some t := by
  cases t <;> simp [closedT] at h <;> simp [im, im1, im0, wr3, wr2, wr, cl, h]
theorem im_closedL {o : List (Nat × Ob)} {r : List T} (h : r.all closedT = true) : mapO (im o) r = some r ∧ r.flatMap (wr3 o) = [] ∧ mapO (cl o) r = some r := by
  induction r with
  | nil => exact ⟨rfl, rfl, rfl⟩
  | cons t r ih =>
    simp only [List.all_cons, Bool.and_eq_true] at h
    obtain ⟨h1, h2, h3⟩ := ih h.2
    obtain ⟨k1, k2, k3⟩ := im_closed (o := o) h.1
    simp only [mapO, h1, h3, k1, k3, k2, h2, List.flatMap_cons, List.append_nil, and_self]
theorem back_frz {n : Nat} {l : List (Nat × Nat × Nat)} {r : List T} (h : r.all resT = true) (q : Nat) : backL n l [] q r = some (r.map frz, []) := by
  induction r generalizing q with
  | nil => rfl
  | cons t r ih =>
    simp only [List.all_cons, Bool.and_eq_true] at h
    have h1 := ih h.2 (q + 1)
    cases t <;> simp [resT] at h <;> simp [backL, backT, get, h1, frz]
theorem frz_closed {t : T} (h : resT t = true) : closedT (frz t) = true := by
  cases t <;> simp [resT] at h <;> simp [frz, closedT]

/-- a call with one row, back with one row -/
theorem call_row {n : Nat} {o : List (Nat × Ob)} {f : Nat} {r r' : List T} (hr : r.all closedT = true) (hr' : r'.all resT = true) (h : run M f [.a r] [] = some (.a r', [])) :
    doCall (run M) n o f [.a r] [] [] = some (.a (r'.map frz), []) := by
  obtain ⟨h1, h2, _⟩ := im_closedL (o := o) hr
  simp [doCall, args, lendsC, V.im, V.wr, h1, h2, h, lentBack, back, backV, back_frz hr']
theorem call_rows2 {n : Nat} {o : List (Nat × Ob)} {f : Nat} {r s : List T} {b : Bool} (hr : r.all closedT = true) (hs : s.all closedT = true) (h : run M f [.a r, .a s] [] = some (.c (.bool b), [])) :
    doCall (run M) n o f [.a r, .a s] [] [] = some (.c (.bool b), []) := by
  obtain ⟨h1, h2, _⟩ := im_closedL (o := o) hr
  obtain ⟨k1, k2, _⟩ := im_closedL (o := o) hs
  simp [doCall, args, lendsC, V.im, V.wr, h1, h2, k1, k2, h, lentBack, back, backV, backT]

theorem set_row {α : Type} (a : List α) (x : α) (b : List α) (n : Nat) (h : a.length = n) (y : α) : (a ++ x :: b).set n y = a ++ y :: b := by
  subst h; simp
theorem get_row {α : Type} (a : List α) (x : α) (b : List α) (n : Nat) (h : a.length = n) : (a ++ x :: b)[n]? = some x := by
  subst h; simp

/-! ## out := make([]X, len(a)); out[i] = toX(a[i]) -/
theorem keep_any (ks : List Nat) : keep ks ([] : List (Nat × Ob)) = [] := by
  induction ks with
  | nil => rfl
  | cons k ks ih => simp [keep_cons, get, ih]
def toSl (n f : Nat) : C := .seq (.seq (.reg [⟨some 8, .mv (.t 4), none⟩,
    ⟨some 9, .mv (.t 0), none⟩,
    ⟨some 10, .len (.t 9), none⟩,
    ⟨some 11, .bin .lss (.t 8) (.t 10), none⟩] [0, 3, 4, 11] [7])
  (.cond (.t 11) (.skip) (.exit 0)))
  (.seq (.block 1 (.reg [⟨some 14, .mv (.t 3), none⟩,
    ⟨some 15, .mv (.t 4), none⟩,
    ⟨some 16, .mv (.t 0), none⟩,
    ⟨some 17, .mv (.t 4), none⟩,
    ⟨some 18, .iaddr n (.t 16) (.t 17), none⟩,
    ⟨some 19, .load true n (.t 18), none⟩,
    ⟨some 20, .call f [.t 19] [] [], none⟩,
    ⟨some 21, .iaddr n (.t 14) (.t 15), none⟩,
    ⟨none, .store n (.t 21) (.t 20), none⟩] [0, 3, 4] [7]))
  (.reg [⟨some 12, .mv (.t 4), none⟩,
    ⟨some 13, .bin .add (.t 12) (.k (.int .i64 1)), none⟩,
    ⟨some 4, .mv (.t 13), none⟩] [0, 3, 4] [7]))
def toSb (n by' : Nat) (z : List T) (f : Nat) : C := .seq (.reg [⟨some 2, .nil n, none⟩] [0] [])
  (.seq (.reg [⟨some 5, .mv (.t 0), none⟩,
    ⟨some 6, .len (.t 5), none⟩,
    ⟨some 7, .mks n by' z (.t 6), none⟩,
    ⟨some 3, .mv (.t 7), none⟩] [0, 3] [7])
  (.seq (.seq (.reg [⟨some 4, .mv (.k (.int .i64 0)), none⟩] [0, 3, 4] [7])
  (.block 0 (.loop (toSl n f))))
  (.seq (.reg [⟨some 22, .mv (.t 3), none⟩,
    ⟨some 2, .mv (.t 22), none⟩] [2] [2, 7])
  (.ret))))
def toSm (n by' : Nat) (z : List T) (f : Nat) : Fn := { np := 1, body := toSb n by' z f, res := [.tmp 2] }
def toSst (n : Nat) (z : List T) (rows : List (List T)) (i : Nat) (x : Nat × Nat) : St :=
  { t := [(0, .c (.sl false n rows)), (3, .c (.row 7 x.1 0 rows.length)), (4, .c (I i))], o := [(7, ⟨x.1, n, true, false, rows.take i ++ List.replicate (rows.length - i) z⟩)], n := x.2 }
theorem toS_says {F n by' : Nat} {z : List T} {f : Nat} (h : M F = some (.code (toSm n by' z f))) (hz : z.length = n) {rows : List (List T)} (hl : rows.length ≤ 1048576) (hby : by' ≤ 4096) 
    (he : ∀ r ∈ rows, r.length = n ∧ r.all closedT = true ∧ ∃ r', run M f [.a r] [] = some (.a r', []) ∧ r'.all resT = true ∧ r'.map frz = r) :
    run M F [.c (.sl false n rows)] [] = some (.c (.sl true n rows), []) := by
  refine run_code (b := toSm n by' z f) h ⟨rows.length + 1, ?_⟩
  obtain ⟨g, hr⟩ := loop_all (f := exC (run M) (rows.length + 1) (toSl n f)) (toSst n z rows) (fun i => i ≤ rows.length) (fun i => rows.length - i) (fun _ => ())
    (fun _ (m : Nat × Nat) => (.exit 0, { t := [(0, .c (.sl false n rows)), (3, .c (.row 7 m.1 0 rows.length)), (4, .c (I rows.length)), (11, .c (.bool false))], o := [(7, ⟨m.1, n, true, false, rows⟩)], n := m.2 }))
    (by
      rintro i ⟨v, x⟩ hi
      by_cases hlt : i < rows.length
      · have e5 : IntKind.i64.wrap ((i : Int) + 1) = (i : Int) + 1 := wrap_i64 (by omega) (by omega)
        obtain ⟨k1, k2, r', k3, k4, k5⟩ := he rows[i] (List.getElem_mem hlt)
        have hc := fun nn => call_row (n := nn) (o := [(7, (⟨v, n, true, false, rows.take i ++ List.replicate (rows.length - i) z⟩ : Ob))]) k2 k4 k3
        rw [k5] at hc
        have hti : (rows.take i).length = i := by simp; omega
        have hrep : List.replicate (rows.length - i) z = z :: List.replicate (rows.length - (i + 1)) z := by
          rw [show rows.length - i = (rows.length - (i + 1)) + 1 by omega, List.replicate_succ]
        have h3 : (rows.take i ++ List.replicate (rows.length - i) z)[i]? = some z := by
          rw [hrep]; exact get_row _ _ _ _ hti
        have h3' : ∀ h, (rows.take i ++ List.replicate (rows.length - i) z)[i]'h = z := fun h => by rw [List.getElem?_eq_getElem h] at h3; exact Option.some.inj h3
        have h4 : (rows.take i ++ List.replicate (rows.length - i) z).set i rows[i] = rows.take (i + 1) ++ List.replicate (rows.length - (i + 1)) z := by
          rw [hrep, set_row _ _ _ _ hti, List.take_succ_eq_append_getElem hlt, List.append_assoc]; rfl
        have h5 : i < (rows.take i ++ List.replicate (rows.length - i) z).length := by simp; omega
        have h6 : (List.take n rows[i]) = rows[i] := List.take_of_length_le (by omega)
        have h7 : setAt z 0 rows[i] = rows[i] := by
          simp only [setAt, List.take_zero, List.nil_append, Nat.zero_add]
          rw [List.drop_eq_nil_of_le (by omega), List.append_nil]
        have h8 := (im_closedL (o := [(7, (⟨v, n, true, false, rows.take i ++ List.replicate (rows.length - i) z⟩ : Ob))]) k2).2.2
        have h9 : n ≤ z.length := by omega
        obtain ⟨y, hy⟩ : ∃ y, exC (run M) (rows.length + 1) (toSl n f) (toSst n z rows i (v, x)) = some (.normal, toSst n z rows (i + 1) y) := by
          simp only [Prod.exists]
          simp [toSst, toSl, hlt, e5, k1, hc, h3, h3', h4, h5, h6, h7, h8, h9, -doCall, -setAt]
        exact .inl ⟨i + 1, y, hy, hlt, by omega, rfl⟩
      · have : i = rows.length := by omega
        subst this
        exact .inr ⟨(v, x + 64), by simp [toSst, toSl], by simp⟩)
    (rows.length + 1) 0 (Nat.zero_le _) (by omega)
  have c1 : rows.length ≤ 4294967296 := by omega
  have c2 : by' * rows.length ≤ 140737488355328 := Nat.le_trans (Nat.mul_le_mul hby hl) (by decide)
  simp [toSst] at hr
  simp [exB, toSm, toSb, List.range_succ, hr, c1, c2, List.take_of_length_le]

/-! ## the same, with elements of one cell -/
def toS1l : C := .seq (.seq (.reg [⟨some 8, .mv (.t 4), none⟩,
    ⟨some 9, .mv (.t 0), none⟩,
    ⟨some 10, .len (.t 9), none⟩,
    ⟨some 11, .bin .lss (.t 8) (.t 10), none⟩] [0, 3, 4, 11] [7])
  (.cond (.t 11) (.skip) (.exit 0)))
  (.seq (.block 1 (.reg [⟨some 14, .mv (.t 3), none⟩,
    ⟨some 15, .mv (.t 4), none⟩,
    ⟨some 16, .mv (.t 0), none⟩,
    ⟨some 17, .mv (.t 4), none⟩,
    ⟨some 18, .iaddr 1 (.t 16) (.t 17), none⟩,
    ⟨some 19, .load false 1 (.t 18), none⟩,
    ⟨some 20, .iaddr 1 (.t 14) (.t 15), none⟩,
    ⟨none, .store 1 (.t 20) (.t 19), none⟩] [0, 3, 4] [7]))
  (.reg [⟨some 12, .mv (.t 4), none⟩,
    ⟨some 13, .bin .add (.t 12) (.k (.int .i64 1)), none⟩,
    ⟨some 4, .mv (.t 13), none⟩] [0, 3, 4] [7]))
def toS1b (by' : Nat) (z : T) : C := .seq (.reg [⟨some 2, .nil 1, none⟩] [0] [])
  (.seq (.reg [⟨some 5, .mv (.t 0), none⟩,
    ⟨some 6, .len (.t 5), none⟩,
    ⟨some 7, .mks 1 by' [z] (.t 6), none⟩,
    ⟨some 3, .mv (.t 7), none⟩] [0, 3] [7])
  (.seq (.seq (.reg [⟨some 4, .mv (.k (.int .i64 0)), none⟩] [0, 3, 4] [7])
  (.block 0 (.loop toS1l)))
  (.seq (.reg [⟨some 21, .mv (.t 3), none⟩,
    ⟨some 2, .mv (.t 21), none⟩] [2] [2, 7])
  (.ret))))
def toS1m (by' : Nat) (z : T) : Fn := { np := 1, body := toS1b by' z, res := [.tmp 2] }
theorem toS1_says {F by' : Nat} {z : T} (h : M F = some (.code (toS1m by' z))) {l : List T} (hl : l.length ≤ 1048576) (hby : by' ≤ 4096) (he : ∀ t ∈ l, closedT t = true) :
    run M F [.c (.sl false 1 (l.map fun t => [t]))] [] = some (.c (.sl true 1 (l.map fun t => [t])), []) := by
  refine run_code (b := toS1m by' z) h ⟨l.length + 1, ?_⟩
  obtain ⟨rows, hrows⟩ : ∃ rows, rows = l.map fun t => [t] := ⟨_, rfl⟩
  have hlen : rows.length = l.length := by rw [hrows]; simp
  rw [← hrows]
  obtain ⟨g, hr⟩ := loop_all (f := exC (run M) (l.length + 1) toS1l) (toSst 1 [z] rows) (fun i => i ≤ rows.length) (fun i => rows.length - i) (fun _ => ())
    (fun _ (m : Nat × Nat) => (.exit 0, { t := [(0, .c (.sl false 1 rows)), (3, .c (.row 7 m.1 0 rows.length)), (4, .c (I rows.length)), (11, .c (.bool false))], o := [(7, ⟨m.1, 1, true, false, rows⟩)], n := m.2 }))
    (by
      rintro i ⟨v, x⟩ hi
      by_cases hlt : i < rows.length
      · have e5 : IntKind.i64.wrap ((i : Int) + 1) = (i : Int) + 1 := wrap_i64 (by omega) (by omega)
        have hlt' : i < l.length := by omega
        have k0 : rows[i] = [l[i]] := by simp [hrows]
        have h8 := (im_closed (o := [(7, (⟨v, 1, true, false, rows.take i ++ List.replicate (rows.length - i) [z]⟩ : Ob))]) (he l[i] (List.getElem_mem hlt'))).2.2
        have hti : (rows.take i).length = i := by simp; omega
        have hrep : List.replicate (rows.length - i) [z] = [z] :: List.replicate (rows.length - (i + 1)) [z] := by
          rw [show rows.length - i = (rows.length - (i + 1)) + 1 by omega, List.replicate_succ]
        have h3 : (rows.take i ++ List.replicate (rows.length - i) [z])[i]? = some [z] := by
          rw [hrep]; exact get_row _ _ _ _ hti
        have h3' : ∀ h, (rows.take i ++ List.replicate (rows.length - i) [z])[i]'h = [z] := fun h => by rw [List.getElem?_eq_getElem h] at h3; exact Option.some.inj h3
        have h4 : (rows.take i ++ List.replicate (rows.length - i) [z]).set i [l[i]] = rows.take (i + 1) ++ List.replicate (rows.length - (i + 1)) [z] := by
          rw [hrep, set_row _ _ _ _ hti, List.take_succ_eq_append_getElem hlt, List.append_assoc, k0]; rfl
        have h5 : i < (rows.take i ++ List.replicate (rows.length - i) [z]).length := by simp; omega
        obtain ⟨y, hy⟩ : ∃ y, exC (run M) (l.length + 1) toS1l (toSst 1 [z] rows i (v, x)) = some (.normal, toSst 1 [z] rows (i + 1) y) := by
          simp only [Prod.exists]
          simp [toSst, toS1l, hlt, e5, k0, h3, h3', h4, h5, h8, setAt, -cl]
        exact .inl ⟨i + 1, y, hy, hlt, by omega, rfl⟩
      · have : i = rows.length := by omega
        subst this
        exact .inr ⟨(v, x + 64), by simp [toSst, toS1l], by simp⟩)
    (l.length + 1) 0 (Nat.zero_le _) (by omega)
  have c1 : rows.length ≤ 4294967296 := by omega
  have c2 : by' * rows.length ≤ 140737488355328 := Nat.le_trans (Nat.mul_le_mul hby (by omega : rows.length ≤ 1048576)) (by decide)
  simp [toSst] at hr
  simp [exB, toS1m, toS1b, List.range_succ, hr, c1, c2, List.take_of_length_le]

/-! ## one by one the same -/
def eqSl (n f : Nat) : C := .seq (.seq (.reg [⟨some 11, .mv (.t 5), none⟩,
    ⟨some 12, .mv (.t 0), none⟩,
    ⟨some 13, .len (.t 12), none⟩,
    ⟨some 14, .bin .lss (.t 11) (.t 13), none⟩] [0, 1, 5, 14] [])
  (.cond (.t 14) (.skip) (.exit 0)))
  (.seq (.block 1 (.seq (.regd [⟨some 17, .mv (.t 0), none⟩,
    ⟨some 18, .mv (.t 5), none⟩,
    ⟨some 19, .iaddr n (.t 17) (.t 18), none⟩,
    ⟨some 20, .load true n (.t 19), none⟩,
    ⟨some 21, .mv (.t 1), none⟩,
    ⟨some 22, .mv (.t 5), none⟩,
    ⟨some 23, .iaddr n (.t 21) (.t 22), none⟩,
    ⟨some 24, .load true n (.t 23), none⟩,
    ⟨some 25, .call f [.t 20, .t 24] [] [], none⟩,
    ⟨some 26, .not (.t 25), none⟩] [[], [], [0, 1], [0, 1, 2], [], [], [4, 5], [4, 5, 6], [0, 1, 2, 3, 4, 5, 6, 7], [0, 1, 2, 3, 4, 5, 6, 7, 8]] [0, 1, 5, 26] [])
  (.cond (.t 26) (.seq (.reg [⟨some 4, .mv (.k (.bool false)), none⟩] [4] [])
  (.ret)) (.skip))))
  (.reg [⟨some 15, .mv (.t 5), none⟩,
    ⟨some 16, .bin .add (.t 15) (.k (.int .i64 1)), none⟩,
    ⟨some 5, .mv (.t 16), none⟩] [0, 1, 5] []))
def eqSb (n f : Nat) : C := .seq (.reg [⟨some 4, .mv (.k (.bool false)), none⟩] [0, 1] [])
  (.seq (.seq (.reg [⟨some 6, .mv (.t 0), none⟩,
    ⟨some 7, .len (.t 6), none⟩,
    ⟨some 8, .mv (.t 1), none⟩,
    ⟨some 9, .len (.t 8), none⟩,
    ⟨some 10, .bin .neq (.t 7) (.t 9), none⟩] [0, 1, 10] [])
  (.cond (.t 10) (.seq (.reg [⟨some 4, .mv (.k (.bool false)), none⟩] [4] [])
  (.ret)) (.skip)))
  (.seq (.seq (.reg [⟨some 5, .mv (.k (.int .i64 0)), none⟩] [0, 1, 5] [])
  (.block 0 (.loop (eqSl n f))))
  (.seq (.reg [⟨some 4, .mv (.k (.bool true)), none⟩] [4] [])
  (.ret))))
def eqSm (n f : Nat) : Fn := { np := 2, body := eqSb n f, res := [.tmp 4] }
def eqSst (n : Nat) (rows : List (List T)) (i : Nat) (x : Nat) : St := { t := [(0, .c (.sl false n rows)), (1, .c (.sl false n rows)), (5, .c (I i))], o := [], n := x }
theorem eqS_says {F n f : Nat} (h : M F = some (.code (eqSm n f))) {rows : List (List T)} (hl : rows.length ≤ 4611686018427387904)
    (he : ∀ r ∈ rows, r.length = n ∧ r.all closedT = true ∧ run M f [.a r, .a r] [] = some (.c (.bool true), [])) :
    run M F [.c (.sl false n rows), .c (.sl false n rows)] [] = some (.c (.bool true), []) := by
  refine run_code (b := eqSm n f) h ⟨rows.length + 1, ?_⟩
  obtain ⟨g, hr⟩ := loop_all (f := exC (run M) (rows.length + 1) (eqSl n f)) (eqSst n rows) (fun i => i ≤ rows.length) (fun i => rows.length - i) (fun _ => ())
    (fun _ m => (.exit 0, { t := [(0, .c (.sl false n rows)), (1, .c (.sl false n rows)), (5, .c (I rows.length)), (14, .c (.bool false))], o := [], n := m }))
    (by
      intro i x hi
      by_cases hlt : i < rows.length
      · have e5 : IntKind.i64.wrap ((i : Int) + 1) = (i : Int) + 1 := wrap_i64 (by omega) (by omega)
        obtain ⟨k1, k2, k3⟩ := he rows[i] (List.getElem_mem hlt)
        have hc := fun nn => call_rows2 (n := nn) (o := []) k2 k2 k3
        have h6 : (List.take n rows[i]) = rows[i] := List.take_of_length_le (by omega)
        obtain ⟨y, hy⟩ : ∃ y, exC (run M) (rows.length + 1) (eqSl n f) (eqSst n rows i x) = some (.normal, eqSst n rows (i + 1) y) := by
          simp [eqSst, eqSl, hlt, e5, k1, hc, h6, keep_any, -doCall]
        exact .inl ⟨i + 1, y, hy, hlt, by omega, rfl⟩
      · have : i = rows.length := by omega
        subst this
        exact .inr ⟨x + 64, by simp [eqSst, eqSl], by simp⟩)
    (rows.length + 1) 0 (Nat.zero_le _) (by omega)
  simp [eqSst] at hr
  simp [exB, eqSm, eqSb, List.range_succ, hr]
end Mx

/-
  Numbers: what is laid over, held against, weighed, marked.
-/
namespace Mx
open Go
variable {M : Nat → Option Body}
def irow (l : List Int) : List (List T) := l.map fun n => [I n]
abbrev ints (l : List Int) : T := .sl false 1 (irow l)
theorem irow_len (l : List Int) : (irow l).length = l.length := by simp [irow]
theorem irow_at (l : List Int) (i : Nat) (h : i < (irow l).length) : (irow l)[i] = [I (l[i]'(by simpa [irow] using h))] := by simp [irow]
theorem irow_append (a b : List Int) : irow a ++ irow b = irow (a ++ b) := by simp [irow]
theorem irow_nil : irow [] = [] := rfl
theorem irow_take (l : List Int) (n : Nat) : (irow l).take n = irow (l.take n) := by simp [irow]
attribute [simp] irow_len irow_at irow_append irow_nil irow_take
/-- k, k+1, .. -/
def upto (k : Int) : Nat → List Int
  | 0 => []
  | n + 1 => upto k n ++ [k + n]
theorem upto_len (k : Int) (n : Nat) : (upto k n).length = n := by
  induction n with
  | zero => rfl
  | succ n ih => simp [upto, ih]
attribute [simp] upto_len
theorem upto_at (k : Int) (n i : Nat) (h : i < n) (h' : i < (upto k n).length) : (upto k n)[i] = k + i := by
  induction n with
  | zero => omega
  | succ n ih =>
    simp only [upto]
    by_cases e : i < n
    · rw [List.getElem_append_left (by simpa using e)]; exact ih e _
    · have : i = n := by omega
      subst this
      rw [List.getElem_append_right (by simp)]; simp

def eqI (l : List Int) (i : Nat) (x : Nat) : St := { t := [(0, .c (ints l)), (1, .c (ints l)), (5, .c (I i))], o := [], n := x }
theorem laws_eqIntS.says (h : laws_eqIntS.k M) (l : List Int) (hl : l.length ≤ 4611686018427387904) : run M 45 [.c (ints l), .c (ints l)] [] = some (.c (.bool true), []) := by
  refine run_code (b := laws_eqIntS.m) h ⟨l.length + 1, ?_⟩
  obtain ⟨g, hr⟩ := loop_all (f := exC (run M) (l.length + 1) laws_eqIntS.l0) (eqI l) (fun i => i ≤ l.length) (fun i => l.length - i) (fun _ => ())
    (fun _ m => (.exit 0, { t := [(0, .c (ints l)), (1, .c (ints l)), (5, .c (I l.length)), (14, .c (.bool false))], o := [], n := m }))
    (by
      intro i x hi
      by_cases hlt : i < l.length
      · have e5 : IntKind.i64.wrap ((i : Int) + 1) = (i : Int) + 1 := wrap_i64 (by omega) (by omega)
        obtain ⟨y, hy⟩ : ∃ y, exC (run M) (l.length + 1) laws_eqIntS.l0 (eqI l i x) = some (.normal, eqI l (i + 1) y) := by simp [eqI, laws_eqIntS.l0, hlt, e5]
        exact .inl ⟨i + 1, y, hy, hlt, by omega, rfl⟩
      · have : i = l.length := by omega
        subst this
        exact .inr ⟨x + 64, by simp [eqI, laws_eqIntS.l0], by simp⟩)
    (l.length + 1) 0 (Nat.zero_le _) (by omega)
  simp [eqI] at hr
  simp [exB, laws_eqIntS.m, laws_eqIntS.b, List.range_succ, hr]

theorem set_mid {α : Type} (a : List α) (x : α) (b : List α) (n : Nat) (h : a.length = n) (y : α) : (a ++ x :: b).set n y = a ++ y :: b := by
  subst h; simp
theorem at_mid {α : Type} (a : List α) (x : α) (b : List α) (n : Nat) (h : a.length = n) : (a ++ x :: b)[n]? = some x := by
  subst h; simp
def mkI (k : Int) (l : List Int) (i : Nat) (x : Nat) : St := { t := [(0, .c (.row 0 0 0 l.length)), (1, .c (I (k + i))), (5, .c (I i))], o := [(0, ⟨0, 1, true, false, irow (upto k i ++ l.drop i)⟩)], n := x }
theorem laws_markIntS.says (h : laws_markIntS.k M) (l : List Int) (k : Int) (hk : -9223372036854775808 ≤ k) (hl : k + l.length ≤ 9223372036854775807) (hl2 : l.length ≤ 4611686018427387904) :
    run M 46 [.c (.row 0 0 0 l.length), .c (I k)] [(0, ⟨0, 1, true, false, irow l⟩)] = some (.c (I (k + l.length)), [(0, ⟨0, 1, true, false, irow (upto k l.length)⟩)]) := by
  refine run_code (b := laws_markIntS.m) h ⟨l.length + 1, ?_⟩
  obtain ⟨g, hr⟩ := loop_all (f := exC (run M) (l.length + 1) laws_markIntS.l0) (mkI k l) (fun i => i ≤ l.length) (fun i => l.length - i) (fun _ => ())
    (fun _ m => (.exit 0, { t := [(0, .c (.row 0 0 0 l.length)), (1, .c (I (k + l.length))), (5, .c (I l.length)), (9, .c (.bool false))], o := [(0, ⟨0, 1, true, false, irow (upto k l.length)⟩)], n := m }))
    (by
      intro i x hi
      by_cases hlt : i < l.length
      · have e5 : IntKind.i64.wrap ((i : Int) + 1) = (i : Int) + 1 := wrap_i64 (by omega) (by omega)
        have e6 : IntKind.i64.wrap (k + (i : Int) + 1) = k + (i : Int) + 1 := wrap_i64 (by omega) (by omega)
        have e7 : k + ((i : Int) + 1) = k + (i : Int) + 1 := by omega
        have e8 : i + (l.length - i) = l.length := by omega
        have hd := List.drop_eq_getElem_cons hlt
        have h3 : (irow (upto k i ++ l.drop i))[i]? = some [I l[i]] := by
          rw [hd]; simp only [irow, List.map_append, List.map_cons]; exact at_mid _ _ _ _ (by simp)
        have h3' : ∀ h, (irow (upto k i ++ l.drop i))[i]'h = [I l[i]] := fun h => by rw [List.getElem?_eq_getElem h] at h3; exact Option.some.inj h3
        have h4 : (irow (upto k i ++ l.drop i)).set i [I (k + i)] = irow (upto k (i + 1) ++ l.drop (i + 1)) := by
          rw [hd]; simp only [irow, List.map_append, List.map_cons, upto, List.append_assoc, List.cons_append, List.nil_append, List.map_nil]; exact set_mid _ _ _ _ (by simp) _
        obtain ⟨y, hy⟩ : ∃ y, exC (run M) (l.length + 1) laws_markIntS.l0 (mkI k l i x) = some (.normal, mkI k l (i + 1) y) := by
          simp [mkI, laws_markIntS.l0, hlt, e5, e6, e7, e8, h3', h4, setAt, -irow_at]
        exact .inl ⟨i + 1, y, hy, hlt, by omega, rfl⟩
      · have : i = l.length := by omega
        subst this
        exact .inr ⟨x + 64, by simp [mkI, laws_markIntS.l0], by simp⟩)
    (l.length + 1) 0 (Nat.zero_le _) (by omega)
  simp [mkI, upto] at hr
  simp [exB, laws_markIntS.m, laws_markIntS.b, List.range_succ, hr]

def heI (k : Int) (n : Nat) (i : Nat) (x : Nat) : St := { t := [(0, .c (ints (upto k n))), (1, .c (I (k + i))), (5, .c (I i))], o := [], n := x }
theorem laws_heldIntS.says (h : laws_heldIntS.k M) (n : Nat) (k : Int) (hk : -9223372036854775808 ≤ k) (hl : k + n ≤ 9223372036854775807) (hl2 : n ≤ 4611686018427387904) :
    run M 47 [.c (ints (upto k n)), .c (I k)] [] = some (.c (I (k + n)), []) := by
  refine run_code (b := laws_heldIntS.m) h ⟨n + 1, ?_⟩
  obtain ⟨g, hr⟩ := loop_all (f := exC (run M) (n + 1) laws_heldIntS.l0) (heI k n) (fun i => i ≤ n) (fun i => n - i) (fun _ => ())
    (fun _ m => (.exit 0, { t := [(0, .c (ints (upto k n))), (1, .c (I (k + n))), (5, .c (I n)), (9, .c (.bool false))], o := [], n := m }))
    (by
      intro i x hi
      by_cases hlt : i < n
      · have e5 : IntKind.i64.wrap ((i : Int) + 1) = (i : Int) + 1 := wrap_i64 (by omega) (by omega)
        have e6 : IntKind.i64.wrap (k + (i : Int) + 1) = k + (i : Int) + 1 := wrap_i64 (by omega) (by omega)
        have e7 : k + ((i : Int) + 1) = k + (i : Int) + 1 := by omega
        have e8 := upto_at k n i hlt (by simpa using hlt)
        obtain ⟨y, hy⟩ : ∃ y, exC (run M) (n + 1) laws_heldIntS.l0 (heI k n i x) = some (.normal, heI k n (i + 1) y) := by
          simp [heI, laws_heldIntS.l0, hlt, e5, e6, e7, e8]
        exact .inl ⟨i + 1, y, hy, hlt, by omega, rfl⟩
      · have : i = n := by omega
        subst this
        exact .inr ⟨x + 64, by simp [heI, laws_heldIntS.l0], by simp⟩)
    (n + 1) 0 (Nat.zero_le _) (by omega)
  simp [heI] at hr
  simp [exB, laws_heldIntS.m, laws_heldIntS.b, List.range_succ, hr]
theorem irow_flat (l : List Int) : (irow l).all (fun r => r.all T.scalar) = true := by
  simp only [irow, List.all_map, List.all_eq_true]
  intro n _; rfl
attribute [simp] irow_flat

theorem laws_toIntS.says (h : laws_toIntS.k M) (l : List Int) (hl : l.length ≤ 1048576) : run M 42 [.c (ints l)] [] = some (.c (.sl true 1 (irow l)), []) := by
  have := toS1_says (M := M) (F := 42) (by' := 8) (z := .int .i64 0) h (l := l.map I) (by simpa using hl) (by omega) (fun t ht => by obtain ⟨n, _, rfl⟩ := List.mem_map.1 ht; rfl)
  rw [List.map_map] at this
  exact this
theorem laws_szIntS.says (h : laws_szIntS.k M) (l : List Int) (hl : l.length ≤ 9223372036854775807) (n : Int) (hn : 0 ≤ n) (hn' : n ≤ 9223372036854775807) : run M 108 [.c (ints l), .c (I n)] [] = some (.c (I (if n < l.length then -1 else n - l.length)), []) := by
  refine run_code (b := laws_szIntS.m) h ⟨0, ?_⟩
  have e5 : IntKind.i64.wrap (n - (l.length : Int)) = n - (l.length : Int) := wrap_i64 (by omega) (by omega)
  by_cases hc : n < l.length
  · have h1 : n - (l.length : Int) < 0 := by omega
    simp [exB, laws_szIntS.m, laws_szIntS.b, List.range_succ, e5, h1, hc]
  · have h1 : ¬ n - (l.length : Int) < 0 := by omega
    simp [exB, laws_szIntS.m, laws_szIntS.b, List.range_succ, e5, h1, hc]
end Mx

/-
  Small codes: impl.copyInts.
-/
namespace Mx
open Go
def impl_copyInts.b : C := .seq (.reg [⟨some 2, .nil 1, none⟩] [0] [])
  (.seq (.reg [⟨some 3, .bslice 1 0 [.int .i64 0] [], none⟩,
    ⟨some 4, .mv (.t 0), none⟩,
    ⟨some 5, .app 1 8 (.t 3) (.t 4), none⟩,
    ⟨some 2, .mv (.t 5), none⟩] [2] [2, 3, 5])
  (.ret))
def impl_copyInts.m : Fn := { np := 1, body := impl_copyInts.b, res := [.tmp 2] }
def impl_copyInts.k (M : Nat → Option Body) : Prop := M 134 = some (.code impl_copyInts.m)
end Mx

/-
  What copyInts answers.
-/
namespace Mx
open Go
variable {M : Nat → Option Body}
theorem impl_copyInts.says (h : impl_copyInts.k M) (l : List Int) (hx : l.length ≤ 1048576) : run M 134 [.c (ints l)] [] = some (.c (.sl true 1 (irow l)), []) := by
  have h1 : l.length ≤ 4294967296 := by omega
  refine run_code (b := impl_copyInts.m) h ⟨0, ?_⟩
  simp [exB, impl_copyInts.m, impl_copyInts.b, List.range_succ, List.take_of_length_le, h1]
end Mx

/-
  Small codes: impl.within, spec.l01In.
-/
namespace Mx
open Go
def impl_within.b : C := .seq (.reg [⟨some 6, .mv (.k (.bool false)), none⟩] [0, 1, 2] [])
  (.seq (.reg [⟨some 7, .mv (.t 0), none⟩,
    ⟨some 8, .mv (.t 1), none⟩,
    ⟨some 9, .bin .geq (.t 7) (.t 8), none⟩,
    ⟨some 10, .mv (.t 9), none⟩,
    ⟨some 11, .mv (.t 0), some (10, true)⟩,
    ⟨some 12, .mv (.t 2), some (10, true)⟩,
    ⟨some 13, .bin .leq (.t 11) (.t 12), some (10, true)⟩,
    ⟨some 14, .pick (.t 10) (.t 13) (.k (.bool false)), none⟩,
    ⟨some 6, .mv (.t 14), none⟩] [6] [])
  (.ret))
def impl_within.m : Fn := { np := 3, body := impl_within.b, res := [.tmp 6] }
def impl_within.k (M : Nat → Option Body) : Prop := M 101 = some (.code impl_within.m)
def spec_l01In.b : C := .seq (.reg [⟨some 6, .mv (.k (.bool false)), none⟩] [0, 1, 2] [])
  (.seq (.reg [⟨some 7, .mv (.t 0), none⟩,
    ⟨some 8, .mv (.t 1), none⟩,
    ⟨some 9, .bin .geq (.t 7) (.t 8), none⟩,
    ⟨some 10, .mv (.t 9), none⟩,
    ⟨some 11, .mv (.t 0), some (10, true)⟩,
    ⟨some 12, .mv (.t 2), some (10, true)⟩,
    ⟨some 13, .bin .leq (.t 11) (.t 12), some (10, true)⟩,
    ⟨some 14, .pick (.t 10) (.t 13) (.k (.bool false)), none⟩,
    ⟨some 6, .mv (.t 14), none⟩] [6] [])
  (.ret))
def spec_l01In.m : Fn := { np := 3, body := spec_l01In.b, res := [.tmp 6] }
def spec_l01In.k (M : Nat → Option Body) : Prop := M 98 = some (.code spec_l01In.m)
end Mx

/-
  What within answers.
-/
namespace Mx
open Go
variable {M : Nat → Option Body}
theorem impl_within.says (h : impl_within.k M) (n a b : Int) : run M 101 [.c (I n), .c (I a), .c (I b)] [] = some (.c (.bool (decide (a ≤ n) && decide (n ≤ b))), []) := by
  refine run_code (b := impl_within.m) h ⟨0, ?_⟩
  by_cases h : a ≤ n
  · have h' : n ≥ a := h
    simp [exB, impl_within.m, impl_within.b, List.range_succ, h]
  · have h' : ¬ n ≥ a := h
    simp [exB, impl_within.m, impl_within.b, List.range_succ, h]
theorem spec_l01In.says (h : spec_l01In.k M) (n a b : Int) : run M 98 [.c (I n), .c (I a), .c (I b)] [] = some (.c (.bool (decide (a ≤ n) && decide (n ≤ b))), []) := by
  refine run_code (b := spec_l01In.m) h ⟨0, ?_⟩
  by_cases h : a ≤ n
  · have h' : n ≥ a := h
    simp [exB, spec_l01In.m, spec_l01In.b, List.range_succ, h]
  · have h' : ¬ n ≥ a := h
    simp [exB, spec_l01In.m, spec_l01In.b, List.range_succ, h]
end Mx

/-
  Numbers bit by bit.
-/
namespace Mx
open Go
theorem wrap_u8 (x : Int) : IntKind.u8.wrap x = x % 256 := by
  unfold IntKind.wrap; simp [IntKind.bits, IntKind.signed]
theorem wrap_u32 (x : Int) : IntKind.u32.wrap x = x % 4294967296 := by
  unfold IntKind.wrap; simp [IntKind.bits, IntKind.signed]

theorem andI_eq (k : IntKind) (x y : Int) : andI k x y = k.wrap (((x % ((2 ^ k.bits : Nat) : Int)).toNat &&& (y % ((2 ^ k.bits : Nat) : Int)).toNat : Nat) : Int) := by
  unfold andI; rw [BitVec.toNat_and, BitVec.toNat_ofInt, BitVec.toNat_ofInt]
theorem orI_eq (k : IntKind) (x y : Int) : orI k x y = k.wrap (((x % ((2 ^ k.bits : Nat) : Int)).toNat ||| (y % ((2 ^ k.bits : Nat) : Int)).toNat : Nat) : Int) := by
  unfold orI; rw [BitVec.toNat_or, BitVec.toNat_ofInt, BitVec.toNat_ofInt]
theorem and_i64 (n m : Nat) (hn : n < 9223372036854775808) (hm : m < 9223372036854775808) : andI .i64 n m = ((n &&& m : Nat) : Int) := by
  rw [andI_eq]
  have e : ∀ k : Nat, k < 9223372036854775808 → ((k : Int) % ((2 ^ IntKind.i64.bits : Nat) : Int)).toNat = k := by
    intro k hk
    show ((k : Int) % 18446744073709551616).toNat = k
    omega
  rw [e n hn, e m hm]
  have : n &&& m ≤ n := Nat.and_le_left
  exact wrap_i64 (by omega) (by omega)
theorem or_i64 (n m : Nat) (hn : n < 9223372036854775808) (hm : m < 9223372036854775808) : orI .i64 n m = ((n ||| m : Nat) : Int) := by
  rw [orI_eq]
  have e : ∀ k : Nat, k < 9223372036854775808 → ((k : Int) % ((2 ^ IntKind.i64.bits : Nat) : Int)).toNat = k := by
    intro k hk
    show ((k : Int) % 18446744073709551616).toNat = k
    omega
  rw [e n hn, e m hm]
  have : n ||| m < 2 ^ 63 := Nat.or_lt_two_pow (by omega) (by omega)
  exact wrap_i64 (by omega) (by omega)
theorem and_u8 (n m : Nat) (hn : n < 256) (hm : m < 256) : andI .u8 n m = ((n &&& m : Nat) : Int) := by
  rw [andI_eq]
  have e : ∀ k : Nat, k < 256 → ((k : Int) % ((2 ^ IntKind.u8.bits : Nat) : Int)).toNat = k := by
    intro k hk
    show ((k : Int) % 256).toNat = k
    omega
  rw [e n hn, e m hm, wrap_u8]
  have : n &&& m ≤ n := Nat.and_le_left
  omega
theorem and_127 (n : Nat) : n &&& 127 = n % 128 := Nat.and_two_pow_sub_one_eq_mod n 7
theorem or_128 (n : Nat) (h : n < 128) : n ||| 128 = n + 128 := by
  have := Nat.two_pow_add_eq_or_of_lt (i := 7) (b := n) h 1
  rw [Nat.or_comm]
  have e : 2 ^ 7 * 1 = 128 := by decide
  rw [e] at this
  omega
/-- digits above stand for themselves -/
theorem or_high (n d k : Nat) (h : n < 128 ^ k) : n ||| d * 128 ^ k = n + d * 128 ^ k := by
  have e : (128 : Nat) ^ k = 2 ^ (7 * k) := by rw [show (128 : Nat) = 2 ^ 7 by decide, ← Nat.pow_mul]
  rw [e] at h ⊢
  have := Nat.two_pow_add_eq_or_of_lt (i := 7 * k) (b := n) h d
  rw [Nat.or_comm, Nat.mul_comm d, ← this, Nat.add_comm]
theorem brow_nil : brow [] = [] := rfl
theorem brow1 (b : UInt8) : [[T.int .u8 (b.toNat : Int)]] = brow [b] := rfl
theorem ofNat_toNat (n : Nat) : ((UInt8.ofNat n).toNat : Int) = (n : Int) % 256 := by simp
attribute [simp] brow_nil
end Mx

/-
  Small codes: spec.l01Var, impl.VarText, impl.ShortText, spec.ReadVar, impl.ReadVar, spec.ReadShort, impl.ReadShort, impl.short, impl.vars.
-/
namespace Mx
open Go
def spec_l01Var.l0 : C := .seq (.seq (.reg [⟨some 5, .mv (.t 0), none⟩,
    ⟨some 6, .bin .gtr (.t 5) (.k (.int .i64 127)), none⟩] [0, 3, 6] [4, 13])
  (.cond (.t 6) (.skip) (.exit 0)))
  (.block 1 (.seq (.reg [⟨some 7, .mv (.t 3), none⟩,
    ⟨some 8, .mv (.t 0), none⟩,
    ⟨some 9, .bin .rem (.t 8) (.k (.int .i64 128)), none⟩,
    ⟨some 10, .bin .add (.t 9) (.k (.int .i64 128)), none⟩,
    ⟨some 11, .i2i .u8 (.t 10), none⟩,
    ⟨some 12, .bslice 1 1 [.int .u8 0] [(0, .t 11)], none⟩,
    ⟨some 13, .app 1 1 (.t 7) (.t 12), none⟩,
    ⟨some 3, .mv (.t 13), none⟩] [0, 3] [4, 13])
  (.reg [⟨some 14, .mv (.t 0), none⟩,
    ⟨some 15, .bin .quo (.t 14) (.k (.int .i64 128)), none⟩,
    ⟨some 0, .mv (.t 15), none⟩] [0, 3] [4, 13])))
def spec_l01Var.b : C := .seq (.reg [⟨some 2, .mv (.k (.str ⟨#[]⟩)), none⟩] [0] [])
  (.seq (.reg [⟨some 4, .bslice 1 0 [.int .u8 0] [], none⟩,
    ⟨some 3, .mv (.t 4), none⟩] [0, 3] [4, 13])
  (.seq (.block 0 (.loop spec_l01Var.l0))
  (.seq (.reg [⟨some 16, .mv (.t 3), none⟩,
    ⟨some 17, .mv (.t 0), none⟩,
    ⟨some 18, .i2i .u8 (.t 17), none⟩,
    ⟨some 19, .bslice 1 1 [.int .u8 0] [(0, .t 18)], none⟩,
    ⟨some 20, .app 1 1 (.t 16) (.t 19), none⟩,
    ⟨some 21, .b2s (.t 20), none⟩,
    ⟨some 2, .mv (.t 21), none⟩] [2] [])
  (.ret))))
def spec_l01Var.m : Fn := { np := 1, body := spec_l01Var.b, res := [.tmp 2] }
def spec_l01Var.k (M : Nat → Option Body) : Prop := M 99 = some (.code spec_l01Var.m)
def impl_VarText.l0 : C := .seq (.seq (.reg [⟨some 9, .mv (.t 0), none⟩,
    ⟨some 10, .bin .gtr (.t 9) (.k (.int .i64 127)), none⟩] [0, 4, 10] [8, 17])
  (.cond (.t 10) (.skip) (.exit 0)))
  (.block 1 (.seq (.reg [⟨some 11, .mv (.t 4), none⟩,
    ⟨some 12, .mv (.t 0), none⟩,
    ⟨some 13, .bin .and (.t 12) (.k (.int .i64 127)), none⟩,
    ⟨some 14, .bin .or (.t 13) (.k (.int .i64 128)), none⟩,
    ⟨some 15, .i2i .u8 (.t 14), none⟩,
    ⟨some 16, .bslice 1 1 [.int .u8 0] [(0, .t 15)], none⟩,
    ⟨some 17, .app 1 1 (.t 11) (.t 16), none⟩,
    ⟨some 4, .mv (.t 17), none⟩] [0, 4] [8, 17])
  (.reg [⟨some 18, .mv (.t 0), none⟩,
    ⟨some 19, .bin .shr (.t 18) (.k (.int .u64 7)), none⟩,
    ⟨some 0, .mv (.t 19), none⟩] [0, 4] [8, 17])))
def impl_VarText.b : C := .seq (.reg [⟨some 2, .mv (.k (.str ⟨#[]⟩)), none⟩,
    ⟨some 3, .mv (.k (.bool false)), none⟩] [0] [])
  (.seq (.seq (.reg [⟨some 5, .mv (.t 0), none⟩,
    ⟨some 6, .call 101 [.t 5, .k (.int .i64 0), .k (.int .i64 1000000000)] [] [], none⟩,
    ⟨some 7, .not (.t 6), none⟩] [0, 7] [])
  (.cond (.t 7) (.seq (.reg [⟨some 2, .mv (.k (.str ⟨#[]⟩)), none⟩,
    ⟨some 3, .mv (.k (.bool false)), none⟩] [2, 3] [])
  (.ret)) (.skip)))
  (.seq (.reg [⟨some 8, .bslice 1 0 [.int .u8 0] [], none⟩,
    ⟨some 4, .mv (.t 8), none⟩] [0, 4] [8, 17])
  (.seq (.block 0 (.loop impl_VarText.l0))
  (.seq (.reg [⟨some 20, .mv (.t 4), none⟩,
    ⟨some 21, .mv (.t 0), none⟩,
    ⟨some 22, .i2i .u8 (.t 21), none⟩,
    ⟨some 23, .bslice 1 1 [.int .u8 0] [(0, .t 22)], none⟩,
    ⟨some 24, .app 1 1 (.t 20) (.t 23), none⟩,
    ⟨some 25, .b2s (.t 24), none⟩,
    ⟨some 2, .mv (.t 25), none⟩,
    ⟨some 3, .mv (.k (.bool true)), none⟩] [2, 3] [])
  (.ret)))))
def impl_VarText.m : Fn := { np := 1, body := impl_VarText.b, res := [.tmp 2, .tmp 3] }
def impl_VarText.k (M : Nat → Option Body) : Prop := M 230 = some (.code impl_VarText.m) ∧ impl_within.k M
def impl_ShortText.b : C := .seq (.reg [⟨some 2, .mv (.k (.str ⟨#[]⟩)), none⟩,
    ⟨some 3, .mv (.k (.bool false)), none⟩] [0] [])
  (.seq (.seq (.reg [⟨some 6, .mv (.t 0), none⟩,
    ⟨some 7, .slen (.t 6), none⟩,
    ⟨some 8, .bin .gtr (.t 7) (.k (.int .i64 20000)), none⟩] [0, 8] [])
  (.cond (.t 8) (.seq (.reg [⟨some 2, .mv (.k (.str ⟨#[]⟩)), none⟩,
    ⟨some 3, .mv (.k (.bool false)), none⟩] [2, 3] [])
  (.ret)) (.skip)))
  (.seq (.reg [⟨some 10, .mv (.t 0), none⟩,
    ⟨some 11, .slen (.t 10), none⟩,
    ⟨some 12, .call 230 [.t 11] [] [], none⟩,
    ⟨some 9, .mv (.t 12), none⟩,
    ⟨some 13, .ext 0 (.t 9), none⟩,
    ⟨some 14, .ext 1 (.t 9), none⟩,
    ⟨some 4, .mv (.t 13), none⟩,
    ⟨some 5, .mv (.t 14), none⟩] [0, 4] [])
  (.seq (.reg [⟨some 15, .mv (.t 4), none⟩,
    ⟨some 16, .mv (.t 0), none⟩,
    ⟨some 17, .bin .add (.t 15) (.t 16), none⟩,
    ⟨some 2, .mv (.t 17), none⟩,
    ⟨some 3, .mv (.k (.bool true)), none⟩] [2, 3] [])
  (.ret))))
def impl_ShortText.m : Fn := { np := 1, body := impl_ShortText.b, res := [.tmp 2, .tmp 3] }
def impl_ShortText.k (M : Nat → Option Body) : Prop := M 205 = some (.code impl_ShortText.m) ∧ impl_VarText.k M
def spec_ReadVar.l0 : C := .seq (.seq (.reg [⟨some 16, .mv (.t 9), none⟩,
    ⟨some 17, .mv (.t 0), none⟩,
    ⟨some 18, .slen (.t 17), none⟩,
    ⟨some 19, .bin .lss (.t 16) (.t 18), none⟩,
    ⟨some 20, .mv (.t 19), none⟩,
    ⟨some 21, .mv (.t 9), some (20, true)⟩,
    ⟨some 22, .mv (.t 1), some (20, true)⟩,
    ⟨some 23, .bin .add (.t 22) (.k (.int .i64 5)), some (20, true)⟩,
    ⟨some 24, .bin .lss (.t 21) (.t 23), some (20, true)⟩,
    ⟨some 25, .pick (.t 20) (.t 24) (.k (.bool false)), none⟩] [0, 1, 7, 8, 9, 25] [])
  (.cond (.t 25) (.skip) (.exit 0)))
  (.seq (.block 1 (.seq (.reg [⟨some 28, .mv (.t 7), none⟩,
    ⟨some 29, .mv (.t 0), none⟩,
    ⟨some 30, .mv (.t 9), none⟩,
    ⟨some 31, .idx (.t 29) (.t 30), none⟩,
    ⟨some 32, .i2i .i64 (.t 31), none⟩,
    ⟨some 33, .bin .rem (.t 32) (.k (.int .i64 128)), none⟩,
    ⟨some 34, .mv (.t 8), none⟩,
    ⟨some 35, .bin .mul (.t 33) (.t 34), none⟩,
    ⟨some 36, .bin .add (.t 28) (.t 35), none⟩,
    ⟨some 7, .mv (.t 36), none⟩] [0, 1, 7, 8, 9] [])
  (.seq (.reg [⟨some 37, .mv (.t 8), none⟩,
    ⟨some 38, .bin .mul (.t 37) (.k (.int .i64 128)), none⟩,
    ⟨some 8, .mv (.t 38), none⟩] [0, 1, 7, 8, 9] [])
  (.seq (.reg [⟨some 39, .mv (.t 0), none⟩,
    ⟨some 40, .mv (.t 9), none⟩,
    ⟨some 41, .idx (.t 39) (.t 40), none⟩,
    ⟨some 42, .bin .lss (.t 41) (.k (.int .u8 128)), none⟩] [0, 1, 7, 8, 9, 42] [])
  (.cond (.t 42) (.seq (.seq (.regd [⟨some 43, .mv (.t 7), none⟩,
    ⟨some 44, .bin .gtr (.t 43) (.k (.int .i64 1000000000)), none⟩,
    ⟨some 45, .mv (.t 44), none⟩,
    ⟨some 46, .mv (.t 7), some (45, false)⟩,
    ⟨some 47, .call 99 [.t 46] [] [], some (45, false)⟩,
    ⟨some 48, .mv (.t 0), some (45, false)⟩,
    ⟨some 49, .mv (.t 1), some (45, false)⟩,
    ⟨some 50, .mv (.t 9), some (45, false)⟩,
    ⟨some 51, .bin .add (.t 50) (.k (.int .i64 1)), some (45, false)⟩,
    ⟨some 52, .sstr (.t 48) (some (.t 49)) (some (.t 51)), some (45, false)⟩,
    ⟨some 53, .bin .neq (.t 47) (.t 52), some (45, false)⟩,
    ⟨some 54, .pick (.t 45) (.k (.bool true)) (.t 53), none⟩] [[], [0], [0, 1], [0, 1, 2], [0, 1, 2, 3], [0, 1, 2], [0, 1, 2], [0, 1, 2], [0, 1, 2, 7], [0, 1, 2, 5, 6, 7, 8], [0, 1, 2, 3, 4, 5, 6, 7, 8, 9], [0, 1, 2, 3, 4, 5, 6, 7, 8, 9, 10]] [7, 9, 54] [])
  (.cond (.t 54) (.seq (.reg [⟨some 4, .mv (.k (.int .i64 0)), none⟩,
    ⟨some 5, .mv (.k (.int .i64 0)), none⟩,
    ⟨some 6, .mv (.k (.bool false)), none⟩] [4, 5, 6] [])
  (.ret)) (.skip)))
  (.seq (.reg [⟨some 55, .mv (.t 7), none⟩,
    ⟨some 56, .mv (.t 9), none⟩,
    ⟨some 57, .bin .add (.t 56) (.k (.int .i64 1)), none⟩,
    ⟨some 4, .mv (.t 55), none⟩,
    ⟨some 5, .mv (.t 57), none⟩,
    ⟨some 6, .mv (.k (.bool true)), none⟩] [4, 5, 6] [])
  (.ret))) (.skip))))))
  (.reg [⟨some 26, .mv (.t 9), none⟩,
    ⟨some 27, .bin .add (.t 26) (.k (.int .i64 1)), none⟩,
    ⟨some 9, .mv (.t 27), none⟩] [0, 1, 7, 8, 9] []))
def spec_ReadVar.b : C := .seq (.reg [⟨some 4, .mv (.k (.int .i64 0)), none⟩,
    ⟨some 5, .mv (.k (.int .i64 0)), none⟩,
    ⟨some 6, .mv (.k (.bool false)), none⟩] [0, 1] [])
  (.seq (.seq (.reg [⟨some 10, .mv (.t 1), none⟩,
    ⟨some 11, .mv (.t 0), none⟩,
    ⟨some 12, .slen (.t 11), none⟩,
    ⟨some 13, .call 98 [.t 10, .k (.int .i64 0), .t 12] [] [], none⟩,
    ⟨some 14, .not (.t 13), none⟩] [0, 1, 14] [])
  (.cond (.t 14) (.seq (.reg [⟨some 4, .mv (.k (.int .i64 0)), none⟩,
    ⟨some 5, .mv (.k (.int .i64 0)), none⟩,
    ⟨some 6, .mv (.k (.bool false)), none⟩] [4, 5, 6] [])
  (.ret)) (.skip)))
  (.seq (.reg [⟨some 7, .mv (.k (.int .i64 0)), none⟩] [0, 1, 7] [])
  (.seq (.reg [⟨some 8, .mv (.k (.int .i64 1)), none⟩] [0, 1, 7, 8] [])
  (.seq (.seq (.reg [⟨some 15, .mv (.t 1), none⟩,
    ⟨some 9, .mv (.t 15), none⟩] [0, 1, 7, 8, 9] [])
  (.block 0 (.loop spec_ReadVar.l0)))
  (.seq (.reg [⟨some 4, .mv (.k (.int .i64 0)), none⟩,
    ⟨some 5, .mv (.k (.int .i64 0)), none⟩,
    ⟨some 6, .mv (.k (.bool false)), none⟩] [4, 5, 6] [])
  (.ret))))))
def spec_ReadVar.m : Fn := { np := 2, body := spec_ReadVar.b, res := [.tmp 4, .tmp 5, .tmp 6] }
def spec_ReadVar.k (M : Nat → Option Body) : Prop := M 221 = some (.code spec_ReadVar.m) ∧ spec_l01In.k M ∧ spec_l01Var.k M
def impl_ReadVar.l0 : C := .seq (.seq (.reg [⟨some 16, .mv (.t 8), none⟩,
    ⟨some 17, .bin .lss (.t 16) (.k (.int .i64 5)), none⟩,
    ⟨some 18, .mv (.t 17), none⟩,
    ⟨some 19, .mv (.t 1), some (18, true)⟩,
    ⟨some 20, .mv (.t 8), some (18, true)⟩,
    ⟨some 21, .bin .add (.t 19) (.t 20), some (18, true)⟩,
    ⟨some 22, .mv (.t 0), some (18, true)⟩,
    ⟨some 23, .slen (.t 22), some (18, true)⟩,
    ⟨some 24, .bin .lss (.t 21) (.t 23), some (18, true)⟩,
    ⟨some 25, .pick (.t 18) (.t 24) (.k (.bool false)), none⟩] [0, 1, 7, 8, 25] [])
  (.cond (.t 25) (.skip) (.exit 0)))
  (.seq (.block 1 (.seq (.reg [⟨some 28, .mv (.t 7), none⟩,
    ⟨some 29, .mv (.t 0), none⟩,
    ⟨some 30, .mv (.t 1), none⟩,
    ⟨some 31, .mv (.t 8), none⟩,
    ⟨some 32, .bin .add (.t 30) (.t 31), none⟩,
    ⟨some 33, .idx (.t 29) (.t 32), none⟩,
    ⟨some 34, .bin .and (.t 33) (.k (.int .u8 127)), none⟩,
    ⟨some 35, .i2i .i64 (.t 34), none⟩,
    ⟨some 36, .mv (.t 8), none⟩,
    ⟨some 37, .bin .mul (.k (.int .i64 7)) (.t 36), none⟩,
    ⟨some 38, .bin .shl (.t 35) (.t 37), none⟩,
    ⟨some 39, .bin .or (.t 28) (.t 38), none⟩,
    ⟨some 7, .mv (.t 39), none⟩] [0, 1, 7, 8] [])
  (.seq (.seq (.reg [⟨some 40, .mv (.t 0), none⟩,
    ⟨some 41, .mv (.t 1), none⟩,
    ⟨some 42, .mv (.t 8), none⟩,
    ⟨some 43, .bin .add (.t 41) (.t 42), none⟩,
    ⟨some 44, .idx (.t 40) (.t 43), none⟩,
    ⟨some 45, .bin .gtr (.t 44) (.k (.int .u8 127)), none⟩] [0, 1, 7, 8, 45] [])
  (.cond (.t 45) (.exit 1) (.skip)))
  (.seq (.seq (.reg [⟨some 47, .mv (.t 7), none⟩,
    ⟨some 48, .call 230 [.t 47] [] [], none⟩,
    ⟨some 46, .mv (.t 48), none⟩,
    ⟨some 49, .ext 0 (.t 46), none⟩,
    ⟨some 50, .ext 1 (.t 46), none⟩,
    ⟨some 9, .mv (.t 49), none⟩,
    ⟨some 10, .mv (.t 50), none⟩] [0, 1, 7, 8, 9, 10] [])
  (.seq (.reg [⟨some 51, .mv (.t 10), none⟩,
    ⟨some 52, .not (.t 51), none⟩,
    ⟨some 53, .mv (.t 52), none⟩,
    ⟨some 54, .mv (.t 9), some (53, false)⟩,
    ⟨some 55, .mv (.t 0), some (53, false)⟩,
    ⟨some 56, .mv (.t 1), some (53, false)⟩,
    ⟨some 57, .mv (.t 1), some (53, false)⟩,
    ⟨some 58, .mv (.t 8), some (53, false)⟩,
    ⟨some 59, .bin .add (.t 57) (.t 58), some (53, false)⟩,
    ⟨some 60, .bin .add (.t 59) (.k (.int .i64 1)), some (53, false)⟩,
    ⟨some 61, .sstr (.t 55) (some (.t 56)) (some (.t 60)), some (53, false)⟩,
    ⟨some 62, .bin .neq (.t 54) (.t 61), some (53, false)⟩,
    ⟨some 63, .pick (.t 53) (.k (.bool true)) (.t 62), none⟩] [1, 7, 8, 63] [])
  (.cond (.t 63) (.seq (.reg [⟨some 4, .mv (.k (.int .i64 0)), none⟩,
    ⟨some 5, .mv (.k (.int .i64 0)), none⟩,
    ⟨some 6, .mv (.k (.bool false)), none⟩] [4, 5, 6] [])
  (.ret)) (.skip))))
  (.seq (.reg [⟨some 64, .mv (.t 7), none⟩,
    ⟨some 65, .mv (.t 1), none⟩,
    ⟨some 66, .mv (.t 8), none⟩,
    ⟨some 67, .bin .add (.t 65) (.t 66), none⟩,
    ⟨some 68, .bin .add (.t 67) (.k (.int .i64 1)), none⟩,
    ⟨some 4, .mv (.t 64), none⟩,
    ⟨some 5, .mv (.t 68), none⟩,
    ⟨some 6, .mv (.k (.bool true)), none⟩] [4, 5, 6] [])
  (.ret))))))
  (.reg [⟨some 26, .mv (.t 8), none⟩,
    ⟨some 27, .bin .add (.t 26) (.k (.int .i64 1)), none⟩,
    ⟨some 8, .mv (.t 27), none⟩] [0, 1, 7, 8] []))
def impl_ReadVar.b : C := .seq (.reg [⟨some 4, .mv (.k (.int .i64 0)), none⟩,
    ⟨some 5, .mv (.k (.int .i64 0)), none⟩,
    ⟨some 6, .mv (.k (.bool false)), none⟩] [0, 1] [])
  (.seq (.seq (.reg [⟨some 11, .mv (.t 1), none⟩,
    ⟨some 12, .mv (.t 0), none⟩,
    ⟨some 13, .slen (.t 12), none⟩,
    ⟨some 14, .call 101 [.t 11, .k (.int .i64 0), .t 13] [] [], none⟩,
    ⟨some 15, .not (.t 14), none⟩] [0, 1, 15] [])
  (.cond (.t 15) (.seq (.reg [⟨some 4, .mv (.k (.int .i64 0)), none⟩,
    ⟨some 5, .mv (.k (.int .i64 0)), none⟩,
    ⟨some 6, .mv (.k (.bool false)), none⟩] [4, 5, 6] [])
  (.ret)) (.skip)))
  (.seq (.reg [⟨some 7, .mv (.k (.int .i64 0)), none⟩] [0, 1, 7] [])
  (.seq (.seq (.reg [⟨some 8, .mv (.k (.int .i64 0)), none⟩] [0, 1, 7, 8] [])
  (.block 0 (.loop impl_ReadVar.l0)))
  (.seq (.reg [⟨some 4, .mv (.k (.int .i64 0)), none⟩,
    ⟨some 5, .mv (.k (.int .i64 0)), none⟩,
    ⟨some 6, .mv (.k (.bool false)), none⟩] [4, 5, 6] [])
  (.ret)))))
def impl_ReadVar.m : Fn := { np := 2, body := impl_ReadVar.b, res := [.tmp 4, .tmp 5, .tmp 6] }
def impl_ReadVar.k (M : Nat → Option Body) : Prop := M 231 = some (.code impl_ReadVar.m) ∧ impl_within.k M ∧ impl_VarText.k M
def spec_ReadShort.b : C := .seq (.reg [⟨some 4, .mv (.k (.str ⟨#[]⟩)), none⟩,
    ⟨some 5, .mv (.k (.int .i64 0)), none⟩,
    ⟨some 6, .mv (.k (.bool false)), none⟩] [0, 1] [])
  (.seq (.reg [⟨some 11, .mv (.t 0), none⟩,
    ⟨some 12, .mv (.t 1), none⟩,
    ⟨some 13, .call 221 [.t 11, .t 12] [] [], none⟩,
    ⟨some 10, .mv (.t 13), none⟩,
    ⟨some 14, .ext 0 (.t 10), none⟩,
    ⟨some 15, .ext 1 (.t 10), none⟩,
    ⟨some 16, .ext 2 (.t 10), none⟩,
    ⟨some 7, .mv (.t 14), none⟩,
    ⟨some 8, .mv (.t 15), none⟩,
    ⟨some 9, .mv (.t 16), none⟩] [0, 7, 8, 9] [])
  (.seq (.seq (.reg [⟨some 17, .mv (.t 9), none⟩,
    ⟨some 18, .not (.t 17), none⟩,
    ⟨some 19, .mv (.t 18), none⟩,
    ⟨some 20, .mv (.t 7), some (19, false)⟩,
    ⟨some 21, .bin .gtr (.t 20) (.k (.int .i64 20000)), some (19, false)⟩,
    ⟨some 22, .pick (.t 19) (.k (.bool true)) (.t 21), none⟩,
    ⟨some 23, .mv (.t 22), none⟩,
    ⟨some 24, .mv (.t 7), some (23, false)⟩,
    ⟨some 25, .mv (.t 0), some (23, false)⟩,
    ⟨some 26, .slen (.t 25), some (23, false)⟩,
    ⟨some 27, .mv (.t 8), some (23, false)⟩,
    ⟨some 28, .bin .sub (.t 26) (.t 27), some (23, false)⟩,
    ⟨some 29, .bin .gtr (.t 24) (.t 28), some (23, false)⟩,
    ⟨some 30, .pick (.t 23) (.k (.bool true)) (.t 29), none⟩] [0, 7, 8, 30] [])
  (.cond (.t 30) (.seq (.reg [⟨some 4, .mv (.k (.str ⟨#[]⟩)), none⟩,
    ⟨some 5, .mv (.k (.int .i64 0)), none⟩,
    ⟨some 6, .mv (.k (.bool false)), none⟩] [4, 5, 6] [])
  (.ret)) (.skip)))
  (.seq (.reg [⟨some 31, .mv (.t 0), none⟩,
    ⟨some 32, .mv (.t 8), none⟩,
    ⟨some 33, .mv (.t 8), none⟩,
    ⟨some 34, .mv (.t 7), none⟩,
    ⟨some 35, .bin .add (.t 33) (.t 34), none⟩,
    ⟨some 36, .sstr (.t 31) (some (.t 32)) (some (.t 35)), none⟩,
    ⟨some 37, .mv (.t 8), none⟩,
    ⟨some 38, .mv (.t 7), none⟩,
    ⟨some 39, .bin .add (.t 37) (.t 38), none⟩,
    ⟨some 4, .mv (.t 36), none⟩,
    ⟨some 5, .mv (.t 39), none⟩,
    ⟨some 6, .mv (.k (.bool true)), none⟩] [4, 5, 6] [])
  (.ret))))
def spec_ReadShort.m : Fn := { np := 2, body := spec_ReadShort.b, res := [.tmp 4, .tmp 5, .tmp 6] }
def spec_ReadShort.k (M : Nat → Option Body) : Prop := M 206 = some (.code spec_ReadShort.m) ∧ spec_ReadVar.k M
def impl_ReadShort.b : C := .seq (.reg [⟨some 4, .mv (.k (.str ⟨#[]⟩)), none⟩,
    ⟨some 5, .mv (.k (.int .i64 0)), none⟩,
    ⟨some 6, .mv (.k (.bool false)), none⟩] [0, 1] [])
  (.seq (.reg [⟨some 11, .mv (.t 0), none⟩,
    ⟨some 12, .mv (.t 1), none⟩,
    ⟨some 13, .call 231 [.t 11, .t 12] [] [], none⟩,
    ⟨some 10, .mv (.t 13), none⟩,
    ⟨some 14, .ext 0 (.t 10), none⟩,
    ⟨some 15, .ext 1 (.t 10), none⟩,
    ⟨some 16, .ext 2 (.t 10), none⟩,
    ⟨some 7, .mv (.t 14), none⟩,
    ⟨some 8, .mv (.t 15), none⟩,
    ⟨some 9, .mv (.t 16), none⟩] [0, 7, 8, 9] [])
  (.seq (.seq (.reg [⟨some 17, .mv (.t 9), none⟩,
    ⟨some 18, .not (.t 17), none⟩,
    ⟨some 19, .mv (.t 18), none⟩,
    ⟨some 20, .mv (.t 7), some (19, false)⟩,
    ⟨some 21, .bin .gtr (.t 20) (.k (.int .i64 20000)), some (19, false)⟩,
    ⟨some 22, .pick (.t 19) (.k (.bool true)) (.t 21), none⟩,
    ⟨some 23, .mv (.t 22), none⟩,
    ⟨some 24, .mv (.t 7), some (23, false)⟩,
    ⟨some 25, .mv (.t 0), some (23, false)⟩,
    ⟨some 26, .slen (.t 25), some (23, false)⟩,
    ⟨some 27, .mv (.t 8), some (23, false)⟩,
    ⟨some 28, .bin .sub (.t 26) (.t 27), some (23, false)⟩,
    ⟨some 29, .bin .gtr (.t 24) (.t 28), some (23, false)⟩,
    ⟨some 30, .pick (.t 23) (.k (.bool true)) (.t 29), none⟩] [0, 7, 8, 30] [])
  (.cond (.t 30) (.seq (.reg [⟨some 4, .mv (.k (.str ⟨#[]⟩)), none⟩,
    ⟨some 5, .mv (.k (.int .i64 0)), none⟩,
    ⟨some 6, .mv (.k (.bool false)), none⟩] [4, 5, 6] [])
  (.ret)) (.skip)))
  (.seq (.reg [⟨some 31, .mv (.t 0), none⟩,
    ⟨some 32, .mv (.t 8), none⟩,
    ⟨some 33, .mv (.t 8), none⟩,
    ⟨some 34, .mv (.t 7), none⟩,
    ⟨some 35, .bin .add (.t 33) (.t 34), none⟩,
    ⟨some 36, .sstr (.t 31) (some (.t 32)) (some (.t 35)), none⟩,
    ⟨some 37, .mv (.t 8), none⟩,
    ⟨some 38, .mv (.t 7), none⟩,
    ⟨some 39, .bin .add (.t 37) (.t 38), none⟩,
    ⟨some 4, .mv (.t 36), none⟩,
    ⟨some 5, .mv (.t 39), none⟩,
    ⟨some 6, .mv (.k (.bool true)), none⟩] [4, 5, 6] [])
  (.ret))))
def impl_ReadShort.m : Fn := { np := 2, body := impl_ReadShort.b, res := [.tmp 4, .tmp 5, .tmp 6] }
def impl_ReadShort.k (M : Nat → Option Body) : Prop := M 207 = some (.code impl_ReadShort.m) ∧ impl_ReadVar.k M
def impl_short.b : C := .seq (.reg [⟨some 2, .mv (.k (.str ⟨#[]⟩)), none⟩] [0] [])
  (.seq (.reg [⟨some 6, .mv (.t 0), none⟩,
    ⟨some 7, .call 205 [.t 6] [] [], none⟩,
    ⟨some 5, .mv (.t 7), none⟩,
    ⟨some 8, .ext 0 (.t 5), none⟩,
    ⟨some 9, .ext 1 (.t 5), none⟩,
    ⟨some 3, .mv (.t 8), none⟩,
    ⟨some 4, .mv (.t 9), none⟩] [3] [])
  (.seq (.reg [⟨some 10, .mv (.t 3), none⟩,
    ⟨some 2, .mv (.t 10), none⟩] [2] [])
  (.ret)))
def impl_short.m : Fn := { np := 1, body := impl_short.b, res := [.tmp 2] }
def impl_short.k (M : Nat → Option Body) : Prop := M 102 = some (.code impl_short.m) ∧ impl_ShortText.k M
def impl_vars.l0 : C := .seq (.reg [⟨some 11, .bin .lss (.t 10) (.t 9), none⟩] [3, 8, 9, 10, 11] [])
  (.seq (.cond (.t 11) (.skip) (.exit 0))
  (.seq (.block 1 (.seq (.reg [⟨some 12, .iaddr 1 (.t 8) (.t 10), none⟩,
    ⟨some 13, .load false 1 (.t 12), none⟩,
    ⟨some 5, .mv (.t 13), none⟩] [3, 5, 8, 9, 10] [])
  (.seq (.reg [⟨some 15, .mv (.t 5), none⟩,
    ⟨some 16, .call 230 [.t 15] [] [], none⟩,
    ⟨some 14, .mv (.t 16), none⟩,
    ⟨some 17, .ext 0 (.t 14), none⟩,
    ⟨some 18, .ext 1 (.t 14), none⟩,
    ⟨some 6, .mv (.t 17), none⟩,
    ⟨some 7, .mv (.t 18), none⟩] [3, 6, 8, 9, 10] [])
  (.reg [⟨some 19, .mv (.t 3), none⟩,
    ⟨some 20, .mv (.t 6), none⟩,
    ⟨some 21, .bin .add (.t 19) (.t 20), none⟩,
    ⟨some 3, .mv (.t 21), none⟩] [3, 8, 9, 10] []))))
  (.reg [⟨some 22, .bin .add (.t 10) (.k (.int .i64 1)), none⟩,
    ⟨some 10, .mv (.t 22), none⟩] [3, 8, 9, 10] [])))
def impl_vars.b : C := .seq (.reg [⟨some 2, .mv (.k (.str ⟨#[]⟩)), none⟩] [0] [])
  (.seq (.reg [⟨some 3, .mv (.k (.str ⟨#[]⟩)), none⟩] [0, 3] [])
  (.seq (.seq (.reg [⟨some 8, .mv (.t 0), none⟩,
    ⟨some 9, .len (.t 8), none⟩,
    ⟨some 10, .mv (.k (.int .i64 0)), none⟩] [3, 8, 9, 10] [])
  (.block 0 (.loop impl_vars.l0)))
  (.seq (.reg [⟨some 23, .mv (.t 3), none⟩,
    ⟨some 2, .mv (.t 23), none⟩] [2] [])
  (.ret))))
def impl_vars.m : Fn := { np := 1, body := impl_vars.b, res := [.tmp 2] }
def impl_vars.k (M : Nat → Option Body) : Prop := M 151 = some (.code impl_vars.m) ∧ impl_VarText.k M
end Mx

/-
  Numbers in bytes: VarText, ReadVar; short texts.
-/
namespace Mx
open Go
variable {M : Nat → Option Body}
/-- the bytes ahead of the last, and the last -/
def varP (n : Nat) : List UInt8 × Nat := if n > 127 then let r := varP (n / 128); (UInt8.ofNat (n % 128 + 128) :: r.1, r.2) else ([], n)
termination_by n
decreasing_by omega
theorem varP_low {n : Nat} (h : ¬ n > 127) : varP n = ([], n) := by rw [varP, if_neg h]
theorem varP_high {n : Nat} (h : n > 127) : varP n = (UInt8.ofNat (n % 128 + 128) :: (varP (n / 128)).1, (varP (n / 128)).2) := by rw [varP, if_pos h]
def varT (n : Nat) : List UInt8 := (varP n).1 ++ [UInt8.ofNat (varP n).2]
theorem varP_len : ∀ (k n : Nat), n < 128 ^ k → (varP n).1.length ≤ k := by
  intro k
  induction k with
  | zero => intro n h; have : n = 0 := by simpa using h
            subst this; rw [varP_low (by omega)]; simp
  | succ k ih =>
    intro n h
    by_cases hc : n > 127
    · rw [varP_high hc]
      have := ih (n / 128) (by rw [Nat.pow_succ] at h; omega)
      simp; omega
    · rw [varP_low hc]; simp
theorem varT_len {n : Nat} (h : n ≤ 9223372036854775807) : (varT n).length ≤ 10 := by
  have := varP_len 9 n (by omega)
  simp [varT]; omega

def spV (a b c : Nat) (s : Nat × List UInt8) (x : Nat × Nat) : St := { t := [(0, .c (I s.1)), (b, .c (.row a x.1 0 s.2.length))], o := [(a, ⟨x.1, 1, true, false, brow s.2⟩)], n := x.2 }
def vInv (s : Nat × List UInt8) : Prop := s.1 ≤ 9223372036854775807 ∧ ∃ k, s.1 < 128 ^ k ∧ s.2.length + k ≤ 20
theorem vInv_step {n : Nat} {acc : List UInt8} (h : vInv (n, acc)) (hc : n > 127) (b : UInt8) : vInv (n / 128, acc ++ [b]) := by
  obtain ⟨h1, k, h2, h3⟩ := h
  simp only at h1 h2 h3
  cases k with
  | zero => simp at h2; omega
  | succ k => exact ⟨by simp only; omega, k, by simp only; rw [Nat.pow_succ] at h2; omega, by simp; omega⟩
theorem spec_l01Var.says (h : spec_l01Var.k M) (n : Nat) (hn : n ≤ 9223372036854775807) : run M 99 [.c (I n)] [] = some (.c (S (varT n)), []) := by
  refine run_code (b := spec_l01Var.m) h ⟨n + 1, ?_⟩
  obtain ⟨g, hr⟩ := loop_all (f := exC (run M) (n + 1) spec_l01Var.l0) (spV 4 3 6) vInv (fun s => s.1) (fun s => (s.2 ++ (varP s.1).1, (varP s.1).2))
    (fun q (m : Nat × Nat) => (.exit 0, { t := [(0, .c (I q.2)), (3, .c (.row 4 m.1 0 q.1.length)), (6, .c (.bool false))], o := [(4, ⟨m.1, 1, true, false, brow q.1⟩)], n := m.2 }))
    (by
      rintro ⟨i, acc⟩ ⟨v, x⟩ hi
      by_cases hc : i > 127
      · left
        have hb := hi.1
        obtain ⟨k, hk1, hk2⟩ := hi.2
        simp only at hb hk1 hk2
        have e1 : IntKind.i64.wrap ((i : Int).tmod 128 + 128) = ((i % 128 + 128 : Nat) : Int) := by
          rw [Int.tmod_eq_emod_of_nonneg (by omega), wrap_i64 (by omega) (by omega)]; omega
        have e2 : IntKind.i64.wrap ((i : Int) / 128) = (i : Int) / 128 := wrap_i64 (by omega) (by omega)
        have e3 : IntKind.u8.wrap ((i % 128 + 128 : Nat) : Int) = ((UInt8.ofNat (i % 128 + 128)).toNat : Int) := by rw [ofNat_toNat, wrap_u8]
        have hc' : (127 : Int) < i := by omega
        have e4 : acc.length + 1 ≤ 4294967296 := by omega
        generalize hb : UInt8.ofNat (i % 128 + 128) = b at e3
        obtain ⟨y, hy⟩ : ∃ y, exC (run M) (n + 1) spec_l01Var.l0 (spV 4 3 6 (i, acc) (v, x)) = some (.normal, spV 4 3 6 (i / 128, acc ++ [b]) y) := by
          simp only [Prod.exists]
          simp only [spV, spec_l01Var.l0]
          simp only [Int.natCast_add, Int.natCast_emod, Int.cast_ofNat_Int] at e1 e3
          simp [hc', e1, e2, e3, e4, brow1, List.take_of_length_le]
        refine ⟨(i / 128, acc ++ [b]), y, hy, vInv_step hi hc b, by simp only; omega, ?_⟩
        simp only [varP_high hc, hb, List.append_assoc, List.cons_append, List.nil_append]
      · right
        have hc' : ¬ (127 : Int) < i := by omega
        refine ⟨(v, x + 32), ?_, by simp⟩
        simp only [varP_low hc, List.append_nil]
        simp [spV, spec_l01Var.l0, hc'])
    (n + 1) (n, []) ⟨hn, 9, by simp only; omega, by simp⟩ (by simp)
  have hl := varP_len 9 n (by omega)
  have e3 : IntKind.u8.wrap ((varP n).2 : Int) = ((UInt8.ofNat (varP n).2).toNat : Int) := by rw [ofNat_toNat, wrap_u8]
  have e4 : (varP n).1.length + 1 ≤ 4294967296 := by omega
  simp only [List.nil_append] at hr
  simp [spV, -List.nil_append] at hr
  generalize hb : UInt8.ofNat (varP n).2 = b at e3
  have hv : varT n = (varP n).1 ++ [b] := by rw [← hb]; rfl
  rw [hv]
  simp [exB, spec_l01Var.m, spec_l01Var.b, List.range_succ, hr, e3, e4, brow1, List.take_of_length_le]

theorem or_and (n : Nat) (h : n < 9223372036854775808) : orI .i64 (andI .i64 n 127) 128 = ((n % 128 + 128 : Nat) : Int) := by
  have e1 := and_i64 n 127 h (by omega)
  have e2 := or_i64 (n % 128) 128 (by omega) (by omega)
  rw [and_127] at e1
  rw [or_128 _ (by omega)] at e2
  rw [show (127 : Int) = ((127 : Nat) : Int) from rfl, e1]
  exact e2
theorem impl_VarText.says (h : impl_VarText.k M) (n : Nat) (hn : n ≤ 9223372036854775807) : run M 230 [.c (I n)] [] = some (.tup [.c (S (if n ≤ 1000000000 then varT n else [])), .c (.bool (decide (n ≤ 1000000000)))], []) := by
  have hw := impl_within.says h.2 n 0 1000000000
  refine run_code (b := impl_VarText.m) h.1 ⟨n + 1, ?_⟩
  by_cases hm : n ≤ 1000000000
  rotate_left
  · have hm' : ¬ (n : Int) ≤ 1000000000 := by omega
    simp [hm'] at hw
    simp [exB, impl_VarText.m, impl_VarText.b, List.range_succ, hw, hm]
  have hm' : (n : Int) ≤ 1000000000 := by omega
  simp [hm'] at hw
  obtain ⟨g, hr⟩ := loop_all (f := exC (run M) (n + 1) impl_VarText.l0) (spV 8 4 10) vInv (fun s => s.1) (fun s => (s.2 ++ (varP s.1).1, (varP s.1).2))
    (fun q (m : Nat × Nat) => (.exit 0, { t := [(0, .c (I q.2)), (4, .c (.row 8 m.1 0 q.1.length)), (10, .c (.bool false))], o := [(8, ⟨m.1, 1, true, false, brow q.1⟩)], n := m.2 }))
    (by
      rintro ⟨i, acc⟩ ⟨v, x⟩ hi
      by_cases hc : i > 127
      · left
        have hb := hi.1
        obtain ⟨k, hk1, hk2⟩ := hi.2
        simp only at hb hk1 hk2
        have e1 := or_and i (by omega)
        have e2 : (i : Int).fdiv 128 = ((i / 128 : Nat) : Int) := by
          rw [Int.fdiv_eq_ediv_of_nonneg _ (by omega)]; omega
        have e3 : IntKind.u8.wrap ((i % 128 + 128 : Nat) : Int) = ((UInt8.ofNat (i % 128 + 128)).toNat : Int) := by rw [ofNat_toNat, wrap_u8]
        have hc' : (127 : Int) < i := by omega
        have e4 : acc.length + 1 ≤ 4294967296 := by omega
        generalize hb : UInt8.ofNat (i % 128 + 128) = b at e3
        obtain ⟨y, hy⟩ : ∃ y, exC (run M) (n + 1) impl_VarText.l0 (spV 8 4 10 (i, acc) (v, x)) = some (.normal, spV 8 4 10 (i / 128, acc ++ [b]) y) := by
          simp only [Prod.exists]
          simp only [spV, impl_VarText.l0]
          simp only [Int.natCast_add, Int.natCast_emod, Int.cast_ofNat_Int] at e1 e3
          simp [hc', e1, e2, e3, e4, brow1, List.take_of_length_le, IntKind.bits]
        refine ⟨(i / 128, acc ++ [b]), y, hy, vInv_step hi hc b, by simp only; omega, ?_⟩
        simp only [varP_high hc, hb, List.append_assoc, List.cons_append, List.nil_append]
      · right
        have hc' : ¬ (127 : Int) < i := by omega
        refine ⟨(v, x + 32), ?_, by simp⟩
        simp only [varP_low hc, List.append_nil]
        simp [spV, impl_VarText.l0, hc'])
    (n + 1) (n, []) ⟨hn, 9, by simp only; omega, by simp⟩ (by simp)
  have hl := varP_len 9 n (by omega)
  have e3 : IntKind.u8.wrap ((varP n).2 : Int) = ((UInt8.ofNat (varP n).2).toNat : Int) := by rw [ofNat_toNat, wrap_u8]
  have e4 : (varP n).1.length + 1 ≤ 4294967296 := by omega
  simp only [List.nil_append] at hr
  simp [spV, -List.nil_append] at hr
  generalize hb : UInt8.ofNat (varP n).2 = b at e3
  have hv : varT n = (varP n).1 ++ [b] := by rw [← hb]; rfl
  rw [hv]
  simp [exB, impl_VarText.m, impl_VarText.b, List.range_succ, hr, hw, hm, e3, e4, brow1, List.take_of_length_le]
/-- its length, and it -/
def shortT (l : List UInt8) : List UInt8 := varT l.length ++ l
theorem impl_ShortText.says (h : impl_ShortText.k M) (l : List UInt8) (hl : l.length ≤ 4611686018427387904) : run M 205 [.c (S l)] [] = some (.tup [.c (S (if 20000 < l.length then [] else shortT l)), .c (.bool (!decide (20000 < l.length)))], []) := by
  have h1 := impl_VarText.says h.2 l.length (by omega)
  refine run_code (b := impl_ShortText.m) h.1 ⟨0, ?_⟩
  by_cases c : 20000 < l.length
  · have c' : 20000 < (l.length : Int) := by omega
    simp [exB, impl_ShortText.m, impl_ShortText.b, List.range_succ, c, c']
  · have c' : ¬ 20000 < (l.length : Int) := by omega
    have c2 : l.length ≤ 1000000000 := by omega
    have hv := varT_len (n := l.length) (by omega)
    simp only [c2, if_true, decide_true] at h1
    simp (disch := (first | omega | (simp; done) | (simp; omega))) [exB, impl_ShortText.m, impl_ShortText.b, List.range_succ, c, c', h1, shortT, str_add]
theorem impl_short.says (h : impl_short.k M) (l : List UInt8) (hl : l.length ≤ 20000) : run M 102 [.c (S l)] [] = some (.c (S (shortT l)), []) := by
  have h1 := impl_ShortText.says h.2 l (by omega)
  have c : ¬ 20000 < l.length := by omega
  refine run_code (b := impl_short.m) h.1 ⟨0, ?_⟩
  simp only [c, if_false] at h1
  simp [exB, impl_short.m, impl_short.b, List.range_succ, h1]
end Mx

/-
  Small codes: laws.toStamp, laws.toReg, laws.toRegS, laws.toMail, laws.toMailS, laws.toBox, laws.szRegS, laws.szMail, laws.szMailS, laws.szBox, laws.eqStamp, laws.eqReg, laws.eqRegS, laws.eqMail, laws.eqMailS, laws.eqBox.
-/
namespace Mx
open Go
def laws_toStamp.b : C := .seq (.reg [⟨some 1, .box (.t 0), none⟩,
    ⟨some 2, .alloc [.int .i64 0, .int .i64 0], none⟩] [1, 2] [1, 2])
  (.seq (.reg [⟨some 3, .alloc [.int .i64 0, .int .i64 0], none⟩] [1, 2, 3] [1, 2, 3])
  (.seq (.reg [⟨some 4, .faddr 0 (.t 1), none⟩,
    ⟨some 5, .load false 1 (.t 4), none⟩,
    ⟨some 6, .faddr 0 (.t 3), none⟩,
    ⟨none, .store 1 (.t 6) (.t 5), none⟩] [1, 2, 3] [1, 2, 3])
  (.seq (.reg [⟨some 7, .faddr 1 (.t 1), none⟩,
    ⟨some 8, .load false 1 (.t 7), none⟩,
    ⟨some 9, .faddr 1 (.t 3), none⟩,
    ⟨none, .store 1 (.t 9) (.t 8), none⟩] [2, 3] [2, 3])
  (.seq (.reg [⟨some 10, .load true 2 (.t 3), none⟩,
    ⟨none, .store 2 (.t 2) (.t 10), none⟩] [2] [2])
  (.ret)))))
def laws_toStamp.m : Fn := { np := 1, body := laws_toStamp.b, res := [.cell 2 true 2] }
def laws_toStamp.k (M : Nat → Option Body) : Prop := M 109 = some (.code laws_toStamp.m)
def laws_toReg.b : C := .seq (.reg [⟨some 1, .box (.t 0), none⟩,
    ⟨some 2, .alloc [.int .i64 0, .int .i64 0, .int .i64 0], none⟩] [1, 2] [1, 2])
  (.seq (.reg [⟨some 3, .alloc [.int .i64 0, .int .i64 0, .int .i64 0], none⟩] [1, 2, 3] [1, 2, 3])
  (.seq (.reg [⟨some 4, .faddr 0 (.t 1), none⟩,
    ⟨some 5, .load false 1 (.t 4), none⟩,
    ⟨some 6, .faddr 0 (.t 3), none⟩,
    ⟨none, .store 1 (.t 6) (.t 5), none⟩] [1, 2, 3] [1, 2, 3])
  (.seq (.reg [⟨some 7, .faddr 1 (.t 1), none⟩,
    ⟨some 8, .load true 2 (.t 7), none⟩,
    ⟨some 9, .call 109 [.t 8] [] [], none⟩,
    ⟨some 10, .faddr 1 (.t 3), none⟩,
    ⟨none, .store 2 (.t 10) (.t 9), none⟩] [2, 3] [2, 3])
  (.seq (.reg [⟨some 11, .load true 3 (.t 3), none⟩,
    ⟨none, .store 3 (.t 2) (.t 11), none⟩] [2] [2])
  (.ret)))))
def laws_toReg.m : Fn := { np := 1, body := laws_toReg.b, res := [.cell 2 true 3] }
def laws_toReg.k (M : Nat → Option Body) : Prop := M 288 = some (.code laws_toReg.m) ∧ laws_toStamp.k M
def laws_toRegS.l0 : C := .seq (.seq (.reg [⟨some 8, .mv (.t 4), none⟩,
    ⟨some 9, .mv (.t 0), none⟩,
    ⟨some 10, .len (.t 9), none⟩,
    ⟨some 11, .bin .lss (.t 8) (.t 10), none⟩] [0, 3, 4, 11] [7])
  (.cond (.t 11) (.skip) (.exit 0)))
  (.seq (.block 1 (.reg [⟨some 14, .mv (.t 3), none⟩,
    ⟨some 15, .mv (.t 4), none⟩,
    ⟨some 16, .mv (.t 0), none⟩,
    ⟨some 17, .mv (.t 4), none⟩,
    ⟨some 18, .iaddr 3 (.t 16) (.t 17), none⟩,
    ⟨some 19, .load true 3 (.t 18), none⟩,
    ⟨some 20, .call 288 [.t 19] [] [], none⟩,
    ⟨some 21, .iaddr 3 (.t 14) (.t 15), none⟩,
    ⟨none, .store 3 (.t 21) (.t 20), none⟩] [0, 3, 4] [7]))
  (.reg [⟨some 12, .mv (.t 4), none⟩,
    ⟨some 13, .bin .add (.t 12) (.k (.int .i64 1)), none⟩,
    ⟨some 4, .mv (.t 13), none⟩] [0, 3, 4] [7]))
def laws_toRegS.b : C := .seq (.reg [⟨some 2, .nil 3, none⟩] [0] [])
  (.seq (.reg [⟨some 5, .mv (.t 0), none⟩,
    ⟨some 6, .len (.t 5), none⟩,
    ⟨some 7, .mks 3 24 [.int .i64 0, .int .i64 0, .int .i64 0] (.t 6), none⟩,
    ⟨some 3, .mv (.t 7), none⟩] [0, 3] [7])
  (.seq (.seq (.reg [⟨some 4, .mv (.k (.int .i64 0)), none⟩] [0, 3, 4] [7])
  (.block 0 (.loop laws_toRegS.l0)))
  (.seq (.reg [⟨some 22, .mv (.t 3), none⟩,
    ⟨some 2, .mv (.t 22), none⟩] [2] [2, 7])
  (.ret))))
def laws_toRegS.m : Fn := { np := 1, body := laws_toRegS.b, res := [.tmp 2] }
def laws_toRegS.k (M : Nat → Option Body) : Prop := M 251 = some (.code laws_toRegS.m) ∧ laws_toReg.k M
def laws_toMail.b : C := .seq (.reg [⟨some 1, .box (.t 0), none⟩,
    ⟨some 2, .alloc [.int .i64 0, .int .i64 0, .nils 3, .str ⟨#[]⟩], none⟩] [1, 2] [1, 2, 11200])
  (.seq (.reg [⟨some 3, .alloc [.int .i64 0, .int .i64 0, .nils 3, .str ⟨#[]⟩], none⟩] [1, 2, 3] [1, 2, 3, 11200])
  (.seq (.reg [⟨some 4, .faddr 0 (.t 1), none⟩,
    ⟨some 5, .load false 1 (.t 4), none⟩,
    ⟨some 6, .faddr 0 (.t 3), none⟩,
    ⟨none, .store 1 (.t 6) (.t 5), none⟩] [1, 2, 3] [1, 2, 3, 11200])
  (.seq (.reg [⟨some 7, .faddr 1 (.t 1), none⟩,
    ⟨some 8, .load false 1 (.t 7), none⟩,
    ⟨some 9, .faddr 1 (.t 3), none⟩,
    ⟨none, .store 1 (.t 9) (.t 8), none⟩] [1, 2, 3] [1, 2, 3, 11200])
  (.seq (.reg [⟨some 10, .faddr 2 (.t 1), none⟩,
    ⟨some 11, .load false 1 (.t 10), none⟩,
    ⟨some 12, .call 251 [.t 11] [] [(0, 11200)], none⟩,
    ⟨some 13, .faddr 2 (.t 3), none⟩,
    ⟨none, .store 1 (.t 13) (.t 12), none⟩] [1, 2, 3] [1, 2, 3, 11200])
  (.seq (.reg [⟨some 14, .faddr 3 (.t 1), none⟩,
    ⟨some 15, .load false 1 (.t 14), none⟩,
    ⟨some 16, .faddr 3 (.t 3), none⟩,
    ⟨none, .store 1 (.t 16) (.t 15), none⟩] [2, 3] [2, 3, 11200])
  (.seq (.reg [⟨some 17, .load true 4 (.t 3), none⟩,
    ⟨none, .store 4 (.t 2) (.t 17), none⟩] [2] [2, 11200])
  (.ret)))))))
def laws_toMail.m : Fn := { np := 1, body := laws_toMail.b, res := [.cell 2 true 4] }
def laws_toMail.k (M : Nat → Option Body) : Prop := M 209 = some (.code laws_toMail.m) ∧ laws_toRegS.k M
def laws_toMailS.l0 : C := .seq (.seq (.reg [⟨some 8, .mv (.t 4), none⟩,
    ⟨some 9, .mv (.t 0), none⟩,
    ⟨some 10, .len (.t 9), none⟩,
    ⟨some 11, .bin .lss (.t 8) (.t 10), none⟩] [0, 3, 4, 11] [7])
  (.cond (.t 11) (.skip) (.exit 0)))
  (.seq (.block 1 (.reg [⟨some 14, .mv (.t 3), none⟩,
    ⟨some 15, .mv (.t 4), none⟩,
    ⟨some 16, .mv (.t 0), none⟩,
    ⟨some 17, .mv (.t 4), none⟩,
    ⟨some 18, .iaddr 4 (.t 16) (.t 17), none⟩,
    ⟨some 19, .load true 4 (.t 18), none⟩,
    ⟨some 20, .call 209 [.t 19] [] [], none⟩,
    ⟨some 21, .iaddr 4 (.t 14) (.t 15), none⟩,
    ⟨none, .store 4 (.t 21) (.t 20), none⟩] [0, 3, 4] [7]))
  (.reg [⟨some 12, .mv (.t 4), none⟩,
    ⟨some 13, .bin .add (.t 12) (.k (.int .i64 1)), none⟩,
    ⟨some 4, .mv (.t 13), none⟩] [0, 3, 4] [7]))
def laws_toMailS.b : C := .seq (.reg [⟨some 2, .nil 4, none⟩] [0] [])
  (.seq (.reg [⟨some 5, .mv (.t 0), none⟩,
    ⟨some 6, .len (.t 5), none⟩,
    ⟨some 7, .mks 4 56 [.int .i64 0, .int .i64 0, .nils 3, .str ⟨#[]⟩] (.t 6), none⟩,
    ⟨some 3, .mv (.t 7), none⟩] [0, 3] [7])
  (.seq (.seq (.reg [⟨some 4, .mv (.k (.int .i64 0)), none⟩] [0, 3, 4] [7])
  (.block 0 (.loop laws_toMailS.l0)))
  (.seq (.reg [⟨some 22, .mv (.t 3), none⟩,
    ⟨some 2, .mv (.t 22), none⟩] [2] [2, 7])
  (.ret))))
def laws_toMailS.m : Fn := { np := 1, body := laws_toMailS.b, res := [.tmp 2] }
def laws_toMailS.k (M : Nat → Option Body) : Prop := M 110 = some (.code laws_toMailS.m) ∧ laws_toMail.k M
def laws_toBox.b : C := .seq (.reg [⟨some 1, .box (.t 0), none⟩,
    ⟨some 2, .alloc [.int .i64 0, .str ⟨#[]⟩, .int .i64 0, .int .i64 0, .int .i64 0, .nils 4, .nils 1], none⟩] [1, 2] [1, 2, 11900, 12300])
  (.seq (.reg [⟨some 3, .alloc [.int .i64 0, .str ⟨#[]⟩, .int .i64 0, .int .i64 0, .int .i64 0, .nils 4, .nils 1], none⟩] [1, 2, 3] [1, 2, 3, 11900, 12300])
  (.seq (.reg [⟨some 4, .faddr 0 (.t 1), none⟩,
    ⟨some 5, .load false 1 (.t 4), none⟩,
    ⟨some 6, .faddr 0 (.t 3), none⟩,
    ⟨none, .store 1 (.t 6) (.t 5), none⟩] [1, 2, 3] [1, 2, 3, 11900, 12300])
  (.seq (.reg [⟨some 7, .faddr 1 (.t 1), none⟩,
    ⟨some 8, .load false 1 (.t 7), none⟩,
    ⟨some 9, .faddr 1 (.t 3), none⟩,
    ⟨none, .store 1 (.t 9) (.t 8), none⟩] [1, 2, 3] [1, 2, 3, 11900, 12300])
  (.seq (.reg [⟨some 10, .faddr 2 (.t 1), none⟩,
    ⟨some 11, .load true 2 (.t 10), none⟩,
    ⟨some 12, .call 109 [.t 11] [] [], none⟩,
    ⟨some 13, .faddr 2 (.t 3), none⟩,
    ⟨none, .store 2 (.t 13) (.t 12), none⟩] [1, 2, 3] [1, 2, 3, 11900, 12300])
  (.seq (.reg [⟨some 14, .faddr 4 (.t 1), none⟩,
    ⟨some 15, .load false 1 (.t 14), none⟩,
    ⟨some 16, .faddr 4 (.t 3), none⟩,
    ⟨none, .store 1 (.t 16) (.t 15), none⟩] [1, 2, 3] [1, 2, 3, 11900, 12300])
  (.seq (.reg [⟨some 17, .faddr 5 (.t 1), none⟩,
    ⟨some 18, .load false 1 (.t 17), none⟩,
    ⟨some 19, .call 110 [.t 18] [] [(0, 11900)], none⟩,
    ⟨some 20, .faddr 5 (.t 3), none⟩,
    ⟨none, .store 1 (.t 20) (.t 19), none⟩] [1, 2, 3] [1, 2, 3, 11900, 12300])
  (.seq (.reg [⟨some 21, .faddr 6 (.t 1), none⟩,
    ⟨some 22, .load false 1 (.t 21), none⟩,
    ⟨some 23, .call 42 [.t 22] [] [(0, 12300)], none⟩,
    ⟨some 24, .faddr 6 (.t 3), none⟩,
    ⟨none, .store 1 (.t 24) (.t 23), none⟩] [2, 3] [2, 3, 11900, 12300])
  (.seq (.reg [⟨some 25, .load true 7 (.t 3), none⟩,
    ⟨none, .store 7 (.t 2) (.t 25), none⟩] [2] [2, 11900, 12300])
  (.ret)))))))))
def laws_toBox.m : Fn := { np := 1, body := laws_toBox.b, res := [.cell 2 true 7] }
def laws_toBox.k (M : Nat → Option Body) : Prop := M 18 = some (.code laws_toBox.m) ∧ laws_toIntS.k M ∧ laws_toStamp.k M ∧ laws_toMailS.k M
def laws_szRegS.b : C := .seq (.reg [⟨some 4, .mv (.k (.int .i64 0)), none⟩] [0, 1] [])
  (.seq (.reg [⟨some 5, .mv (.t 1), none⟩,
    ⟨some 6, .mv (.t 0), none⟩,
    ⟨some 7, .len (.t 6), none⟩,
    ⟨some 8, .bin .sub (.t 5) (.t 7), none⟩,
    ⟨some 1, .mv (.t 8), none⟩] [1] [])
  (.seq (.seq (.reg [⟨some 9, .mv (.t 1), none⟩,
    ⟨some 10, .bin .lss (.t 9) (.k (.int .i64 0)), none⟩] [1, 10] [])
  (.cond (.t 10) (.seq (.reg [⟨some 4, .mv (.k (.int .i64 (-1))), none⟩] [4] [])
  (.ret)) (.skip)))
  (.seq (.reg [⟨some 11, .mv (.t 1), none⟩,
    ⟨some 4, .mv (.t 11), none⟩] [4] [])
  (.ret))))
def laws_szRegS.m : Fn := { np := 2, body := laws_szRegS.b, res := [.tmp 4] }
def laws_szRegS.k (M : Nat → Option Body) : Prop := M 250 = some (.code laws_szRegS.m)
def laws_szMail.b : C := .seq (.reg [⟨some 2, .box (.t 0), none⟩,
    ⟨some 4, .mv (.k (.int .i64 0)), none⟩] [1, 2] [2])
  (.seq (.reg [⟨some 5, .faddr 2 (.t 2), none⟩,
    ⟨some 6, .load false 1 (.t 5), none⟩,
    ⟨some 7, .mv (.t 1), none⟩,
    ⟨some 8, .call 250 [.t 6, .t 7] [] [], none⟩,
    ⟨some 1, .mv (.t 8), none⟩] [1, 2] [2])
  (.seq (.seq (.reg [⟨some 9, .mv (.t 1), none⟩,
    ⟨some 10, .bin .lss (.t 9) (.k (.int .i64 0)), none⟩] [1, 2, 10] [2])
  (.cond (.t 10) (.seq (.reg [⟨some 4, .mv (.k (.int .i64 (-1))), none⟩] [4] [])
  (.ret)) (.skip)))
  (.seq (.reg [⟨some 11, .mv (.t 1), none⟩,
    ⟨some 12, .faddr 3 (.t 2), none⟩,
    ⟨some 13, .load false 1 (.t 12), none⟩,
    ⟨some 14, .slen (.t 13), none⟩,
    ⟨some 15, .bin .sub (.t 11) (.t 14), none⟩,
    ⟨some 1, .mv (.t 15), none⟩] [1] [])
  (.seq (.seq (.reg [⟨some 16, .mv (.t 1), none⟩,
    ⟨some 17, .bin .lss (.t 16) (.k (.int .i64 0)), none⟩] [1, 17] [])
  (.cond (.t 17) (.seq (.reg [⟨some 4, .mv (.k (.int .i64 (-1))), none⟩] [4] [])
  (.ret)) (.skip)))
  (.seq (.reg [⟨some 18, .mv (.t 1), none⟩,
    ⟨some 4, .mv (.t 18), none⟩] [4] [])
  (.ret))))))
def laws_szMail.m : Fn := { np := 2, body := laws_szMail.b, res := [.tmp 4] }
def laws_szMail.k (M : Nat → Option Body) : Prop := M 208 = some (.code laws_szMail.m) ∧ laws_szRegS.k M
def laws_szMailS.l0 : C := .seq (.seq (.reg [⟨some 12, .mv (.t 5), none⟩,
    ⟨some 13, .mv (.t 0), none⟩,
    ⟨some 14, .len (.t 13), none⟩,
    ⟨some 15, .bin .lss (.t 12) (.t 14), none⟩] [0, 1, 5, 15] [])
  (.cond (.t 15) (.skip) (.exit 0)))
  (.seq (.block 1 (.seq (.reg [⟨some 18, .mv (.t 0), none⟩,
    ⟨some 19, .mv (.t 5), none⟩,
    ⟨some 20, .iaddr 4 (.t 18) (.t 19), none⟩,
    ⟨some 21, .load true 4 (.t 20), none⟩,
    ⟨some 22, .mv (.t 1), none⟩,
    ⟨some 23, .call 208 [.t 21, .t 22] [] [], none⟩,
    ⟨some 1, .mv (.t 23), none⟩] [0, 1, 5] [])
  (.seq (.reg [⟨some 24, .mv (.t 1), none⟩,
    ⟨some 25, .bin .lss (.t 24) (.k (.int .i64 0)), none⟩] [0, 1, 5, 25] [])
  (.cond (.t 25) (.seq (.reg [⟨some 4, .mv (.k (.int .i64 (-1))), none⟩] [4] [])
  (.ret)) (.skip)))))
  (.reg [⟨some 16, .mv (.t 5), none⟩,
    ⟨some 17, .bin .add (.t 16) (.k (.int .i64 1)), none⟩,
    ⟨some 5, .mv (.t 17), none⟩] [0, 1, 5] []))
def laws_szMailS.b : C := .seq (.reg [⟨some 4, .mv (.k (.int .i64 0)), none⟩] [0, 1] [])
  (.seq (.reg [⟨some 6, .mv (.t 1), none⟩,
    ⟨some 7, .mv (.t 0), none⟩,
    ⟨some 8, .len (.t 7), none⟩,
    ⟨some 9, .bin .sub (.t 6) (.t 8), none⟩,
    ⟨some 1, .mv (.t 9), none⟩] [0, 1] [])
  (.seq (.seq (.reg [⟨some 10, .mv (.t 1), none⟩,
    ⟨some 11, .bin .lss (.t 10) (.k (.int .i64 0)), none⟩] [0, 1, 11] [])
  (.cond (.t 11) (.seq (.reg [⟨some 4, .mv (.k (.int .i64 (-1))), none⟩] [4] [])
  (.ret)) (.skip)))
  (.seq (.seq (.reg [⟨some 5, .mv (.k (.int .i64 0)), none⟩] [0, 1, 5] [])
  (.block 0 (.loop laws_szMailS.l0)))
  (.seq (.reg [⟨some 26, .mv (.t 1), none⟩,
    ⟨some 4, .mv (.t 26), none⟩] [4] [])
  (.ret)))))
def laws_szMailS.m : Fn := { np := 2, body := laws_szMailS.b, res := [.tmp 4] }
def laws_szMailS.k (M : Nat → Option Body) : Prop := M 107 = some (.code laws_szMailS.m) ∧ laws_szMail.k M
def laws_szBox.b : C := .seq (.reg [⟨some 2, .box (.t 0), none⟩,
    ⟨some 4, .mv (.k (.int .i64 0)), none⟩] [1, 2] [2])
  (.seq (.reg [⟨some 5, .mv (.t 1), none⟩,
    ⟨some 6, .faddr 1 (.t 2), none⟩,
    ⟨some 7, .load false 1 (.t 6), none⟩,
    ⟨some 8, .slen (.t 7), none⟩,
    ⟨some 9, .bin .sub (.t 5) (.t 8), none⟩,
    ⟨some 1, .mv (.t 9), none⟩] [1, 2] [2])
  (.seq (.seq (.reg [⟨some 10, .mv (.t 1), none⟩,
    ⟨some 11, .bin .lss (.t 10) (.k (.int .i64 0)), none⟩] [1, 2, 11] [2])
  (.cond (.t 11) (.seq (.reg [⟨some 4, .mv (.k (.int .i64 (-1))), none⟩] [4] [])
  (.ret)) (.skip)))
  (.seq (.reg [⟨some 12, .faddr 5 (.t 2), none⟩,
    ⟨some 13, .load false 1 (.t 12), none⟩,
    ⟨some 14, .mv (.t 1), none⟩,
    ⟨some 15, .call 107 [.t 13, .t 14] [] [], none⟩,
    ⟨some 1, .mv (.t 15), none⟩] [1, 2] [2])
  (.seq (.seq (.reg [⟨some 16, .mv (.t 1), none⟩,
    ⟨some 17, .bin .lss (.t 16) (.k (.int .i64 0)), none⟩] [1, 2, 17] [2])
  (.cond (.t 17) (.seq (.reg [⟨some 4, .mv (.k (.int .i64 (-1))), none⟩] [4] [])
  (.ret)) (.skip)))
  (.seq (.reg [⟨some 18, .faddr 6 (.t 2), none⟩,
    ⟨some 19, .load false 1 (.t 18), none⟩,
    ⟨some 20, .mv (.t 1), none⟩,
    ⟨some 21, .call 108 [.t 19, .t 20] [] [], none⟩,
    ⟨some 1, .mv (.t 21), none⟩] [1] [])
  (.seq (.seq (.reg [⟨some 22, .mv (.t 1), none⟩,
    ⟨some 23, .bin .lss (.t 22) (.k (.int .i64 0)), none⟩] [1, 23] [])
  (.cond (.t 23) (.seq (.reg [⟨some 4, .mv (.k (.int .i64 (-1))), none⟩] [4] [])
  (.ret)) (.skip)))
  (.seq (.reg [⟨some 24, .mv (.t 1), none⟩,
    ⟨some 4, .mv (.t 24), none⟩] [4] [])
  (.ret))))))))
def laws_szBox.m : Fn := { np := 2, body := laws_szBox.b, res := [.tmp 4] }
def laws_szBox.k (M : Nat → Option Body) : Prop := M 17 = some (.code laws_szBox.m) ∧ laws_szMailS.k M ∧ laws_szIntS.k M
def laws_eqStamp.b : C := .seq (.reg [⟨some 2, .box (.t 0), none⟩,
    ⟨some 3, .box (.t 1), none⟩,
    ⟨some 4, .mv (.k (.bool false)), none⟩] [2, 3] [2, 3])
  (.seq (.seq (.reg [⟨some 5, .faddr 0 (.t 2), none⟩,
    ⟨some 6, .load false 1 (.t 5), none⟩,
    ⟨some 7, .faddr 0 (.t 3), none⟩,
    ⟨some 8, .load false 1 (.t 7), none⟩,
    ⟨some 9, .bin .neq (.t 6) (.t 8), none⟩] [2, 3, 9] [2, 3])
  (.cond (.t 9) (.seq (.reg [⟨some 4, .mv (.k (.bool false)), none⟩] [4] [])
  (.ret)) (.skip)))
  (.seq (.seq (.reg [⟨some 10, .faddr 1 (.t 2), none⟩,
    ⟨some 11, .load false 1 (.t 10), none⟩,
    ⟨some 12, .faddr 1 (.t 3), none⟩,
    ⟨some 13, .load false 1 (.t 12), none⟩,
    ⟨some 14, .bin .neq (.t 11) (.t 13), none⟩] [14] [])
  (.cond (.t 14) (.seq (.reg [⟨some 4, .mv (.k (.bool false)), none⟩] [4] [])
  (.ret)) (.skip)))
  (.seq (.reg [⟨some 4, .mv (.k (.bool true)), none⟩] [4] [])
  (.ret))))
def laws_eqStamp.m : Fn := { np := 2, body := laws_eqStamp.b, res := [.tmp 4] }
def laws_eqStamp.k (M : Nat → Option Body) : Prop := M 111 = some (.code laws_eqStamp.m)
def laws_eqReg.b : C := .seq (.reg [⟨some 2, .box (.t 0), none⟩,
    ⟨some 3, .box (.t 1), none⟩,
    ⟨some 4, .mv (.k (.bool false)), none⟩] [2, 3] [2, 3])
  (.seq (.seq (.reg [⟨some 5, .faddr 0 (.t 2), none⟩,
    ⟨some 6, .load false 1 (.t 5), none⟩,
    ⟨some 7, .faddr 0 (.t 3), none⟩,
    ⟨some 8, .load false 1 (.t 7), none⟩,
    ⟨some 9, .bin .neq (.t 6) (.t 8), none⟩] [2, 3, 9] [2, 3])
  (.cond (.t 9) (.seq (.reg [⟨some 4, .mv (.k (.bool false)), none⟩] [4] [])
  (.ret)) (.skip)))
  (.seq (.seq (.reg [⟨some 10, .faddr 1 (.t 2), none⟩,
    ⟨some 11, .load true 2 (.t 10), none⟩,
    ⟨some 12, .faddr 1 (.t 3), none⟩,
    ⟨some 13, .load true 2 (.t 12), none⟩,
    ⟨some 14, .call 111 [.t 11, .t 13] [] [], none⟩,
    ⟨some 15, .not (.t 14), none⟩] [15] [])
  (.cond (.t 15) (.seq (.reg [⟨some 4, .mv (.k (.bool false)), none⟩] [4] [])
  (.ret)) (.skip)))
  (.seq (.reg [⟨some 4, .mv (.k (.bool true)), none⟩] [4] [])
  (.ret))))
def laws_eqReg.m : Fn := { np := 2, body := laws_eqReg.b, res := [.tmp 4] }
def laws_eqReg.k (M : Nat → Option Body) : Prop := M 289 = some (.code laws_eqReg.m) ∧ laws_eqStamp.k M
def laws_eqRegS.l0 : C := .seq (.seq (.reg [⟨some 11, .mv (.t 5), none⟩,
    ⟨some 12, .mv (.t 0), none⟩,
    ⟨some 13, .len (.t 12), none⟩,
    ⟨some 14, .bin .lss (.t 11) (.t 13), none⟩] [0, 1, 5, 14] [])
  (.cond (.t 14) (.skip) (.exit 0)))
  (.seq (.block 1 (.seq (.regd [⟨some 17, .mv (.t 0), none⟩,
    ⟨some 18, .mv (.t 5), none⟩,
    ⟨some 19, .iaddr 3 (.t 17) (.t 18), none⟩,
    ⟨some 20, .load true 3 (.t 19), none⟩,
    ⟨some 21, .mv (.t 1), none⟩,
    ⟨some 22, .mv (.t 5), none⟩,
    ⟨some 23, .iaddr 3 (.t 21) (.t 22), none⟩,
    ⟨some 24, .load true 3 (.t 23), none⟩,
    ⟨some 25, .call 289 [.t 20, .t 24] [] [], none⟩,
    ⟨some 26, .not (.t 25), none⟩] [[], [], [0, 1], [0, 1, 2], [], [], [4, 5], [4, 5, 6], [0, 1, 2, 3, 4, 5, 6, 7], [0, 1, 2, 3, 4, 5, 6, 7, 8]] [0, 1, 5, 26] [])
  (.cond (.t 26) (.seq (.reg [⟨some 4, .mv (.k (.bool false)), none⟩] [4] [])
  (.ret)) (.skip))))
  (.reg [⟨some 15, .mv (.t 5), none⟩,
    ⟨some 16, .bin .add (.t 15) (.k (.int .i64 1)), none⟩,
    ⟨some 5, .mv (.t 16), none⟩] [0, 1, 5] []))
def laws_eqRegS.b : C := .seq (.reg [⟨some 4, .mv (.k (.bool false)), none⟩] [0, 1] [])
  (.seq (.seq (.reg [⟨some 6, .mv (.t 0), none⟩,
    ⟨some 7, .len (.t 6), none⟩,
    ⟨some 8, .mv (.t 1), none⟩,
    ⟨some 9, .len (.t 8), none⟩,
    ⟨some 10, .bin .neq (.t 7) (.t 9), none⟩] [0, 1, 10] [])
  (.cond (.t 10) (.seq (.reg [⟨some 4, .mv (.k (.bool false)), none⟩] [4] [])
  (.ret)) (.skip)))
  (.seq (.seq (.reg [⟨some 5, .mv (.k (.int .i64 0)), none⟩] [0, 1, 5] [])
  (.block 0 (.loop laws_eqRegS.l0)))
  (.seq (.reg [⟨some 4, .mv (.k (.bool true)), none⟩] [4] [])
  (.ret))))
def laws_eqRegS.m : Fn := { np := 2, body := laws_eqRegS.b, res := [.tmp 4] }
def laws_eqRegS.k (M : Nat → Option Body) : Prop := M 252 = some (.code laws_eqRegS.m) ∧ laws_eqReg.k M
def laws_eqMail.b : C := .seq (.reg [⟨some 2, .box (.t 0), none⟩,
    ⟨some 3, .box (.t 1), none⟩,
    ⟨some 4, .mv (.k (.bool false)), none⟩] [2, 3] [2, 3])
  (.seq (.seq (.reg [⟨some 5, .faddr 0 (.t 2), none⟩,
    ⟨some 6, .load false 1 (.t 5), none⟩,
    ⟨some 7, .faddr 0 (.t 3), none⟩,
    ⟨some 8, .load false 1 (.t 7), none⟩,
    ⟨some 9, .bin .neq (.t 6) (.t 8), none⟩] [2, 3, 9] [2, 3])
  (.cond (.t 9) (.seq (.reg [⟨some 4, .mv (.k (.bool false)), none⟩] [4] [])
  (.ret)) (.skip)))
  (.seq (.seq (.reg [⟨some 10, .faddr 1 (.t 2), none⟩,
    ⟨some 11, .load false 1 (.t 10), none⟩,
    ⟨some 12, .faddr 1 (.t 3), none⟩,
    ⟨some 13, .load false 1 (.t 12), none⟩,
    ⟨some 14, .bin .neq (.t 11) (.t 13), none⟩] [2, 3, 14] [2, 3])
  (.cond (.t 14) (.seq (.reg [⟨some 4, .mv (.k (.bool false)), none⟩] [4] [])
  (.ret)) (.skip)))
  (.seq (.seq (.reg [⟨some 15, .faddr 2 (.t 2), none⟩,
    ⟨some 16, .load false 1 (.t 15), none⟩,
    ⟨some 17, .faddr 2 (.t 3), none⟩,
    ⟨some 18, .load false 1 (.t 17), none⟩,
    ⟨some 19, .call 252 [.t 16, .t 18] [] [], none⟩,
    ⟨some 20, .not (.t 19), none⟩] [2, 3, 20] [2, 3])
  (.cond (.t 20) (.seq (.reg [⟨some 4, .mv (.k (.bool false)), none⟩] [4] [])
  (.ret)) (.skip)))
  (.seq (.seq (.reg [⟨some 21, .faddr 3 (.t 2), none⟩,
    ⟨some 22, .load false 1 (.t 21), none⟩,
    ⟨some 23, .faddr 3 (.t 3), none⟩,
    ⟨some 24, .load false 1 (.t 23), none⟩,
    ⟨some 25, .bin .neq (.t 22) (.t 24), none⟩] [25] [])
  (.cond (.t 25) (.seq (.reg [⟨some 4, .mv (.k (.bool false)), none⟩] [4] [])
  (.ret)) (.skip)))
  (.seq (.reg [⟨some 4, .mv (.k (.bool true)), none⟩] [4] [])
  (.ret))))))
def laws_eqMail.m : Fn := { np := 2, body := laws_eqMail.b, res := [.tmp 4] }
def laws_eqMail.k (M : Nat → Option Body) : Prop := M 210 = some (.code laws_eqMail.m) ∧ laws_eqRegS.k M
def laws_eqMailS.l0 : C := .seq (.seq (.reg [⟨some 11, .mv (.t 5), none⟩,
    ⟨some 12, .mv (.t 0), none⟩,
    ⟨some 13, .len (.t 12), none⟩,
    ⟨some 14, .bin .lss (.t 11) (.t 13), none⟩] [0, 1, 5, 14] [])
  (.cond (.t 14) (.skip) (.exit 0)))
  (.seq (.block 1 (.seq (.regd [⟨some 17, .mv (.t 0), none⟩,
    ⟨some 18, .mv (.t 5), none⟩,
    ⟨some 19, .iaddr 4 (.t 17) (.t 18), none⟩,
    ⟨some 20, .load true 4 (.t 19), none⟩,
    ⟨some 21, .mv (.t 1), none⟩,
    ⟨some 22, .mv (.t 5), none⟩,
    ⟨some 23, .iaddr 4 (.t 21) (.t 22), none⟩,
    ⟨some 24, .load true 4 (.t 23), none⟩,
    ⟨some 25, .call 210 [.t 20, .t 24] [] [], none⟩,
    ⟨some 26, .not (.t 25), none⟩] [[], [], [0, 1], [0, 1, 2], [], [], [4, 5], [4, 5, 6], [0, 1, 2, 3, 4, 5, 6, 7], [0, 1, 2, 3, 4, 5, 6, 7, 8]] [0, 1, 5, 26] [])
  (.cond (.t 26) (.seq (.reg [⟨some 4, .mv (.k (.bool false)), none⟩] [4] [])
  (.ret)) (.skip))))
  (.reg [⟨some 15, .mv (.t 5), none⟩,
    ⟨some 16, .bin .add (.t 15) (.k (.int .i64 1)), none⟩,
    ⟨some 5, .mv (.t 16), none⟩] [0, 1, 5] []))
def laws_eqMailS.b : C := .seq (.reg [⟨some 4, .mv (.k (.bool false)), none⟩] [0, 1] [])
  (.seq (.seq (.reg [⟨some 6, .mv (.t 0), none⟩,
    ⟨some 7, .len (.t 6), none⟩,
    ⟨some 8, .mv (.t 1), none⟩,
    ⟨some 9, .len (.t 8), none⟩,
    ⟨some 10, .bin .neq (.t 7) (.t 9), none⟩] [0, 1, 10] [])
  (.cond (.t 10) (.seq (.reg [⟨some 4, .mv (.k (.bool false)), none⟩] [4] [])
  (.ret)) (.skip)))
  (.seq (.seq (.reg [⟨some 5, .mv (.k (.int .i64 0)), none⟩] [0, 1, 5] [])
  (.block 0 (.loop laws_eqMailS.l0)))
  (.seq (.reg [⟨some 4, .mv (.k (.bool true)), none⟩] [4] [])
  (.ret))))
def laws_eqMailS.m : Fn := { np := 2, body := laws_eqMailS.b, res := [.tmp 4] }
def laws_eqMailS.k (M : Nat → Option Body) : Prop := M 112 = some (.code laws_eqMailS.m) ∧ laws_eqMail.k M
def laws_eqBox.b : C := .seq (.reg [⟨some 2, .box (.t 0), none⟩,
    ⟨some 3, .box (.t 1), none⟩,
    ⟨some 4, .mv (.k (.bool false)), none⟩] [2, 3] [2, 3])
  (.seq (.seq (.reg [⟨some 5, .faddr 0 (.t 2), none⟩,
    ⟨some 6, .load false 1 (.t 5), none⟩,
    ⟨some 7, .faddr 0 (.t 3), none⟩,
    ⟨some 8, .load false 1 (.t 7), none⟩,
    ⟨some 9, .bin .neq (.t 6) (.t 8), none⟩] [2, 3, 9] [2, 3])
  (.cond (.t 9) (.seq (.reg [⟨some 4, .mv (.k (.bool false)), none⟩] [4] [])
  (.ret)) (.skip)))
  (.seq (.seq (.reg [⟨some 10, .faddr 1 (.t 2), none⟩,
    ⟨some 11, .load false 1 (.t 10), none⟩,
    ⟨some 12, .faddr 1 (.t 3), none⟩,
    ⟨some 13, .load false 1 (.t 12), none⟩,
    ⟨some 14, .bin .neq (.t 11) (.t 13), none⟩] [2, 3, 14] [2, 3])
  (.cond (.t 14) (.seq (.reg [⟨some 4, .mv (.k (.bool false)), none⟩] [4] [])
  (.ret)) (.skip)))
  (.seq (.seq (.reg [⟨some 15, .faddr 2 (.t 2), none⟩,
    ⟨some 16, .load true 2 (.t 15), none⟩,
    ⟨some 17, .faddr 2 (.t 3), none⟩,
    ⟨some 18, .load true 2 (.t 17), none⟩,
    ⟨some 19, .call 111 [.t 16, .t 18] [] [], none⟩,
    ⟨some 20, .not (.t 19), none⟩] [2, 3, 20] [2, 3])
  (.cond (.t 20) (.seq (.reg [⟨some 4, .mv (.k (.bool false)), none⟩] [4] [])
  (.ret)) (.skip)))
  (.seq (.seq (.reg [⟨some 21, .faddr 4 (.t 2), none⟩,
    ⟨some 22, .load false 1 (.t 21), none⟩,
    ⟨some 23, .faddr 4 (.t 3), none⟩,
    ⟨some 24, .load false 1 (.t 23), none⟩,
    ⟨some 25, .bin .neq (.t 22) (.t 24), none⟩] [2, 3, 25] [2, 3])
  (.cond (.t 25) (.seq (.reg [⟨some 4, .mv (.k (.bool false)), none⟩] [4] [])
  (.ret)) (.skip)))
  (.seq (.seq (.reg [⟨some 26, .faddr 5 (.t 2), none⟩,
    ⟨some 27, .load false 1 (.t 26), none⟩,
    ⟨some 28, .faddr 5 (.t 3), none⟩,
    ⟨some 29, .load false 1 (.t 28), none⟩,
    ⟨some 30, .call 112 [.t 27, .t 29] [] [], none⟩,
    ⟨some 31, .not (.t 30), none⟩] [2, 3, 31] [2, 3])
  (.cond (.t 31) (.seq (.reg [⟨some 4, .mv (.k (.bool false)), none⟩] [4] [])
  (.ret)) (.skip)))
  (.seq (.seq (.reg [⟨some 32, .faddr 6 (.t 2), none⟩,
    ⟨some 33, .load false 1 (.t 32), none⟩,
    ⟨some 34, .faddr 6 (.t 3), none⟩,
    ⟨some 35, .load false 1 (.t 34), none⟩,
    ⟨some 36, .call 45 [.t 33, .t 35] [] [], none⟩,
    ⟨some 37, .not (.t 36), none⟩] [37] [])
  (.cond (.t 37) (.seq (.reg [⟨some 4, .mv (.k (.bool false)), none⟩] [4] [])
  (.ret)) (.skip)))
  (.seq (.reg [⟨some 4, .mv (.k (.bool true)), none⟩] [4] [])
  (.ret))))))))
def laws_eqBox.m : Fn := { np := 2, body := laws_eqBox.b, res := [.tmp 4] }
def laws_eqBox.k (M : Nat → Option Body) : Prop := M 21 = some (.code laws_eqBox.m) ∧ laws_eqIntS.k M ∧ laws_eqStamp.k M ∧ laws_eqMailS.k M
end Mx

/-
  The laws' plumbing at any type: what slices weigh.
-/
namespace Mx
open Go
variable {M : Nat → Option Body}
def szLb : C := .seq (.reg [⟨some 4, .mv (.k (.int .i64 0)), none⟩] [0, 1] [])
  (.seq (.reg [⟨some 5, .mv (.t 1), none⟩,
    ⟨some 6, .mv (.t 0), none⟩,
    ⟨some 7, .len (.t 6), none⟩,
    ⟨some 8, .bin .sub (.t 5) (.t 7), none⟩,
    ⟨some 1, .mv (.t 8), none⟩] [1] [])
  (.seq (.seq (.reg [⟨some 9, .mv (.t 1), none⟩,
    ⟨some 10, .bin .lss (.t 9) (.k (.int .i64 0)), none⟩] [1, 10] [])
  (.cond (.t 10) (.seq (.reg [⟨some 4, .mv (.k (.int .i64 (-1))), none⟩] [4] [])
  (.ret)) (.skip)))
  (.seq (.reg [⟨some 11, .mv (.t 1), none⟩,
    ⟨some 4, .mv (.t 11), none⟩] [4] [])
  (.ret))))
def szLm : Fn := { np := 2, body := szLb, res := [.tmp 4] }
theorem szL_says {F n : Nat} (h : M F = some (.code szLm)) {rows : List (List T)} (hl : rows.length ≤ 9223372036854775807) (k : Int) (hk : 0 ≤ k) (hk' : k ≤ 9223372036854775807) :
    run M F [.c (.sl false n rows), .c (I k)] [] = some (.c (I (if k < rows.length then -1 else k - rows.length)), []) := by
  refine run_code (b := szLm) h ⟨0, ?_⟩
  have e5 : IntKind.i64.wrap (k - (rows.length : Int)) = k - (rows.length : Int) := wrap_i64 (by omega) (by omega)
  by_cases hc : k < rows.length
  · have h1 : k - (rows.length : Int) < 0 := by omega
    simp [exB, szLm, szLb, List.range_succ, e5, h1, hc]
  · have h1 : ¬ k - (rows.length : Int) < 0 := by omega
    simp [exB, szLm, szLb, List.range_succ, e5, h1, hc]

theorem call_sz {n : Nat} {o : List (Nat × Ob)} {f : Nat} {r : List T} {k m : Int} (hr : r.all closedT = true) (h : run M f [.a r, .c (I k)] [] = some (.c (I m), [])) :
    doCall (run M) n o f [.a r, .c (I k)] [] [] = some (.c (I m), []) := by
  obtain ⟨h1, h2, _⟩ := im_closedL (o := o) hr
  simp [doCall, args, lendsC, V.im, V.wr, h1, h2, h, lentBack, back, backV, backT]
def szSl (n f : Nat) : C := .seq (.seq (.reg [⟨some 12, .mv (.t 5), none⟩,
    ⟨some 13, .mv (.t 0), none⟩,
    ⟨some 14, .len (.t 13), none⟩,
    ⟨some 15, .bin .lss (.t 12) (.t 14), none⟩] [0, 1, 5, 15] [])
  (.cond (.t 15) (.skip) (.exit 0)))
  (.seq (.block 1 (.seq (.reg [⟨some 18, .mv (.t 0), none⟩,
    ⟨some 19, .mv (.t 5), none⟩,
    ⟨some 20, .iaddr n (.t 18) (.t 19), none⟩,
    ⟨some 21, .load true n (.t 20), none⟩,
    ⟨some 22, .mv (.t 1), none⟩,
    ⟨some 23, .call f [.t 21, .t 22] [] [], none⟩,
    ⟨some 1, .mv (.t 23), none⟩] [0, 1, 5] [])
  (.seq (.reg [⟨some 24, .mv (.t 1), none⟩,
    ⟨some 25, .bin .lss (.t 24) (.k (.int .i64 0)), none⟩] [0, 1, 5, 25] [])
  (.cond (.t 25) (.seq (.reg [⟨some 4, .mv (.k (.int .i64 (-1))), none⟩] [4] [])
  (.ret)) (.skip)))))
  (.reg [⟨some 16, .mv (.t 5), none⟩,
    ⟨some 17, .bin .add (.t 16) (.k (.int .i64 1)), none⟩,
    ⟨some 5, .mv (.t 17), none⟩] [0, 1, 5] []))
def szSb (n f : Nat) : C := .seq (.reg [⟨some 4, .mv (.k (.int .i64 0)), none⟩] [0, 1] [])
  (.seq (.reg [⟨some 6, .mv (.t 1), none⟩,
    ⟨some 7, .mv (.t 0), none⟩,
    ⟨some 8, .len (.t 7), none⟩,
    ⟨some 9, .bin .sub (.t 6) (.t 8), none⟩,
    ⟨some 1, .mv (.t 9), none⟩] [0, 1] [])
  (.seq (.seq (.reg [⟨some 10, .mv (.t 1), none⟩,
    ⟨some 11, .bin .lss (.t 10) (.k (.int .i64 0)), none⟩] [0, 1, 11] [])
  (.cond (.t 11) (.seq (.reg [⟨some 4, .mv (.k (.int .i64 (-1))), none⟩] [4] [])
  (.ret)) (.skip)))
  (.seq (.seq (.reg [⟨some 5, .mv (.k (.int .i64 0)), none⟩] [0, 1, 5] [])
  (.block 0 (.loop (szSl n f))))
  (.seq (.reg [⟨some 26, .mv (.t 1), none⟩,
    ⟨some 4, .mv (.t 26), none⟩] [4] [])
  (.ret)))))
def szSm (n f : Nat) : Fn := { np := 2, body := szSb n f, res := [.tmp 4] }
def szSst (n : Nat) (rows : List (List T)) (s : Nat × Nat) (x : Nat) : St := { t := [(0, .c (.sl false n rows)), (1, .c (I s.2)), (5, .c (I s.1))], o := [], n := x }
/-- what is left of k behind these weights -/
def leftS (k : Nat) : List Nat → Option Nat
  | [] => some k
  | w :: ws => if k < w then none else leftS (k - w) ws
theorem leftS_eq : ∀ (ws : List Nat) (k : Nat), leftS k ws = if k < ws.sum then none else some (k - ws.sum)
  | [], k => by simp [leftS]
  | w :: ws, k => by
    have hs : (w :: ws).sum = w + ws.sum := List.sum_cons
    rw [leftS, leftS_eq ws]
    by_cases h : k < w
    · rw [if_pos h, if_pos (by rw [hs]; omega)]
    · rw [if_neg h]
      by_cases h2 : k - w < ws.sum
      · rw [if_pos h2, if_pos (by rw [hs]; omega)]
      · rw [if_neg h2, if_neg (by rw [hs]; omega)]; congr 1; rw [hs]; omega
def szFin (n : Nat) (rows : List (List T)) (q : Option Nat) (m : Nat) : Out × St := match q with
  | none => (.ret, { t := [(4, .c (I (-1)))], o := [], n := m })
  | some k => (.exit 0, { t := [(0, .c (.sl false n rows)), (1, .c (I k)), (5, .c (I rows.length)), (15, .c (.bool false))], o := [], n := m })
theorem szS_says {F n f : Nat} (h : M F = some (.code (szSm n f))) {rows : List (List T)} (hl : rows.length ≤ 9223372036854775807) (wt : List T → Nat)
    (he : ∀ r ∈ rows, r.length = n ∧ r.all closedT = true ∧ ∀ k : Nat, k ≤ 1048576 → run M f [.a r, .c (I k)] [] = some (.c (I (if k < wt r then -1 else (k : Int) - wt r)), [])) (k : Nat) (hk : k ≤ 1048576) :
    run M F [.c (.sl false n rows), .c (I k)] [] = some (.c (I (if k < rows.length + (rows.map wt).sum then -1 else (k : Int) - (rows.length + (rows.map wt).sum : Nat))), []) := by
  refine run_code (b := szSm n f) h ⟨rows.length + 1, ?_⟩
  have e0 : IntKind.i64.wrap ((k : Int) - (rows.length : Int)) = (k : Int) - (rows.length : Int) := wrap_i64 (by omega) (by omega)
  by_cases hc : k < rows.length
  · have h1 : (k : Int) - (rows.length : Int) < 0 := by omega
    have h2 : k < rows.length + (rows.map wt).sum := by omega
    rw [if_pos h2]
    simp [exB, szSm, szSb, List.range_succ, e0, h1]
  have h1 : ¬ (k : Int) - (rows.length : Int) < 0 := by omega
  obtain ⟨g, hr⟩ := loop_all (f := exC (run M) (rows.length + 1) (szSl n f)) (szSst n rows) (fun s => s.1 ≤ rows.length ∧ s.2 ≤ 1048576) (fun s => rows.length - s.1) (fun s => leftS s.2 ((rows.drop s.1).map wt)) (szFin n rows)
    (by
      rintro ⟨i, q⟩ x ⟨p1, p2⟩
      simp only at p1 p2
      by_cases hlt : i < rows.length
      · have e5 : IntKind.i64.wrap ((i : Int) + 1) = (i : Int) + 1 := wrap_i64 (by omega) (by omega)
        obtain ⟨k1, k2, k3⟩ := he rows[i] (List.getElem_mem hlt)
        have hcall := fun nn => call_sz (n := nn) (o := []) k2 (k3 q p2)
        have h6 : (List.take n rows[i]) = rows[i] := List.take_of_length_le (by omega)
        have hd : leftS q ((rows.drop i).map wt) = if q < wt rows[i] then none else leftS (q - wt rows[i]) ((rows.drop (i + 1)).map wt) := by
          rw [List.drop_eq_getElem_cons hlt, List.map_cons, leftS]
        simp only [hd]
        by_cases c : q < wt rows[i]
        · right
          have c' : (q : Int) < wt rows[i] := by omega
          simp only [if_pos c] at hcall
          rw [if_pos c]
          obtain ⟨y, hy⟩ : ∃ y, exC (run M) (rows.length + 1) (szSl n f) (szSst n rows (i, q) x) = some (szFin n rows none y) := by
            simp [szSst, szSl, szFin, hlt, k1, hcall, h6, -doCall]
          exact ⟨y, hy, by simp [szFin]⟩
        · left
          simp only [if_neg c] at hcall
          rw [if_neg c]
          have c2 : ¬ (q : Int) - wt rows[i] < 0 := by omega
          have c3 : (q : Int) - wt rows[i] = ((q - wt rows[i] : Nat) : Int) := by omega
          rw [c3] at hcall c2
          obtain ⟨y, hy⟩ : ∃ y, exC (run M) (rows.length + 1) (szSl n f) (szSst n rows (i, q) x) = some (.normal, szSst n rows (i + 1, q - wt rows[i]) y) := by
            simp [szSst, szSl, hlt, e5, k1, hcall, h6, c2, -doCall]
          exact ⟨(i + 1, q - wt rows[i]), y, hy, ⟨hlt, by simp only; omega⟩, by simp only; omega, rfl⟩
      · have : i = rows.length := by omega
        subst this
        right
        exact ⟨x + 64, by simp [szSst, szSl, szFin, leftS], by simp [szFin, leftS]⟩)
    (rows.length + 1) (0, k - rows.length) ⟨Nat.zero_le _, by simp only; omega⟩ (by simp)
  simp only [List.drop_zero, leftS_eq] at hr
  have h3 : (k : Int) - (rows.length : Int) = ((k - rows.length : Nat) : Int) := by omega
  rw [h3] at e0 h1
  have e0' : IntKind.i64.wrap ((k : Int) - (rows.length : Int)) = ((k - rows.length : Nat) : Int) := by rw [h3]; exact e0
  by_cases c : k < rows.length + (rows.map wt).sum
  · rw [if_pos (show k - rows.length < (rows.map wt).sum by omega)] at hr
    rw [if_pos c]
    simp [szSst, szFin] at hr
    simp [exB, szSm, szSb, List.range_succ, e0', hr, h1]
  · rw [if_neg (show ¬ k - rows.length < (rows.map wt).sum by omega)] at hr
    rw [if_neg c]
    simp [szSst, szFin] at hr
    have h4 : ((k - rows.length - (rows.map wt).sum : Nat) : Int) = (k : Int) - (rows.length + (rows.map wt).sum : Nat) := by omega
    simp [exB, szSm, szSb, List.range_succ, e0', hr, h1]
    omega
end Mx

/-
  Mails and boxes: as trees; what is laid over, weighed, held against.
-/
namespace Mx
open Go
variable {M : Nat → Option Body}
structure Reg where
  val : Int
  time : Int
  who : Int
structure Mail where
  gid : Int
  uid : Int
  flags : List Reg
  text : List UInt8
structure Box where
  gid : Int
  name : List UInt8
  time : Int
  who : Int
  next : Int
  mails : List Mail
  gone : List Int
abbrev encReg (r : Reg) : List T := [I r.val, I r.time, I r.who]
abbrev regs (l : List Reg) : T := .sl false 3 (l.map encReg)
abbrev encMail (m : Mail) : List T := [I m.gid, I m.uid, regs m.flags, S m.text]
abbrev mails (l : List Mail) : T := .sl false 4 (l.map encMail)
abbrev encBox (b : Box) : List T := [I b.gid, S b.name, I b.time, I b.who, I b.next, mails b.mails, ints b.gone]
/-- as their own -/
abbrev encMailO (m : Mail) : List T := [I m.gid, I m.uid, .sl true 3 (m.flags.map encReg), S m.text]
abbrev encBoxO (b : Box) : List T := [I b.gid, S b.name, I b.time, I b.who, I b.next, .sl true 4 (b.mails.map encMail), .sl true 1 (irow b.gone)]

/-! ## types -/
abbrev ctReg : List Ct := [.int .i64, .int .i64, .int .i64]
abbrev ctMail : List Ct := [.int .i64, .int .i64, .sl ctReg, .str]
abbrev ctBox : List Ct := [.int .i64, .str, .int .i64, .int .i64, .int .i64, .sl ctMail, .sl [.int .i64]]
theorem has_list {α : Type} {row : List Ct} (enc : α → List T) (Q : α → Prop) (hx : ∀ r, HasL row r → ∃ x, r = enc x ∧ Q x) {u : T} (h : Has (.sl row) u) :
    ∃ l : List α, u = .sl false row.length (l.map enc) ∧ l.length ≤ maxLen ∧ ∀ x ∈ l, Q x := by
  cases h with | sl _ rows hl h1 h2 =>
  have : ∀ rows : List (List T), (∀ r ∈ rows, HasL row r) → ∃ l : List α, rows = l.map enc ∧ ∀ x ∈ l, Q x := by
    intro rows
    induction rows with
    | nil => intro _; exact ⟨[], rfl, fun x h => by cases h⟩
    | cons r rs ih =>
      intro hr
      obtain ⟨l, rfl, hq⟩ := ih fun r h => hr r (List.mem_cons_of_mem _ h)
      obtain ⟨x, rfl, hqx⟩ := hx r (hr r (List.mem_cons_self ..))
      exact ⟨x :: l, rfl, fun y hy => by
        rcases List.mem_cons.1 hy with rfl | hy
        · exact hqx
        · exact hq y hy⟩
  obtain ⟨l, rfl, hq⟩ := this rows fun r hr => by
    obtain ⟨i, hi⟩ := List.getElem?_of_mem hr
    exact ⟨h1 i r hi, fun j c t e1 e2 => h2 i j r c t hi e1 e2⟩
  exact ⟨l, rfl, by simpa using hl, hq⟩
theorem has_int {k : IntKind} {u : T} (h : Has (.int k) u) : ∃ n, u = .int k n := by cases h; exact ⟨_, rfl⟩
theorem has_str {u : T} (h : Has .str u) : ∃ l : List UInt8, u = S l ∧ l.length ≤ maxLen := by
  cases h with | str s hs =>
  obtain ⟨l, rfl⟩ := of_bytes s
  exact ⟨l, rfl, by simpa using hs⟩
theorem has_reg {r : List T} (h : HasL ctReg r) : ∃ x : Reg, r = encReg x ∧ True := by
  match r, h with
  | [a, b, c], h =>
    obtain ⟨x, rfl⟩ := has_int (h.2 0 _ a rfl rfl)
    obtain ⟨y, rfl⟩ := has_int (h.2 1 _ b rfl rfl)
    obtain ⟨z, rfl⟩ := has_int (h.2 2 _ c rfl rfl)
    exact ⟨⟨x, y, z⟩, rfl, trivial⟩
def MailFits (m : Mail) : Prop := m.flags.length ≤ maxLen ∧ m.text.length ≤ maxLen
theorem has_mail {r : List T} (h : HasL ctMail r) : ∃ x : Mail, r = encMail x ∧ MailFits x := by
  match r, h with
  | [a, b, c, d], h =>
    obtain ⟨x, rfl⟩ := has_int (h.2 0 _ a rfl rfl)
    obtain ⟨y, rfl⟩ := has_int (h.2 1 _ b rfl rfl)
    obtain ⟨l, rfl, hl, _⟩ := has_list encReg (fun _ => True) (fun r hr => has_reg hr) (h.2 2 _ c rfl rfl)
    obtain ⟨t, rfl, ht⟩ := has_str (h.2 3 _ d rfl rfl)
    exact ⟨⟨x, y, l, t⟩, rfl, hl, ht⟩
def BoxFits (b : Box) : Prop := b.name.length ≤ maxLen ∧ b.mails.length ≤ maxLen ∧ b.gone.length ≤ maxLen ∧ ∀ m ∈ b.mails, MailFits m
theorem has_box {r : List T} (h : HasL ctBox r) : ∃ x : Box, r = encBox x ∧ BoxFits x := by
  match r, h with
  | [a, b, c, d, e, f, g], h =>
    obtain ⟨x1, rfl⟩ := has_int (h.2 0 _ a rfl rfl)
    obtain ⟨x2, rfl, h2⟩ := has_str (h.2 1 _ b rfl rfl)
    obtain ⟨x3, rfl⟩ := has_int (h.2 2 _ c rfl rfl)
    obtain ⟨x4, rfl⟩ := has_int (h.2 3 _ d rfl rfl)
    obtain ⟨x5, rfl⟩ := has_int (h.2 4 _ e rfl rfl)
    obtain ⟨x6, rfl, h6, q6⟩ := has_list encMail MailFits (fun r hr => has_mail hr) (h.2 5 _ f rfl rfl)
    obtain ⟨x7, rfl, h7, _⟩ := has_list (fun n : Int => [I n]) (fun _ => True) (fun r hr => by
      match r, hr with
      | [a], hr => obtain ⟨n, rfl⟩ := has_int (hr.2 0 _ a rfl rfl); exact ⟨n, rfl, trivial⟩) (h.2 6 _ g rfl rfl)
    exact ⟨⟨x1, x2, x3, x4, x5, x6, x7⟩, rfl, h2, h6, h7, q6⟩

/-! ## weights -/
def wMail (m : Mail) : Nat := m.flags.length + m.text.length
def wMails (l : List Mail) : Nat := l.length + (l.map wMail).sum
def wBox (b : Box) : Nat := b.name.length + wMails b.mails + b.gone.length
theorem le_sum {α : Type} (f : α → Nat) : ∀ (l : List α) (x : α), x ∈ l → f x ≤ (l.map f).sum
  | y :: l, x, h => by
    have hs : ((y :: l).map f).sum = f y + (l.map f).sum := List.sum_cons
    rcases List.mem_cons.1 h with rfl | h
    · omega
    · have := le_sum f l x h; omega
theorem wMail_le {l : List Mail} {m : Mail} (h : m ∈ l) : wMail m ≤ wMails l := by
  have := le_sum wMail l m h
  unfold wMails; omega

theorem laws_szRegS.says (h : laws_szRegS.k M) (l : List Reg) (hl : l.length ≤ maxLen) (k : Nat) (hk : k ≤ 1048576) : run M 250 [.c (regs l), .c (I k)] [] = some (.c (I (if k < l.length then -1 else (k : Int) - l.length)), []) := by
  have hm : maxLen = 9223372036854775807 := rfl
  have := szL_says (M := M) (F := 250) (n := 3) h (rows := l.map encReg) (by simp; omega) k (by omega) (by omega)
  simpa using this
theorem laws_szMail.says (h : laws_szMail.k M) (m : Mail) (hm : MailFits m) (k : Nat) (hk : k ≤ 1048576) : run M 208 [.a (encMail m), .c (I k)] [] = some (.c (I (if k < wMail m then -1 else (k : Int) - wMail m)), []) := by
  have hx : maxLen = 9223372036854775807 := rfl
  obtain ⟨f1, f2⟩ := hm
  have h1 := laws_szRegS.says h.2 m.flags f1 k hk
  refine run_code (b := laws_szMail.m) h.1 ⟨0, ?_⟩
  unfold wMail
  by_cases c1 : k < m.flags.length
  · rw [if_pos c1] at h1
    rw [if_pos (show k < m.flags.length + m.text.length by omega)]
    simp [exB, laws_szMail.m, laws_szMail.b, List.range_succ, h1]
  · rw [if_neg c1] at h1
    have e1 : ¬ (k : Int) - m.flags.length < 0 := by omega
    have e2 : IntKind.i64.wrap ((k : Int) - m.flags.length - m.text.length) = (k : Int) - m.flags.length - m.text.length := wrap_i64 (by omega) (by omega)
    by_cases c2 : k < m.flags.length + m.text.length
    · have e3 : (k : Int) - m.flags.length - m.text.length < 0 := by omega
      rw [if_pos c2]
      simp [exB, laws_szMail.m, laws_szMail.b, List.range_succ, h1, e1, e2, e3]
    · have e3 : ¬ (k : Int) - m.flags.length - m.text.length < 0 := by omega
      rw [if_neg c2]
      have e4 : (k : Int) - (m.flags.length + m.text.length : Nat) = (k : Int) - m.flags.length - m.text.length := by omega
      rw [e4]
      simp [exB, laws_szMail.m, laws_szMail.b, List.range_succ, h1, e1, e2, e3]
theorem closed_mail (m : Mail) : (encMail m).all closedT = true := rfl
theorem closed_reg (m : Reg) : (encReg m).all closedT = true := rfl
/-- what a row of a mail weighs -/
def wRow : List T → Nat
  | [_, _, .sl _ _ rows, .str s] => rows.length + s.size
  | _ => 0
theorem wRow_mail (m : Mail) : wRow (encMail m) = wMail m := by simp [wRow, wMail]
theorem laws_szMailS.says (h : laws_szMailS.k M) (l : List Mail) (hl : l.length ≤ maxLen) (hm : ∀ m ∈ l, MailFits m) (k : Nat) (hk : k ≤ 1048576) :
    run M 107 [.c (mails l), .c (I k)] [] = some (.c (I (if k < wMails l then -1 else (k : Int) - wMails l)), []) := by
  have hx : maxLen = 9223372036854775807 := rfl
  have := szS_says (M := M) (F := 107) (n := 4) (f := 208) h.1 (rows := l.map encMail) (by simp; omega) wRow (by
    intro r hr
    obtain ⟨m, hmm, rfl⟩ := List.mem_map.1 hr
    refine ⟨rfl, rfl, fun k hk => ?_⟩
    rw [wRow_mail]
    exact laws_szMail.says h.2 m (hm m hmm) k hk) k hk
  have e : ((l.map encMail).map wRow).sum = (l.map wMail).sum := by
    rw [List.map_map]; congr 1; apply List.map_congr_left; intro m _; exact wRow_mail m
  rw [e, List.length_map] at this
  exact this
theorem laws_szBox.says (h : laws_szBox.k M) (b : Box) (hb : BoxFits b) (k : Nat) (hk : k ≤ 1048576) : run M 17 [.a (encBox b), .c (I k)] [] = some (.c (I (if k < wBox b then -1 else (k : Int) - wBox b)), []) := by
  have hx : maxLen = 9223372036854775807 := rfl
  obtain ⟨f1, f2, f3, f4⟩ := hb
  obtain ⟨h0, k1, k2⟩ := h
  refine run_code (b := laws_szBox.m) h0 ⟨0, ?_⟩
  have e1 : IntKind.i64.wrap ((k : Int) - b.name.length) = (k : Int) - b.name.length := wrap_i64 (by omega) (by omega)
  by_cases c1 : k < b.name.length
  · have d1 : (k : Int) - b.name.length < 0 := by omega
    rw [if_pos (show k < wBox b by unfold wBox; omega)]
    simp [exB, laws_szBox.m, laws_szBox.b, List.range_succ, e1, d1]
  have d1 : ¬ (k : Int) - b.name.length < 0 := by omega
  have h1 := laws_szMailS.says k1 b.mails f2 f4 (k - b.name.length) (by omega)
  rw [show ((k - b.name.length : Nat) : Int) = (k : Int) - b.name.length by omega] at h1
  by_cases c2 : k - b.name.length < wMails b.mails
  · rw [if_pos c2] at h1
    rw [if_pos (show k < wBox b by unfold wBox; omega)]
    simp [exB, laws_szBox.m, laws_szBox.b, List.range_succ, e1, d1, h1]
  rw [if_neg c2] at h1
  have d2 : ¬ (k : Int) - b.name.length - wMails b.mails < 0 := by omega
  have h2 := laws_szIntS.says k2 b.gone (by omega) ((k : Int) - b.name.length - wMails b.mails) (by omega) (by omega)
  by_cases c3 : (k : Int) - b.name.length - wMails b.mails < b.gone.length
  · rw [if_pos c3] at h2
    rw [if_pos (show k < wBox b by unfold wBox; omega)]
    simp [exB, laws_szBox.m, laws_szBox.b, List.range_succ, e1, d1, d2, h1, h2]
  · rw [if_neg c3] at h2
    have d3 : ¬ (k : Int) - b.name.length - wMails b.mails - b.gone.length < 0 := by omega
    rw [if_neg (show ¬ k < wBox b by unfold wBox; omega)]
    have e4 : (k : Int) - (wBox b : Nat) = (k : Int) - b.name.length - wMails b.mails - b.gone.length := by unfold wBox; omega
    rw [e4]
    simp [exB, laws_szBox.m, laws_szBox.b, List.range_succ, e1, d1, d2, d3, h1, h2]

/-! ## laid over -/
theorem laws_toStamp.says (h : laws_toStamp.k M) (a b : Int) : run M 109 [.a [I a, I b]] [] = some (.a [I a, I b], []) := by
  refine run_code (b := laws_toStamp.m) h ⟨0, ?_⟩
  simp [exB, laws_toStamp.m, laws_toStamp.b, List.range_succ]
theorem laws_toReg.says (h : laws_toReg.k M) (r : Reg) : run M 288 [.a (encReg r)] [] = some (.a (encReg r), []) := by
  have h1 := laws_toStamp.says h.2 r.time r.who
  refine run_code (b := laws_toReg.m) h.1 ⟨0, ?_⟩
  simp [exB, laws_toReg.m, laws_toReg.b, List.range_succ, h1]
theorem laws_toRegS.says (h : laws_toRegS.k M) (l : List Reg) (hl : l.length ≤ 1048576) : run M 251 [.c (regs l)] [] = some (.c (.sl true 3 (l.map encReg)), []) := by
  refine toS_says (M := M) (F := 251) (n := 3) (by' := 24) (z := [.int .i64 0, .int .i64 0, .int .i64 0]) (f := 288) h.1 rfl (by simpa using hl) (by omega) (fun r hr => ?_)
  obtain ⟨x, _, rfl⟩ := List.mem_map.1 hr
  exact ⟨rfl, rfl, _, laws_toReg.says h.2 x, rfl, rfl⟩
theorem laws_toMail.says (h : laws_toMail.k M) (m : Mail) (hm : wMail m ≤ 1048576) : run M 209 [.a (encMail m)] [] = some (.a (encMailO m), []) := by
  have h1 := laws_toRegS.says h.2 m.flags (by unfold wMail at hm; omega)
  refine run_code (b := laws_toMail.m) h.1 ⟨0, ?_⟩
  simp [exB, laws_toMail.m, laws_toMail.b, List.range_succ, h1, setAt, List.take_of_length_le]
theorem laws_toMailS.says (h : laws_toMailS.k M) (l : List Mail) (hl : wMails l ≤ 1048576) : run M 110 [.c (mails l)] [] = some (.c (.sl true 4 (l.map encMail)), []) := by
  refine toS_says (M := M) (F := 110) (n := 4) (by' := 56) (z := [.int .i64 0, .int .i64 0, .nils 3, .str ⟨#[]⟩]) (f := 209) h.1 rfl (by simp; unfold wMails at hl; omega) (by omega) (fun r hr => ?_)
  obtain ⟨x, hx, rfl⟩ := List.mem_map.1 hr
  exact ⟨rfl, rfl, _, laws_toMail.says h.2 x (Nat.le_trans (wMail_le hx) hl), rfl, rfl⟩
theorem laws_toBox.says (h : laws_toBox.k M) (b : Box) (hb : wBox b ≤ 1048576) : run M 18 [.a (encBox b)] [] = some (.a (encBoxO b), []) := by
  obtain ⟨h0, k1, k2, k3⟩ := h
  have h1 := laws_toIntS.says k1 b.gone (by unfold wBox at hb; omega)
  have h2 := laws_toStamp.says k2 b.time b.who
  have h3 := laws_toMailS.says k3 b.mails (by unfold wBox at hb; omega)
  refine run_code (b := laws_toBox.m) h0 ⟨0, ?_⟩
  simp [exB, laws_toBox.m, laws_toBox.b, List.range_succ, h1, h2, h3, setAt, List.take_of_length_le]

/-! ## held against -/
theorem laws_eqStamp.says (h : laws_eqStamp.k M) (a b : Int) : run M 111 [.a [I a, I b], .a [I a, I b]] [] = some (.c (.bool true), []) := by
  refine run_code (b := laws_eqStamp.m) h ⟨0, ?_⟩
  simp [exB, laws_eqStamp.m, laws_eqStamp.b, List.range_succ]
theorem laws_eqReg.says (h : laws_eqReg.k M) (r : Reg) : run M 289 [.a (encReg r), .a (encReg r)] [] = some (.c (.bool true), []) := by
  have h1 := laws_eqStamp.says h.2 r.time r.who
  refine run_code (b := laws_eqReg.m) h.1 ⟨0, ?_⟩
  simp [exB, laws_eqReg.m, laws_eqReg.b, List.range_succ, h1]
theorem laws_eqRegS.says (h : laws_eqRegS.k M) (l : List Reg) (hl : l.length ≤ 1048576) : run M 252 [.c (regs l), .c (regs l)] [] = some (.c (.bool true), []) := by
  refine eqS_says (M := M) (F := 252) (n := 3) (f := 289) h.1 (by simp; omega) (fun r hr => ?_)
  obtain ⟨x, _, rfl⟩ := List.mem_map.1 hr
  exact ⟨rfl, rfl, laws_eqReg.says h.2 x⟩
theorem laws_eqMail.says (h : laws_eqMail.k M) (m : Mail) (hm : wMail m ≤ 1048576) : run M 210 [.a (encMail m), .a (encMail m)] [] = some (.c (.bool true), []) := by
  have h1 := laws_eqRegS.says h.2 m.flags (by unfold wMail at hm; omega)
  refine run_code (b := laws_eqMail.m) h.1 ⟨0, ?_⟩
  simp [exB, laws_eqMail.m, laws_eqMail.b, List.range_succ, h1]
theorem laws_eqMailS.says (h : laws_eqMailS.k M) (l : List Mail) (hl : wMails l ≤ 1048576) : run M 112 [.c (mails l), .c (mails l)] [] = some (.c (.bool true), []) := by
  refine eqS_says (M := M) (F := 112) (n := 4) (f := 210) h.1 (by simp; unfold wMails at hl; omega) (fun r hr => ?_)
  obtain ⟨x, hx, rfl⟩ := List.mem_map.1 hr
  exact ⟨rfl, rfl, laws_eqMail.says h.2 x (Nat.le_trans (wMail_le hx) hl)⟩
theorem laws_eqBox.says (h : laws_eqBox.k M) (b : Box) (hb : wBox b ≤ 1048576) : run M 21 [.a (encBox b), .a (encBox b)] [] = some (.c (.bool true), []) := by
  obtain ⟨h0, k1, k2, k3⟩ := h
  have h1 := laws_eqIntS.says k1 b.gone (by unfold wBox at hb; omega)
  have h2 := laws_eqStamp.says k2 b.time b.who
  have h3 := laws_eqMailS.says k3 b.mails (by unfold wBox at hb; omega)
  refine run_code (b := laws_eqBox.m) h0 ⟨0, ?_⟩
  simp [exB, laws_eqBox.m, laws_eqBox.b, List.range_succ, h1, h2, h3]
end Mx

/-
  Small codes: spec.MailAt, slices.IndexFunc[[]impl.Mail,impl.Mail], impl.MailAt$1, impl.MailAt, spec.Holds, impl.Holds, laws.FnExactHolds, spec.KeepsUid, impl.KeepsUid, laws.FnExactKeepsUid.
-/
namespace Mx
open Go
def spec_MailAt.l0 : C := .seq (.seq (.reg [⟨some 6, .mv (.t 5), none⟩,
    ⟨some 7, .faddr 5 (.t 2), none⟩,
    ⟨some 8, .load false 1 (.t 7), none⟩,
    ⟨some 9, .len (.t 8), none⟩,
    ⟨some 10, .bin .lss (.t 6) (.t 9), none⟩] [1, 2, 5, 10] [2])
  (.cond (.t 10) (.skip) (.exit 0)))
  (.seq (.block 1 (.seq (.reg [⟨some 13, .faddr 5 (.t 2), none⟩,
    ⟨some 14, .load false 1 (.t 13), none⟩,
    ⟨some 15, .mv (.t 5), none⟩,
    ⟨some 16, .iaddr 4 (.t 14) (.t 15), none⟩,
    ⟨some 17, .faddr 0 (.t 16), none⟩,
    ⟨some 18, .load false 1 (.t 17), none⟩,
    ⟨some 19, .mv (.t 1), none⟩,
    ⟨some 20, .bin .eql (.t 18) (.t 19), none⟩] [1, 2, 5, 20] [2])
  (.cond (.t 20) (.seq (.reg [⟨some 21, .mv (.t 5), none⟩,
    ⟨some 4, .mv (.t 21), none⟩] [4] [])
  (.ret)) (.skip))))
  (.reg [⟨some 11, .mv (.t 5), none⟩,
    ⟨some 12, .bin .add (.t 11) (.k (.int .i64 1)), none⟩,
    ⟨some 5, .mv (.t 12), none⟩] [1, 2, 5] [2]))
def spec_MailAt.b : C := .seq (.reg [⟨some 2, .box (.t 0), none⟩,
    ⟨some 4, .mv (.k (.int .i64 0)), none⟩] [1, 2] [2])
  (.seq (.seq (.reg [⟨some 5, .mv (.k (.int .i64 0)), none⟩] [1, 2, 5] [2])
  (.block 0 (.loop spec_MailAt.l0)))
  (.seq (.reg [⟨some 4, .mv (.k (.int .i64 (-1))), none⟩] [4] [])
  (.ret)))
def spec_MailAt.m : Fn := { np := 2, body := spec_MailAt.b, res := [.tmp 4] }
def spec_MailAt.k (M : Nat → Option Body) : Prop := M 91 = some (.code spec_MailAt.m)
def slices_IndexFunc_impl_Mail_impl_Mail.l0 : C := .seq (.reg [⟨some 9, .bin .lss (.t 8) (.t 7), none⟩] [0, 1, 7, 8, 9] [])
  (.seq (.cond (.t 9) (.skip) (.exit 0))
  (.seq (.block 1 (.seq (.reg [⟨some 10, .mv (.t 8), none⟩,
    ⟨some 5, .mv (.t 10), none⟩] [0, 1, 5, 7, 8] [])
  (.seq (.reg [⟨some 11, .mv (.t 1), none⟩,
    ⟨some 12, .mv (.t 0), none⟩,
    ⟨some 13, .mv (.t 5), none⟩,
    ⟨some 14, .iaddr 4 (.t 12) (.t 13), none⟩,
    ⟨some 15, .load true 4 (.t 14), none⟩,
    ⟨some 16, .callv (.t 11) [.t 15], none⟩] [0, 1, 5, 7, 8, 16] [])
  (.cond (.t 16) (.seq (.reg [⟨some 17, .mv (.t 5), none⟩,
    ⟨some 4, .mv (.t 17), none⟩] [4] [])
  (.ret)) (.skip)))))
  (.reg [⟨some 18, .bin .add (.t 8) (.k (.int .i64 1)), none⟩,
    ⟨some 8, .mv (.t 18), none⟩] [0, 1, 7, 8] [])))
def slices_IndexFunc_impl_Mail_impl_Mail.b : C := .seq (.reg [⟨some 4, .mv (.k (.int .i64 0)), none⟩] [0, 1] [])
  (.seq (.seq (.reg [⟨some 6, .mv (.t 0), none⟩,
    ⟨some 7, .len (.t 6), none⟩,
    ⟨some 8, .mv (.k (.int .i64 0)), none⟩] [0, 1, 7, 8] [])
  (.block 0 (.loop slices_IndexFunc_impl_Mail_impl_Mail.l0)))
  (.seq (.reg [⟨some 4, .mv (.k (.int .i64 (-1))), none⟩] [4] [])
  (.ret)))
def slices_IndexFunc_impl_Mail_impl_Mail.m : Fn := { np := 2, body := slices_IndexFunc_impl_Mail_impl_Mail.b, res := [.tmp 4] }
def slices_IndexFunc_impl_Mail_impl_Mail.k (M : Nat → Option Body) : Prop := M 161 = some (.code slices_IndexFunc_impl_Mail_impl_Mail.m)
def impl_MailAt_1.b : C := .seq (.reg [⟨some 2, .box (.t 0), none⟩,
    ⟨some 3, .mv (.k (.bool false)), none⟩] [1, 2] [2])
  (.seq (.reg [⟨some 4, .faddr 0 (.t 2), none⟩,
    ⟨some 5, .load false 1 (.t 4), none⟩,
    ⟨some 6, .load false 1 (.t 1), none⟩,
    ⟨some 7, .bin .eql (.t 5) (.t 6), none⟩,
    ⟨some 3, .mv (.t 7), none⟩] [3] [])
  (.ret))
def impl_MailAt_1.m : Fn := { np := 2, body := impl_MailAt_1.b, res := [.tmp 3] }
def impl_MailAt_1.k (M : Nat → Option Body) : Prop := M 160 = some (.code impl_MailAt_1.m)
def impl_MailAt.b : C := .seq (.reg [⟨some 2, .box (.t 0), none⟩,
    ⟨some 3, .box (.t 1), none⟩,
    ⟨some 4, .mv (.k (.int .i64 0)), none⟩] [2, 3] [2, 3])
  (.seq (.reg [⟨some 5, .faddr 5 (.t 2), none⟩,
    ⟨some 6, .load false 1 (.t 5), none⟩,
    ⟨some 7, .mkfn 160 [.t 3], none⟩,
    ⟨some 8, .call 161 [.t 6, .t 7] [] [], none⟩,
    ⟨some 4, .mv (.t 8), none⟩] [4] [])
  (.ret))
def impl_MailAt.m : Fn := { np := 2, body := impl_MailAt.b, res := [.tmp 4] }
def impl_MailAt.k (M : Nat → Option Body) : Prop := M 72 = some (.code impl_MailAt.m) ∧ impl_MailAt_1.k M ∧ slices_IndexFunc_impl_Mail_impl_Mail.k M
def spec_Holds.b : C := .seq (.reg [⟨some 2, .box (.t 0), none⟩,
    ⟨some 4, .mv (.k (.bool false)), none⟩] [1, 2] [2])
  (.seq (.reg [⟨some 5, .load true 7 (.t 2), none⟩,
    ⟨some 6, .mv (.t 1), none⟩,
    ⟨some 7, .call 91 [.t 5, .t 6] [] [], none⟩,
    ⟨some 8, .bin .geq (.t 7) (.k (.int .i64 0)), none⟩,
    ⟨some 4, .mv (.t 8), none⟩] [4] [])
  (.ret))
def spec_Holds.m : Fn := { np := 2, body := spec_Holds.b, res := [.tmp 4] }
def spec_Holds.k (M : Nat → Option Body) : Prop := M 19 = some (.code spec_Holds.m) ∧ spec_MailAt.k M
def impl_Holds.b : C := .seq (.reg [⟨some 2, .box (.t 0), none⟩,
    ⟨some 4, .mv (.k (.bool false)), none⟩] [1, 2] [2])
  (.seq (.reg [⟨some 5, .load true 7 (.t 2), none⟩,
    ⟨some 6, .mv (.t 1), none⟩,
    ⟨some 7, .call 72 [.t 5, .t 6] [] [], none⟩,
    ⟨some 8, .bin .geq (.t 7) (.k (.int .i64 0)), none⟩,
    ⟨some 4, .mv (.t 8), none⟩] [4] [])
  (.ret))
def impl_Holds.m : Fn := { np := 2, body := impl_Holds.b, res := [.tmp 4] }
def impl_Holds.k (M : Nat → Option Body) : Prop := M 20 = some (.code impl_Holds.m) ∧ impl_MailAt.k M
def laws_FnExactHolds.b : C := .seq (.reg [⟨some 2, .box (.t 0), none⟩,
    ⟨some 4, .mv (.k (.bool false)), none⟩] [1, 2] [2])
  (.seq (.reg [⟨some 5, .mv (.k (.int .i64 1048576)), none⟩] [1, 2, 5] [2])
  (.seq (.reg [⟨some 9, .load true 7 (.t 2), none⟩,
    ⟨some 10, .mv (.t 5), none⟩,
    ⟨some 11, .call 17 [.t 9, .t 10] [] [], none⟩,
    ⟨some 5, .mv (.t 11), none⟩] [1, 2, 5] [2])
  (.seq (.seq (.reg [⟨some 12, .mv (.t 5), none⟩,
    ⟨some 13, .bin .lss (.t 12) (.k (.int .i64 0)), none⟩] [1, 2, 13] [2])
  (.cond (.t 13) (.seq (.reg [⟨some 4, .mv (.k (.bool true)), none⟩] [4] [])
  (.ret)) (.skip)))
  (.seq (.reg [⟨some 14, .load true 7 (.t 2), none⟩,
    ⟨some 15, .call 18 [.t 14] [] [], none⟩,
    ⟨some 16, .mv (.t 1), none⟩,
    ⟨some 17, .call 19 [.t 15, .t 16] [] [], none⟩,
    ⟨some 6, .mv (.t 17), none⟩] [1, 2, 6] [2])
  (.seq (.reg [⟨some 18, .load true 7 (.t 2), none⟩,
    ⟨some 19, .call 18 [.t 18] [] [], none⟩,
    ⟨some 7, .alloc [.int .i64 0, .str ⟨#[]⟩, .int .i64 0, .int .i64 0, .int .i64 0, .nils 4, .nils 1], none⟩,
    ⟨none, .store 7 (.t 7) (.t 19), none⟩] [1, 2, 6, 7] [2, 7])
  (.seq (.reg [⟨some 20, .load true 7 (.t 7), none⟩,
    ⟨some 21, .mv (.t 1), none⟩,
    ⟨some 22, .call 20 [.t 20, .t 21] [] [], none⟩,
    ⟨some 8, .mv (.t 22), none⟩] [2, 6, 7, 8] [2, 7])
  (.seq (.seq (.reg [⟨some 23, .mv (.t 8), none⟩,
    ⟨some 24, .mv (.t 6), none⟩,
    ⟨some 25, .beq true (.t 23) (.t 24), none⟩] [2, 7, 25] [2, 7])
  (.cond (.t 25) (.seq (.reg [⟨some 4, .mv (.k (.bool false)), none⟩] [4] [])
  (.ret)) (.skip)))
  (.seq (.seq (.regd [⟨some 26, .load true 7 (.t 7), none⟩,
    ⟨some 27, .load true 7 (.t 2), none⟩,
    ⟨some 28, .call 18 [.t 27] [] [], none⟩,
    ⟨some 29, .call 21 [.t 26, .t 28] [] [], none⟩,
    ⟨some 30, .not (.t 29), none⟩] [[], [], [1], [0, 1, 2], [0, 1, 2, 3]] [30] [])
  (.cond (.t 30) (.seq (.reg [⟨some 4, .mv (.k (.bool false)), none⟩] [4] [])
  (.ret)) (.skip)))
  (.seq (.reg [⟨some 4, .mv (.k (.bool true)), none⟩] [4] [])
  (.ret))))))))))
def laws_FnExactHolds.m : Fn := { np := 2, body := laws_FnExactHolds.b, res := [.tmp 4] }
def laws_FnExactHolds.k (M : Nat → Option Body) : Prop := M 365 = some (.code laws_FnExactHolds.m) ∧ laws_szBox.k M ∧ laws_toBox.k M ∧ spec_Holds.k M ∧ impl_Holds.k M ∧ laws_eqBox.k M
def spec_KeepsUid.b : C := .seq (.reg [⟨some 3, .box (.t 0), none⟩,
    ⟨some 4, .box (.t 1), none⟩,
    ⟨some 6, .mv (.k (.bool false)), none⟩] [2, 3, 4] [3, 4])
  (.seq (.reg [⟨some 9, .load true 7 (.t 3), none⟩,
    ⟨some 10, .mv (.t 2), none⟩,
    ⟨some 11, .call 91 [.t 9, .t 10] [] [], none⟩,
    ⟨some 7, .mv (.t 11), none⟩] [2, 3, 4, 7] [3, 4])
  (.seq (.seq (.reg [⟨some 12, .mv (.t 7), none⟩,
    ⟨some 13, .bin .lss (.t 12) (.k (.int .i64 0)), none⟩] [2, 3, 4, 7, 13] [3, 4])
  (.cond (.t 13) (.seq (.reg [⟨some 6, .mv (.k (.bool false)), none⟩] [6] [])
  (.ret)) (.skip)))
  (.seq (.reg [⟨some 14, .load true 7 (.t 4), none⟩,
    ⟨some 15, .mv (.t 2), none⟩,
    ⟨some 16, .call 91 [.t 14, .t 15] [] [], none⟩,
    ⟨some 8, .mv (.t 16), none⟩] [3, 4, 7, 8] [3, 4])
  (.seq (.seq (.reg [⟨some 17, .mv (.t 8), none⟩,
    ⟨some 18, .bin .geq (.t 17) (.k (.int .i64 0)), none⟩] [3, 4, 7, 8, 18] [3, 4])
  (.cond (.t 18) (.seq (.regd [⟨some 19, .faddr 5 (.t 3), none⟩,
    ⟨some 20, .load false 1 (.t 19), none⟩,
    ⟨some 21, .mv (.t 7), none⟩,
    ⟨some 22, .iaddr 4 (.t 20) (.t 21), none⟩,
    ⟨some 23, .faddr 1 (.t 22), none⟩,
    ⟨some 24, .load false 1 (.t 23), none⟩,
    ⟨some 25, .faddr 5 (.t 4), none⟩,
    ⟨some 26, .load false 1 (.t 25), none⟩,
    ⟨some 27, .mv (.t 8), none⟩,
    ⟨some 28, .iaddr 4 (.t 26) (.t 27), none⟩,
    ⟨some 29, .faddr 1 (.t 28), none⟩,
    ⟨some 30, .load false 1 (.t 29), none⟩,
    ⟨some 31, .bin .eql (.t 24) (.t 30), none⟩,
    ⟨some 6, .mv (.t 31), none⟩] [[], [0], [], [0, 1, 2], [0, 1, 2, 3], [0, 1, 2, 3, 4], [], [6], [], [6, 7, 8], [6, 7, 8, 9], [6, 7, 8, 9, 10], [0, 1, 2, 3, 4, 5, 6, 7, 8, 9, 10, 11], [0, 1, 2, 3, 4, 5, 6, 7, 8, 9, 10, 11, 12]] [6] [])
  (.ret)) (.skip)))
  (.seq (.regd [⟨some 32, .faddr 5 (.t 3), none⟩,
    ⟨some 33, .load false 1 (.t 32), none⟩,
    ⟨some 34, .mv (.t 7), none⟩,
    ⟨some 35, .iaddr 4 (.t 33) (.t 34), none⟩,
    ⟨some 36, .faddr 1 (.t 35), none⟩,
    ⟨some 37, .load false 1 (.t 36), none⟩,
    ⟨some 38, .faddr 4 (.t 4), none⟩,
    ⟨some 39, .load false 1 (.t 38), none⟩,
    ⟨some 40, .bin .geq (.t 37) (.t 39), none⟩,
    ⟨some 6, .mv (.t 40), none⟩] [[], [0], [], [0, 1, 2], [0, 1, 2, 3], [0, 1, 2, 3, 4], [], [6], [0, 1, 2, 3, 4, 5, 6, 7], [0, 1, 2, 3, 4, 5, 6, 7, 8]] [6] [])
  (.ret))))))
def spec_KeepsUid.m : Fn := { np := 3, body := spec_KeepsUid.b, res := [.tmp 6] }
def spec_KeepsUid.k (M : Nat → Option Body) : Prop := M 22 = some (.code spec_KeepsUid.m) ∧ spec_MailAt.k M
def impl_KeepsUid.b : C := .seq (.reg [⟨some 3, .box (.t 0), none⟩,
    ⟨some 4, .box (.t 1), none⟩,
    ⟨some 6, .mv (.k (.bool false)), none⟩] [2, 3, 4] [3, 4])
  (.seq (.regd [⟨some 9, .load true 7 (.t 3), none⟩,
    ⟨some 10, .mv (.t 2), none⟩,
    ⟨some 11, .call 72 [.t 9, .t 10] [] [], none⟩,
    ⟨some 12, .load true 7 (.t 4), none⟩,
    ⟨some 13, .mv (.t 2), none⟩,
    ⟨some 14, .call 72 [.t 12, .t 13] [] [], none⟩,
    ⟨some 7, .mv (.t 11), none⟩,
    ⟨some 8, .mv (.t 14), none⟩] [[], [], [0, 1], [], [], [0, 1, 2, 3, 4], [0, 1, 2, 3, 4, 5], [0, 1, 2, 3, 4, 5, 6]] [3, 4, 7, 8] [3, 4])
  (.seq (.block 0 (.seq (.reg [⟨some 16, .mv (.t 7), none⟩,
    ⟨some 17, .bin .lss (.t 16) (.k (.int .i64 0)), none⟩,
    ⟨some 15, .mv (.t 17), none⟩] [3, 4, 7, 8, 15] [3, 4])
  (.cond (.t 15) (.seq (.reg [⟨some 6, .mv (.k (.bool false)), none⟩] [6] [])
  (.ret)) (.seq (.reg [⟨some 19, .mv (.t 8), none⟩,
    ⟨some 20, .bin .geq (.t 19) (.k (.int .i64 0)), none⟩,
    ⟨some 18, .mv (.t 20), none⟩] [3, 4, 7, 8, 18] [3, 4])
  (.cond (.t 18) (.seq (.regd [⟨some 21, .faddr 5 (.t 4), none⟩,
    ⟨some 22, .load false 1 (.t 21), none⟩,
    ⟨some 23, .mv (.t 8), none⟩,
    ⟨some 24, .iaddr 4 (.t 22) (.t 23), none⟩,
    ⟨some 25, .faddr 1 (.t 24), none⟩,
    ⟨some 26, .load false 1 (.t 25), none⟩,
    ⟨some 27, .faddr 5 (.t 3), none⟩,
    ⟨some 28, .load false 1 (.t 27), none⟩,
    ⟨some 29, .mv (.t 7), none⟩,
    ⟨some 30, .iaddr 4 (.t 28) (.t 29), none⟩,
    ⟨some 31, .faddr 1 (.t 30), none⟩,
    ⟨some 32, .load false 1 (.t 31), none⟩,
    ⟨some 33, .bin .eql (.t 26) (.t 32), none⟩,
    ⟨some 6, .mv (.t 33), none⟩] [[], [0], [], [0, 1, 2], [0, 1, 2, 3], [0, 1, 2, 3, 4], [], [6], [], [6, 7, 8], [6, 7, 8, 9], [6, 7, 8, 9, 10], [0, 1, 2, 3, 4, 5, 6, 7, 8, 9, 10, 11], [0, 1, 2, 3, 4, 5, 6, 7, 8, 9, 10, 11, 12]] [6] [])
  (.ret)) (.skip))))))
  (.seq (.regd [⟨some 34, .faddr 5 (.t 3), none⟩,
    ⟨some 35, .load false 1 (.t 34), none⟩,
    ⟨some 36, .mv (.t 7), none⟩,
    ⟨some 37, .iaddr 4 (.t 35) (.t 36), none⟩,
    ⟨some 38, .faddr 1 (.t 37), none⟩,
    ⟨some 39, .load false 1 (.t 38), none⟩,
    ⟨some 40, .faddr 4 (.t 4), none⟩,
    ⟨some 41, .load false 1 (.t 40), none⟩,
    ⟨some 42, .bin .geq (.t 39) (.t 41), none⟩,
    ⟨some 6, .mv (.t 42), none⟩] [[], [0], [], [0, 1, 2], [0, 1, 2, 3], [0, 1, 2, 3, 4], [], [6], [0, 1, 2, 3, 4, 5, 6, 7], [0, 1, 2, 3, 4, 5, 6, 7, 8]] [6] [])
  (.ret))))
def impl_KeepsUid.m : Fn := { np := 3, body := impl_KeepsUid.b, res := [.tmp 6] }
def impl_KeepsUid.k (M : Nat → Option Body) : Prop := M 23 = some (.code impl_KeepsUid.m) ∧ impl_MailAt.k M
def laws_FnExactKeepsUid.b : C := .seq (.reg [⟨some 3, .box (.t 0), none⟩,
    ⟨some 4, .box (.t 1), none⟩,
    ⟨some 6, .mv (.k (.bool false)), none⟩] [2, 3, 4] [3, 4])
  (.seq (.reg [⟨some 7, .mv (.k (.int .i64 1048576)), none⟩] [2, 3, 4, 7] [3, 4])
  (.seq (.reg [⟨some 12, .load true 7 (.t 3), none⟩,
    ⟨some 13, .mv (.t 7), none⟩,
    ⟨some 14, .call 17 [.t 12, .t 13] [] [], none⟩,
    ⟨some 7, .mv (.t 14), none⟩] [2, 3, 4, 7] [3, 4])
  (.seq (.seq (.reg [⟨some 15, .mv (.t 7), none⟩,
    ⟨some 16, .bin .lss (.t 15) (.k (.int .i64 0)), none⟩] [2, 3, 4, 7, 16] [3, 4])
  (.cond (.t 16) (.seq (.reg [⟨some 6, .mv (.k (.bool true)), none⟩] [6] [])
  (.ret)) (.skip)))
  (.seq (.reg [⟨some 17, .load true 7 (.t 4), none⟩,
    ⟨some 18, .mv (.t 7), none⟩,
    ⟨some 19, .call 17 [.t 17, .t 18] [] [], none⟩,
    ⟨some 7, .mv (.t 19), none⟩] [2, 3, 4, 7] [3, 4])
  (.seq (.seq (.reg [⟨some 20, .mv (.t 7), none⟩,
    ⟨some 21, .bin .lss (.t 20) (.k (.int .i64 0)), none⟩] [2, 3, 4, 21] [3, 4])
  (.cond (.t 21) (.seq (.reg [⟨some 6, .mv (.k (.bool true)), none⟩] [6] [])
  (.ret)) (.skip)))
  (.seq (.regd [⟨some 22, .load true 7 (.t 3), none⟩,
    ⟨some 23, .call 18 [.t 22] [] [], none⟩,
    ⟨some 24, .load true 7 (.t 4), none⟩,
    ⟨some 25, .call 18 [.t 24] [] [], none⟩,
    ⟨some 26, .mv (.t 2), none⟩,
    ⟨some 27, .call 22 [.t 23, .t 25, .t 26] [] [], none⟩,
    ⟨some 8, .mv (.t 27), none⟩] [[], [0], [], [0, 1, 2], [], [0, 1, 2, 3, 4], [0, 1, 2, 3, 4, 5]] [2, 3, 4, 8] [3, 4])
  (.seq (.reg [⟨some 28, .load true 7 (.t 3), none⟩,
    ⟨some 29, .call 18 [.t 28] [] [], none⟩,
    ⟨some 9, .alloc [.int .i64 0, .str ⟨#[]⟩, .int .i64 0, .int .i64 0, .int .i64 0, .nils 4, .nils 1], none⟩,
    ⟨none, .store 7 (.t 9) (.t 29), none⟩] [2, 3, 4, 8, 9] [3, 4, 9])
  (.seq (.reg [⟨some 30, .load true 7 (.t 4), none⟩,
    ⟨some 31, .call 18 [.t 30] [] [], none⟩,
    ⟨some 10, .alloc [.int .i64 0, .str ⟨#[]⟩, .int .i64 0, .int .i64 0, .int .i64 0, .nils 4, .nils 1], none⟩,
    ⟨none, .store 7 (.t 10) (.t 31), none⟩] [2, 3, 4, 8, 9, 10] [3, 4, 9, 10])
  (.seq (.reg [⟨some 32, .load true 7 (.t 9), none⟩,
    ⟨some 33, .load true 7 (.t 10), none⟩,
    ⟨some 34, .mv (.t 2), none⟩,
    ⟨some 35, .call 23 [.t 32, .t 33, .t 34] [] [], none⟩,
    ⟨some 11, .mv (.t 35), none⟩] [3, 4, 8, 9, 10, 11] [3, 4, 9, 10])
  (.seq (.seq (.reg [⟨some 36, .mv (.t 11), none⟩,
    ⟨some 37, .mv (.t 8), none⟩,
    ⟨some 38, .beq true (.t 36) (.t 37), none⟩] [3, 4, 9, 10, 38] [3, 4, 9, 10])
  (.cond (.t 38) (.seq (.reg [⟨some 6, .mv (.k (.bool false)), none⟩] [6] [])
  (.ret)) (.skip)))
  (.seq (.seq (.regd [⟨some 39, .load true 7 (.t 9), none⟩,
    ⟨some 40, .load true 7 (.t 3), none⟩,
    ⟨some 41, .call 18 [.t 40] [] [], none⟩,
    ⟨some 42, .call 21 [.t 39, .t 41] [] [], none⟩,
    ⟨some 43, .not (.t 42), none⟩] [[], [], [1], [0, 1, 2], [0, 1, 2, 3]] [4, 10, 43] [4, 10])
  (.cond (.t 43) (.seq (.reg [⟨some 6, .mv (.k (.bool false)), none⟩] [6] [])
  (.ret)) (.skip)))
  (.seq (.seq (.regd [⟨some 44, .load true 7 (.t 10), none⟩,
    ⟨some 45, .load true 7 (.t 4), none⟩,
    ⟨some 46, .call 18 [.t 45] [] [], none⟩,
    ⟨some 47, .call 21 [.t 44, .t 46] [] [], none⟩,
    ⟨some 48, .not (.t 47), none⟩] [[], [], [1], [0, 1, 2], [0, 1, 2, 3]] [48] [])
  (.cond (.t 48) (.seq (.reg [⟨some 6, .mv (.k (.bool false)), none⟩] [6] [])
  (.ret)) (.skip)))
  (.seq (.reg [⟨some 6, .mv (.k (.bool true)), none⟩] [6] [])
  (.ret))))))))))))))
def laws_FnExactKeepsUid.m : Fn := { np := 3, body := laws_FnExactKeepsUid.b, res := [.tmp 6] }
def laws_FnExactKeepsUid.k (M : Nat → Option Body) : Prop := M 366 = some (.code laws_FnExactKeepsUid.m) ∧ laws_szBox.k M ∧ laws_toBox.k M ∧ laws_eqBox.k M ∧ spec_KeepsUid.k M ∧ impl_KeepsUid.k M
end Mx

/-
  Where a mail stands in a box; Holds, KeepsUid and their laws.
-/
namespace Mx
open Go
variable {M : Nat → Option Body}
/-- the first mail of this number, from a place on -/
def atO (l : List Mail) (g : Int) : Nat → Nat → Option Nat
  | 0, _ => none
  | d + 1, i => if h : i < l.length then (if l[i].gid = g then some i else atO l g d (i + 1)) else none
def mailO (l : List Mail) (g : Int) : Option Nat := atO l g l.length 0
def intO : Option Nat → Int
  | some i => i
  | none => -1
theorem atO_lt (l : List Mail) (g : Int) : ∀ d i k, atO l g d i = some k → k < l.length
  | 0, i, k, h => by simp [atO] at h
  | d + 1, i, k, h => by
    rw [atO] at h
    by_cases hl : i < l.length
    · rw [dif_pos hl] at h
      split at h
      · cases h; exact hl
      · exact atO_lt l g d (i + 1) k h
    · rw [dif_neg hl] at h; cases h
def atFin (q : Option Nat) (m : St) : Out × St := match q with
  | some i => (.ret, { t := [(4, .c (I i))], o := [], n := m.n })
  | none => (.exit 0, m)
theorem atFin_ne (q : Option Nat) (m : St) : (atFin q m).1 ≠ .normal := by cases q <;> simp [atFin]
/-- the loop of either -/
theorem at_loop {f : St → Option (Out × St)} {β : Type} (l : List Mail) (g : Int) (S : Nat → β → St)
    (h1 : ∀ i (h : i < l.length) x, l[i].gid = g → ∃ m, f (S i x) = some (atFin (some i) m)) (h2 : ∀ i (h : i < l.length) x, ¬ l[i].gid = g → ∃ y, f (S i x) = some (.normal, S (i + 1) y))
    (h3 : ∀ x, ∃ m, f (S l.length x) = some (atFin none m)) : ∃ g' : β → St, ∀ x, loopN f (l.length + 1) (S 0 x) = some (atFin (mailO l g) (g' x)) := by
  refine loop_all (f := f) S (fun i => i ≤ l.length) (fun i => l.length - i) (fun i => atO l g (l.length - i) i) atFin ?_ (l.length + 1) 0 (Nat.zero_le _) (by omega)
  intro i x hi
  by_cases hlt : i < l.length
  · have hd : l.length - i = (l.length - (i + 1)) + 1 := by omega
    have hg : atO l g (l.length - i) i = if l[i].gid = g then some i else atO l g (l.length - (i + 1)) (i + 1) := by rw [hd, atO, dif_pos hlt]
    simp only [hg]
    by_cases c : l[i].gid = g
    · right
      obtain ⟨m, hm⟩ := h1 i hlt x c
      rw [if_pos c]
      exact ⟨m, hm, atFin_ne _ _⟩
    · left
      obtain ⟨y, hy⟩ := h2 i hlt x c
      rw [if_neg c]
      exact ⟨i + 1, y, hy, hlt, by omega, rfl⟩
  · have : i = l.length := by omega
    subst this
    right
    obtain ⟨m, hm⟩ := h3 x
    simp only [Nat.sub_self, atO]
    exact ⟨m, hm, atFin_ne _ _⟩

def spAtS (b : Box) (g : Int) (i : Nat) (x : Nat × Nat) : St := { t := [(1, .c (I g)), (2, .c (.ptr 2 x.1 0 0)), (5, .c (I i))], o := [(2, ⟨x.1, 7, true, true, [encBox b]⟩)], n := x.2 }
theorem spec_MailAt.says (h : spec_MailAt.k M) (b : Box) (g : Int) (hb : b.mails.length ≤ 1048576) : run M 91 [.a (encBox b), .c (I g)] [] = some (.c (I (intO (mailO b.mails g))), []) := by
  refine run_code (b := spec_MailAt.m) h ⟨b.mails.length + 1, ?_⟩
  obtain ⟨g', hr⟩ := at_loop (f := exC (run M) (b.mails.length + 1) spec_MailAt.l0) b.mails g (spAtS b g)
    (fun i hi x c => by
      obtain ⟨v, x⟩ := x
      simp [spAtS, spec_MailAt.l0, hi, c, encMail, atFin]
      exact ⟨⟨[], [], _⟩, rfl⟩)
    (fun i hi x c => by
      obtain ⟨v, x⟩ := x
      have e5 : IntKind.i64.wrap ((i : Int) + 1) = (i : Int) + 1 := wrap_i64 (by omega) (by omega)
      simp only [Prod.exists]
      simp [spAtS, spec_MailAt.l0, hi, c, encMail, e5])
    (fun x => by
      obtain ⟨v, x⟩ := x
      simp [spAtS, spec_MailAt.l0, atFin])
  cases hm : mailO b.mails g with
  | none =>
    simp [spAtS, hm, atFin] at hr
    simp [exB, spec_MailAt.m, spec_MailAt.b, List.range_succ, hr, intO]
  | some k =>
    simp [spAtS, hm, atFin] at hr
    simp [exB, spec_MailAt.m, spec_MailAt.b, List.range_succ, hr, intO]
theorem impl_MailAt_1.says (h : impl_MailAt_1.k M) (m : Mail) (g : Int) : run M 160 [.a (encMail m), .c (.vp [I g] 0)] [] = some (.c (.bool (decide (m.gid = g))), []) := by
  refine run_code (b := impl_MailAt_1.m) h ⟨0, ?_⟩
  simp [exB, impl_MailAt_1.m, impl_MailAt_1.b, List.range_succ]
def ixS (l : List Mail) (g : Int) (i : Nat) (x : Nat) : St := { t := [(0, .c (mails l)), (1, .c (.fn 160 [.vp [I g] 0])), (7, .c (I l.length)), (8, .c (I i))], o := [], n := x }
theorem slices_IndexFunc_impl_Mail_impl_Mail.says (h : slices_IndexFunc_impl_Mail_impl_Mail.k M) (h2 : impl_MailAt_1.k M) (l : List Mail) (g : Int) (hl : l.length ≤ 1048576) :
    run M 161 [.c (mails l), .c (.fn 160 [.vp [I g] 0])] [] = some (.c (I (intO (mailO l g))), []) := by
  refine run_code (b := slices_IndexFunc_impl_Mail_impl_Mail.m) h ⟨l.length + 1, ?_⟩
  obtain ⟨g', hr⟩ := at_loop (f := exC (run M) (l.length + 1) slices_IndexFunc_impl_Mail_impl_Mail.l0) l g (ixS l g)
    (fun i hi x c => by
      have hm := impl_MailAt_1.says h2 l[i] g
      rw [decide_eq_true c] at hm
      simp [ixS, slices_IndexFunc_impl_Mail_impl_Mail.l0, hi, hm, encMail, atFin]
      exact ⟨⟨[], [], _⟩, rfl⟩)
    (fun i hi x c => by
      have hm := impl_MailAt_1.says h2 l[i] g
      rw [decide_eq_false c] at hm
      have e5 : IntKind.i64.wrap ((i : Int) + 1) = (i : Int) + 1 := wrap_i64 (by omega) (by omega)
      simp [ixS, slices_IndexFunc_impl_Mail_impl_Mail.l0, hi, hm, encMail, e5])
    (fun x => by simp [ixS, slices_IndexFunc_impl_Mail_impl_Mail.l0, atFin])
  cases hm : mailO l g with
  | none =>
    simp [ixS, hm, atFin] at hr
    simp [exB, slices_IndexFunc_impl_Mail_impl_Mail.m, slices_IndexFunc_impl_Mail_impl_Mail.b, List.range_succ, hr, intO]
  | some k =>
    simp [ixS, hm, atFin] at hr
    simp [exB, slices_IndexFunc_impl_Mail_impl_Mail.m, slices_IndexFunc_impl_Mail_impl_Mail.b, List.range_succ, hr, intO]
theorem impl_MailAt.says (h : impl_MailAt.k M) (b : Box) (g : Int) (hb : b.mails.length ≤ 1048576) : run M 72 [.a (encBox b), .c (I g)] [] = some (.c (I (intO (mailO b.mails g))), []) := by
  have h1 := slices_IndexFunc_impl_Mail_impl_Mail.says h.2.2 h.2.1 b.mails g hb
  refine run_code (b := impl_MailAt.m) h.1 ⟨0, ?_⟩
  simp [exB, impl_MailAt.m, impl_MailAt.b, List.range_succ, h1]

def holds (b : Box) (g : Int) : Bool := decide (0 ≤ intO (mailO b.mails g))
theorem spec_Holds.says (h : spec_Holds.k M) (b : Box) (g : Int) (hb : b.mails.length ≤ 1048576) : run M 19 [.a (encBox b), .c (I g)] [] = some (.c (.bool (holds b g)), []) := by
  have h1 := spec_MailAt.says h.2 b g hb
  refine run_code (b := spec_Holds.m) h.1 ⟨0, ?_⟩
  simp [exB, spec_Holds.m, spec_Holds.b, List.range_succ, h1, holds, List.take_of_length_le]
theorem impl_Holds.says (h : impl_Holds.k M) (b : Box) (g : Int) (hb : b.mails.length ≤ 1048576) : run M 20 [.a (encBox b), .c (I g)] [] = some (.c (.bool (holds b g)), []) := by
  have h1 := impl_MailAt.says h.2 b g hb
  refine run_code (b := impl_Holds.m) h.1 ⟨0, ?_⟩
  simp [exB, impl_Holds.m, impl_Holds.b, List.range_succ, h1, holds, List.take_of_length_le]
theorem wBox_mails {b : Box} {n : Nat} (h : wBox b ≤ n) : b.mails.length ≤ n := by unfold wBox wMails at h; omega
theorem laws_FnExactHolds.says (h : laws_FnExactHolds.k M) (b : Box) (g : Int) (hb : BoxFits b) : run M 365 [.a (encBox b), .c (I g)] [] = some (.c (.bool true), []) := by
  obtain ⟨h0, k1, k2, k3, k4, k5⟩ := h
  have h1 := laws_szBox.says k1 b hb 1048576 (by omega)
  refine run_code (b := laws_FnExactHolds.m) h0 ⟨0, ?_⟩
  by_cases c : 1048576 < wBox b
  · rw [if_pos c] at h1
    simp only [Int.cast_ofNat_Int] at h1
    simp [exB, laws_FnExactHolds.m, laws_FnExactHolds.b, List.range_succ, h1, List.take_of_length_le]
  · rw [if_neg c] at h1
    simp only [Int.cast_ofNat_Int] at h1
    have hw : wBox b ≤ 1048576 := by omega
    have e1 : ¬ (1048576 : Int) - wBox b < 0 := by omega
    have h2 := laws_toBox.says k2 b hw
    have h3 := spec_Holds.says k3 b g (wBox_mails hw)
    have h4 := impl_Holds.says k4 b g (wBox_mails hw)
    have h5 := laws_eqBox.says k5 b hw
    simp only [encBox, encBoxO] at h1 h2 h3 h4 h5
    simp [exB, laws_FnExactHolds.m, laws_FnExactHolds.b, List.range_succ, h1, h2, h3, h4, h5, e1, setAt, List.take_of_length_le]
theorem laws_FnExactHolds.row (h : laws_FnExactHolds.k M) {as : List V} (ha : HasVs [.struct ctBox, .cell (.int .i64)] as) : run M 365 as [] = some (.c (.bool true), []) := by
  cases ha with | cons h0 ha =>
  cases ha with | cons h1 ha =>
  cases ha
  cases h0 with | struct h0 =>
  cases h1 with | cell h1 =>
  obtain ⟨b, rfl, hb⟩ := has_box h0
  obtain ⟨g, rfl⟩ := has_int h1
  exact laws_FnExactHolds.says h b g hb
end Mx
