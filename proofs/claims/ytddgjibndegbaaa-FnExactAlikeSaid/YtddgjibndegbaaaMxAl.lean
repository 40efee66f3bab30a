/-
  Small codes: laws.eqIntS, laws.markIntS, laws.heldIntS, laws.szIntS, laws.toIntS.
-/
import Derived.Test.YtddgjibndegbaaaMxB
namespace Mx
open Go
def laws_eqIntS.l0 : C := .seq (.seq (.reg [⟨some 11, .mv (.t 5), none⟩,
    ⟨some 12, .mv (.t 0), none⟩,
    ⟨some 13, .len (.t 12), none⟩,
    ⟨some 14, .bin .lss (.t 11) (.t 13), none⟩] [0, 1, 5, 14] [])
  (.cond (.t 14) (.skip) (.exit 0)))
  (.seq (.block 1 (.seq (.regd [⟨some 17, .mv (.t 0), none⟩,
    ⟨some 18, .mv (.t 5), none⟩,
    ⟨some 19, .iaddr 1 (.t 17) (.t 18), none⟩,
    ⟨some 20, .load false 1 (.t 19), none⟩,
    ⟨some 21, .mv (.t 1), none⟩,
    ⟨some 22, .mv (.t 5), none⟩,
    ⟨some 23, .iaddr 1 (.t 21) (.t 22), none⟩,
    ⟨some 24, .load false 1 (.t 23), none⟩,
    ⟨some 25, .bin .neq (.t 20) (.t 24), none⟩] [[], [], [0, 1], [0, 1, 2], [], [], [4, 5], [4, 5, 6], [0, 1, 2, 3, 4, 5, 6, 7]] [0, 1, 5, 25] [])
  (.cond (.t 25) (.seq (.reg [⟨some 4, .mv (.k (.bool false)), none⟩] [4] [])
  (.ret)) (.skip))))
  (.reg [⟨some 15, .mv (.t 5), none⟩,
    ⟨some 16, .bin .add (.t 15) (.k (.int .i64 1)), none⟩,
    ⟨some 5, .mv (.t 16), none⟩] [0, 1, 5] []))
def laws_eqIntS.b : C := .seq (.reg [⟨some 4, .mv (.k (.bool false)), none⟩] [0, 1] [])
  (.seq (.seq (.reg [⟨some 6, .mv (.t 0), none⟩,
    ⟨some 7, .len (.t 6), none⟩,
    ⟨some 8, .mv (.t 1), none⟩,
    ⟨some 9, .len (.t 8), none⟩,
    ⟨some 10, .bin .neq (.t 7) (.t 9), none⟩] [0, 1, 10] [])
  (.cond (.t 10) (.seq (.reg [⟨some 4, .mv (.k (.bool false)), none⟩] [4] [])
  (.ret)) (.skip)))
  (.seq (.seq (.reg [⟨some 5, .mv (.k (.int .i64 0)), none⟩] [0, 1, 5] [])
  (.block 0 (.loop laws_eqIntS.l0)))
  (.seq (.reg [⟨some 4, .mv (.k (.bool true)), none⟩] [4] [])
  (.ret))))
def laws_eqIntS.m : Fn := { np := 2, body := laws_eqIntS.b, res := [.tmp 4] }
def laws_eqIntS.k (M : Nat → Option Body) : Prop := M 45 = some (.code laws_eqIntS.m)
def laws_markIntS.l0 : C := .seq (.seq (.reg [⟨some 6, .mv (.t 5), none⟩,
    ⟨some 7, .mv (.t 0), none⟩,
    ⟨some 8, .len (.t 7), none⟩,
    ⟨some 9, .bin .lss (.t 6) (.t 8), none⟩] [0, 1, 5, 9] [0])
  (.cond (.t 9) (.skip) (.exit 0)))
  (.seq (.block 1 (.seq (.reg [⟨some 12, .mv (.t 0), none⟩,
    ⟨some 13, .mv (.t 5), none⟩,
    ⟨some 14, .mv (.t 1), none⟩,
    ⟨some 15, .iaddr 1 (.t 12) (.t 13), none⟩,
    ⟨none, .store 1 (.t 15) (.t 14), none⟩] [0, 1, 5] [0])
  (.reg [⟨some 16, .mv (.t 1), none⟩,
    ⟨some 17, .bin .add (.t 16) (.k (.int .i64 1)), none⟩,
    ⟨some 1, .mv (.t 17), none⟩] [0, 1, 5] [0])))
  (.reg [⟨some 10, .mv (.t 5), none⟩,
    ⟨some 11, .bin .add (.t 10) (.k (.int .i64 1)), none⟩,
    ⟨some 5, .mv (.t 11), none⟩] [0, 1, 5] [0]))
def laws_markIntS.b : C := .seq (.reg [⟨some 4, .mv (.k (.int .i64 0)), none⟩] [0, 1] [0])
  (.seq (.seq (.reg [⟨some 5, .mv (.k (.int .i64 0)), none⟩] [0, 1, 5] [0])
  (.block 0 (.loop laws_markIntS.l0)))
  (.seq (.reg [⟨some 18, .mv (.t 1), none⟩,
    ⟨some 4, .mv (.t 18), none⟩] [4] [0])
  (.ret)))
def laws_markIntS.m : Fn := { np := 2, body := laws_markIntS.b, res := [.tmp 4] }
def laws_markIntS.k (M : Nat → Option Body) : Prop := M 46 = some (.code laws_markIntS.m)
def laws_heldIntS.l0 : C := .seq (.seq (.reg [⟨some 6, .mv (.t 5), none⟩,
    ⟨some 7, .mv (.t 0), none⟩,
    ⟨some 8, .len (.t 7), none⟩,
    ⟨some 9, .bin .lss (.t 6) (.t 8), none⟩] [0, 1, 5, 9] [])
  (.cond (.t 9) (.skip) (.exit 0)))
  (.seq (.block 1 (.seq (.seq (.reg [⟨some 12, .mv (.t 0), none⟩,
    ⟨some 13, .mv (.t 5), none⟩,
    ⟨some 14, .iaddr 1 (.t 12) (.t 13), none⟩,
    ⟨some 15, .load false 1 (.t 14), none⟩,
    ⟨some 16, .mv (.t 1), none⟩,
    ⟨some 17, .bin .neq (.t 15) (.t 16), none⟩] [0, 1, 5, 17] [])
  (.cond (.t 17) (.seq (.reg [⟨some 4, .mv (.k (.int .i64 (-1))), none⟩] [4] [])
  (.ret)) (.skip)))
  (.reg [⟨some 18, .mv (.t 1), none⟩,
    ⟨some 19, .bin .add (.t 18) (.k (.int .i64 1)), none⟩,
    ⟨some 1, .mv (.t 19), none⟩] [0, 1, 5] [])))
  (.reg [⟨some 10, .mv (.t 5), none⟩,
    ⟨some 11, .bin .add (.t 10) (.k (.int .i64 1)), none⟩,
    ⟨some 5, .mv (.t 11), none⟩] [0, 1, 5] []))
def laws_heldIntS.b : C := .seq (.reg [⟨some 4, .mv (.k (.int .i64 0)), none⟩] [0, 1] [])
  (.seq (.seq (.reg [⟨some 5, .mv (.k (.int .i64 0)), none⟩] [0, 1, 5] [])
  (.block 0 (.loop laws_heldIntS.l0)))
  (.seq (.reg [⟨some 20, .mv (.t 1), none⟩,
    ⟨some 4, .mv (.t 20), none⟩] [4] [])
  (.ret)))
def laws_heldIntS.m : Fn := { np := 2, body := laws_heldIntS.b, res := [.tmp 4] }
def laws_heldIntS.k (M : Nat → Option Body) : Prop := M 47 = some (.code laws_heldIntS.m)
def laws_szIntS.b : C := .seq (.reg [⟨some 4, .mv (.k (.int .i64 0)), none⟩] [0, 1] [])
  (.seq (.reg [⟨some 5, .mv (.t 1), none⟩,
    ⟨some 6, .mv (.t 0), none⟩,
    ⟨some 7, .len (.t 6), none⟩,
    ⟨some 8, .bin .sub (.t 5) (.t 7), none⟩,
    ⟨some 1, .mv (.t 8), none⟩] [1] [])
  (.seq (.seq (.reg [⟨some 9, .mv (.t 1), none⟩,
    ⟨some 10, .bin .lss (.t 9) (.k (.int .i64 0)), none⟩] [1, 10] [])
  (.cond (.t 10) (.seq (.reg [⟨some 4, .mv (.k (.int .i64 (-1))), none⟩] [4] [])
  (.ret)) (.skip)))
  (.seq (.reg [⟨some 11, .mv (.t 1), none⟩,
    ⟨some 4, .mv (.t 11), none⟩] [4] [])
  (.ret))))
def laws_szIntS.m : Fn := { np := 2, body := laws_szIntS.b, res := [.tmp 4] }
def laws_szIntS.k (M : Nat → Option Body) : Prop := M 108 = some (.code laws_szIntS.m)
def laws_toIntS.l0 : C := .seq (.seq (.reg [⟨some 8, .mv (.t 4), none⟩,
    ⟨some 9, .mv (.t 0), none⟩,
    ⟨some 10, .len (.t 9), none⟩,
    ⟨some 11, .bin .lss (.t 8) (.t 10), none⟩] [0, 3, 4, 11] [7])
  (.cond (.t 11) (.skip) (.exit 0)))
  (.seq (.block 1 (.reg [⟨some 14, .mv (.t 3), none⟩,
    ⟨some 15, .mv (.t 4), none⟩,
    ⟨some 16, .mv (.t 0), none⟩,
    ⟨some 17, .mv (.t 4), none⟩,
    ⟨some 18, .iaddr 1 (.t 16) (.t 17), none⟩,
    ⟨some 19, .load false 1 (.t 18), none⟩,
    ⟨some 20, .iaddr 1 (.t 14) (.t 15), none⟩,
    ⟨none, .store 1 (.t 20) (.t 19), none⟩] [0, 3, 4] [7]))
  (.reg [⟨some 12, .mv (.t 4), none⟩,
    ⟨some 13, .bin .add (.t 12) (.k (.int .i64 1)), none⟩,
    ⟨some 4, .mv (.t 13), none⟩] [0, 3, 4] [7]))
def laws_toIntS.b : C := .seq (.reg [⟨some 2, .nil 1, none⟩] [0] [])
  (.seq (.reg [⟨some 5, .mv (.t 0), none⟩,
    ⟨some 6, .len (.t 5), none⟩,
    ⟨some 7, .mks 1 8 [.int .i64 0] (.t 6), none⟩,
    ⟨some 3, .mv (.t 7), none⟩] [0, 3] [7])
  (.seq (.seq (.reg [⟨some 4, .mv (.k (.int .i64 0)), none⟩] [0, 3, 4] [7])
  (.block 0 (.loop laws_toIntS.l0)))
  (.seq (.reg [⟨some 21, .mv (.t 3), none⟩,
    ⟨some 2, .mv (.t 21), none⟩] [2] [2, 7])
  (.ret))))
def laws_toIntS.m : Fn := { np := 1, body := laws_toIntS.b, res := [.tmp 2] }
def laws_toIntS.k (M : Nat → Option Body) : Prop := M 42 = some (.code laws_toIntS.m)
end Mx

/-
  The laws' plumbing at any type: slices laid over and held against each other, element by element.
-/
namespace Mx
open Go
variable {M : Nat → Option Body}

/-- a cell that all may read -/
def closedT : T → Bool
  | .int .. => true
  | .bool _ => true
  | .str _ => true
  | .sl own _ _ => !own
  | _ => false
/-- as the caller sees it -/
def frz : T → T
  | .sl _ sz rows => .sl false sz rows
  | t => t
def resT : T → Bool
  | .int .. => true
  | .bool _ => true
  | .str _ => true
  | .sl .. => true
  | _ => false
theorem im_closed {o : List (Nat × Ob)} {t : T} (h : closedT t = true) : im o t = some t ∧ wr3 o t = [] ∧ cl o t = some t := by
  cases t <;> simp [closedT] at h <;> simp [im, im1, im0, wr3, wr2, wr, cl, h]
theorem im_closedL {o : List (Nat × Ob)} {r : List T} (h : r.all closedT = true) : mapO (im o) r = some r ∧ r.flatMap (wr3 o) = [] ∧ mapO (cl o) r = some r := by
  induction r with
  | nil => exact ⟨rfl, rfl, rfl⟩
  | cons t r ih =>
    simp only [List.all_cons, Bool.and_eq_true] at h
    obtain ⟨h1, h2, h3⟩ := ih h.2
    obtain ⟨k1, k2, k3⟩ := im_closed (o := o) h.1
    simp only [mapO, h1, h3, k1, k3, k2, h2, List.flatMap_cons, List.append_nil, and_self]
theorem back_frz {n : Nat} {l : List (Nat × Nat × Nat)} {r : List T} (h : r.all resT = true) (q : Nat) : backL n l [] q r = some (r.map frz, []) := by
  induction r generalizing q with
  | nil => rfl
  | cons t r ih =>
    simp only [List.all_cons, Bool.and_eq_true] at h
    have h1 := ih h.2 (q + 1)
    cases t <;> simp [resT] at h <;> simp [backL, backT, get, h1, frz]
theorem frz_closed {t : T} (h : resT t = true) : closedT (frz t) = true := by
  cases t <;> simp [resT] at h <;> simp [frz, closedT]

/-- a call with one row, back with one row -/
theorem call_row {n : Nat} {o : List (Nat × Ob)} {f : Nat} {r r' : List T} (hr : r.all closedT = true) (hr' : r'.all resT = true) (h : run M f [.a r] [] = some (.a r', [])) :
    doCall (run M) n o f [.a r] [] [] = some (.a (r'.map frz), []) := by
  obtain ⟨h1, h2, _⟩ := im_closedL (o := o) hr
  simp [doCall, args, lendsC, V.im, V.wr, h1, h2, h, lentBack, back, backV, back_frz hr']
theorem call_rows2 {n : Nat} {o : List (Nat × Ob)} {f : Nat} {r s : List T} {b : Bool} (hr : r.all closedT = true) (hs : s.all closedT = true) (h : run M f [.a r, .a s] [] = some (.c (.bool b), [])) :
    doCall (run M) n o f [.a r, .a s] [] [] = some (.c (.bool b), []) := by
  obtain ⟨h1, h2, _⟩ := im_closedL (o := o) hr
  obtain ⟨k1, k2, _⟩ := im_closedL (o := o) hs
  simp [doCall, args, lendsC, V.im, V.wr, h1, h2, k1, k2, h, lentBack, back, backV, backT]

theorem set_row {α : Type} (a : List α) (x : α) (b : List α) (n : Nat) (h : a.length = n) (y : α) : (a ++ x :: b).set n y = a ++ y :: b := by
  subst h; simp
theorem get_row {α : Type} (a : List α) (x : α) (b : List α) (n : Nat) (h : a.length = n) : (a ++ x :: b)[n]? = some x := by
  subst h; simp

/-! ## out := make([]X, len(a)); out[i] = toX(a[i]) -/
theorem keep_any (ks : List Nat) : keep ks ([] : List (Nat × Ob)) = [] := by
  induction ks with
  | nil => rfl
  | cons k ks ih => simp [keep_cons, get, ih]
def toSl (n f : Nat) : C := .seq (.seq (.reg [⟨some 8, .mv (.t 4), none⟩,
    ⟨some 9, .mv (.t 0), none⟩,
    ⟨some 10, .len (.t 9), none⟩,
    ⟨some 11, .bin .lss (.t 8) (.t 10), none⟩] [0, 3, 4, 11] [7])
  (.cond (.t 11) (.skip) (.exit 0)))
  (.seq (.block 1 (.reg [⟨some 14, .mv (.t 3), none⟩,
    ⟨some 15, .mv (.t 4), none⟩,
    ⟨some 16, .mv (.t 0), none⟩,
    ⟨some 17, .mv (.t 4), none⟩,
    ⟨some 18, .iaddr n (.t 16) (.t 17), none⟩,
    ⟨some 19, .load true n (.t 18), none⟩,
    ⟨some 20, .call f [.t 19] [] [], none⟩,
    ⟨some 21, .iaddr n (.t 14) (.t 15), none⟩,
    ⟨none, .store n (.t 21) (.t 20), none⟩] [0, 3, 4] [7]))
  (.reg [⟨some 12, .mv (.t 4), none⟩,
    ⟨some 13, .bin .add (.t 12) (.k (.int .i64 1)), none⟩,
    ⟨some 4, .mv (.t 13), none⟩] [0, 3, 4] [7]))
def toSb (n by' : Nat) (z : List T) (f : Nat) : C := .seq (.reg [⟨some 2, .nil n, none⟩] [0] [])
  (.seq (.reg [⟨some 5, .mv (.t 0), none⟩,
    ⟨some 6, .len (.t 5), none⟩,
    ⟨some 7, .mks n by' z (.t 6), none⟩,
    ⟨some 3, .mv (.t 7), none⟩] [0, 3] [7])
  (.seq (.seq (.reg [⟨some 4, .mv (.k (.int .i64 0)), none⟩] [0, 3, 4] [7])
  (.block 0 (.loop (toSl n f))))
  (.seq (.reg [⟨some 22, .mv (.t 3), none⟩,
    ⟨some 2, .mv (.t 22), none⟩] [2] [2, 7])
  (.ret))))
def toSm (n by' : Nat) (z : List T) (f : Nat) : Fn := { np := 1, body := toSb n by' z f, res := [.tmp 2] }
def toSst (n : Nat) (z : List T) (rows : List (List T)) (i : Nat) (x : Nat × Nat) : St :=
  { t := [(0, .c (.sl false n rows)), (3, .c (.row 7 x.1 0 rows.length)), (4, .c (I i))], o := [(7, ⟨x.1, n, true, false, rows.take i ++ List.replicate (rows.length - i) z⟩)], n := x.2 }
theorem toS_says {F n by' : Nat} {z : List T} {f : Nat} (h : M F = some (.code (toSm n by' z f))) (hz : z.length = n) {rows : List (List T)} (hl : rows.length ≤ 1048576) (hby : by' ≤ 4096) 
    (he : ∀ r ∈ rows, r.length = n ∧ r.all closedT = true ∧ ∃ r', run M f [.a r] [] = some (.a r', []) ∧ r'.all resT = true ∧ r'.map frz = r) :
    run M F [.c (.sl false n rows)] [] = some (.c (.sl true n rows), []) := by
  refine run_code (b := toSm n by' z f) h ⟨rows.length + 1, ?_⟩
  obtain ⟨g, hr⟩ := loop_all (f := exC (run M) (rows.length + 1) (toSl n f)) (toSst n z rows) (fun i => i ≤ rows.length) (fun i => rows.length - i) (fun _ => ())
    (fun _ (m : Nat × Nat) => (.exit 0, { t := [(0, .c (.sl false n rows)), (3, .c (.row 7 m.1 0 rows.length)), (4, .c (I rows.length)), (11, .c (.bool false))], o := [(7, ⟨m.1, n, true, false, rows⟩)], n := m.2 }))
    (by
      rintro i ⟨v, x⟩ hi
      by_cases hlt : i < rows.length
      · have e5 : IntKind.i64.wrap ((i : Int) + 1) = (i : Int) + 1 := wrap_i64 (by omega) (by omega)
        obtain ⟨k1, k2, r', k3, k4, k5⟩ := he rows[i] (List.getElem_mem hlt)
        have hc := fun nn => call_row (n := nn) (o := [(7, (⟨v, n, true, false, rows.take i ++ List.replicate (rows.length - i) z⟩ : Ob))]) k2 k4 k3
        rw [k5] at hc
        have hti : (rows.take i).length = i := by simp; omega
        have hrep : List.replicate (rows.length - i) z = z :: List.replicate (rows.length - (i + 1)) z := by
          rw [show rows.length - i = (rows.length - (i + 1)) + 1 by omega, List.replicate_succ]
        have h3 : (rows.take i ++ List.replicate (rows.length - i) z)[i]? = some z := by
          rw [hrep]; exact get_row _ _ _ _ hti
        have h3' : ∀ h, (rows.take i ++ List.replicate (rows.length - i) z)[i]'h = z := fun h => by rw [List.getElem?_eq_getElem h] at h3; exact Option.some.inj h3
        have h4 : (rows.take i ++ List.replicate (rows.length - i) z).set i rows[i] = rows.take (i + 1) ++ List.replicate (rows.length - (i + 1)) z := by
          rw [hrep, set_row _ _ _ _ hti, List.take_succ_eq_append_getElem hlt, List.append_assoc]; rfl
        have h5 : i < (rows.take i ++ List.replicate (rows.length - i) z).length := by simp; omega
        have h6 : (List.take n rows[i]) = rows[i] := List.take_of_length_le (by omega)
        have h7 : setAt z 0 rows[i] = rows[i] := by
          simp only [setAt, List.take_zero, List.nil_append, Nat.zero_add]
          rw [List.drop_eq_nil_of_le (by omega), List.append_nil]
        have h8 := (im_closedL (o := [(7, (⟨v, n, true, false, rows.take i ++ List.replicate (rows.length - i) z⟩ : Ob))]) k2).2.2
        have h9 : n ≤ z.length := by omega
        obtain ⟨y, hy⟩ : ∃ y, exC (run M) (rows.length + 1) (toSl n f) (toSst n z rows i (v, x)) = some (.normal, toSst n z rows (i + 1) y) := by
          simp only [Prod.exists]
          simp [toSst, toSl, hlt, e5, k1, hc, h3, h3', h4, h5, h6, h7, h8, h9, -doCall, -setAt]
        exact .inl ⟨i + 1, y, hy, hlt, by omega, rfl⟩
      · have : i = rows.length := by omega
        subst this
        exact .inr ⟨(v, x + 64), by simp [toSst, toSl], by simp⟩)
    (rows.length + 1) 0 (Nat.zero_le _) (by omega)
  have c1 : rows.length ≤ 4294967296 := by omega
  have c2 : by' * rows.length ≤ 140737488355328 := Nat.le_trans (Nat.mul_le_mul hby hl) (by decide)
  simp [toSst] at hr
  simp [exB, toSm, toSb, List.range_succ, hr, c1, c2, List.take_of_length_le]

/-! ## the same, with elements of one cell -/
def toS1l : C := .seq (.seq (.reg [⟨some 8, .mv (.t 4), none⟩,
    ⟨some 9, .mv (.t 0), none⟩,
    ⟨some 10, .len (.t 9), none⟩,
    ⟨some 11, .bin .lss (.t 8) (.t 10), none⟩] [0, 3, 4, 11] [7])
  (.cond (.t 11) (.skip) (.exit 0)))
  (.seq (.block 1 (.reg [⟨some 14, .mv (.t 3), none⟩,
    ⟨some 15, .mv (.t 4), none⟩,
    ⟨some 16, .mv (.t 0), none⟩,
    ⟨some 17, .mv (.t 4), none⟩,
    ⟨some 18, .iaddr 1 (.t 16) (.t 17), none⟩,
    ⟨some 19, .load false 1 (.t 18), none⟩,
    ⟨some 20, .iaddr 1 (.t 14) (.t 15), none⟩,
    ⟨none, .store 1 (.t 20) (.t 19), none⟩] [0, 3, 4] [7]))
  (.reg [⟨some 12, .mv (.t 4), none⟩,
    ⟨some 13, .bin .add (.t 12) (.k (.int .i64 1)), none⟩,
    ⟨some 4, .mv (.t 13), none⟩] [0, 3, 4] [7]))
def toS1b (by' : Nat) (z : T) : C := .seq (.reg [⟨some 2, .nil 1, none⟩] [0] [])
  (.seq (.reg [⟨some 5, .mv (.t 0), none⟩,
    ⟨some 6, .len (.t 5), none⟩,
    ⟨some 7, .mks 1 by' [z] (.t 6), none⟩,
    ⟨some 3, .mv (.t 7), none⟩] [0, 3] [7])
  (.seq (.seq (.reg [⟨some 4, .mv (.k (.int .i64 0)), none⟩] [0, 3, 4] [7])
  (.block 0 (.loop toS1l)))
  (.seq (.reg [⟨some 21, .mv (.t 3), none⟩,
    ⟨some 2, .mv (.t 21), none⟩] [2] [2, 7])
  (.ret))))
def toS1m (by' : Nat) (z : T) : Fn := { np := 1, body := toS1b by' z, res := [.tmp 2] }
theorem toS1_says {F by' : Nat} {z : T} (h : M F = some (.code (toS1m by' z))) {l : List T} (hl : l.length ≤ 1048576) (hby : by' ≤ 4096) (he : ∀ t ∈ l, closedT t = true) :
    run M F [.c (.sl false 1 (l.map fun t => [t]))] [] = some (.c (.sl true 1 (l.map fun t => [t])), []) := by
  refine run_code (b := toS1m by' z) h ⟨l.length + 1, ?_⟩
  obtain ⟨rows, hrows⟩ : ∃ rows, rows = l.map fun t => [t] := ⟨_, rfl⟩
  have hlen : rows.length = l.length := by rw [hrows]; simp
  rw [← hrows]
  obtain ⟨g, hr⟩ := loop_all (f := exC (run M) (l.length + 1) toS1l) (toSst 1 [z] rows) (fun i => i ≤ rows.length) (fun i => rows.length - i) (fun _ => ())
    (fun _ (m : Nat × Nat) => (.exit 0, { t := [(0, .c (.sl false 1 rows)), (3, .c (.row 7 m.1 0 rows.length)), (4, .c (I rows.length)), (11, .c (.bool false))], o := [(7, ⟨m.1, 1, true, false, rows⟩)], n := m.2 }))
    (by
      rintro i ⟨v, x⟩ hi
      by_cases hlt : i < rows.length
      · have e5 : IntKind.i64.wrap ((i : Int) + 1) = (i : Int) + 1 := wrap_i64 (by omega) (by omega)
        have hlt' : i < l.length := by omega
        have k0 : rows[i] = [l[i]] := by simp [hrows]
        have h8 := (im_closed (o := [(7, (⟨v, 1, true, false, rows.take i ++ List.replicate (rows.length - i) [z]⟩ : Ob))]) (he l[i] (List.getElem_mem hlt'))).2.2
        have hti : (rows.take i).length = i := by simp; omega
        have hrep : List.replicate (rows.length - i) [z] = [z] :: List.replicate (rows.length - (i + 1)) [z] := by
          rw [show rows.length - i = (rows.length - (i + 1)) + 1 by omega, List.replicate_succ]
        have h3 : (rows.take i ++ List.replicate (rows.length - i) [z])[i]? = some [z] := by
          rw [hrep]; exact get_row _ _ _ _ hti
        have h3' : ∀ h, (rows.take i ++ List.replicate (rows.length - i) [z])[i]'h = [z] := fun h => by rw [List.getElem?_eq_getElem h] at h3; exact Option.some.inj h3
        have h4 : (rows.take i ++ List.replicate (rows.length - i) [z]).set i [l[i]] = rows.take (i + 1) ++ List.replicate (rows.length - (i + 1)) [z] := by
          rw [hrep, set_row _ _ _ _ hti, List.take_succ_eq_append_getElem hlt, List.append_assoc, k0]; rfl
        have h5 : i < (rows.take i ++ List.replicate (rows.length - i) [z]).length := by simp; omega
        obtain ⟨y, hy⟩ : ∃ y, exC (run M) (l.length + 1) toS1l (toSst 1 [z] rows i (v, x)) = some (.normal, toSst 1 [z] rows (i + 1) y) := by
          simp only [Prod.exists]
          simp [toSst, toS1l, hlt, e5, k0, h3, h3', h4, h5, h8, setAt, -cl]
        exact .inl ⟨i + 1, y, hy, hlt, by omega, rfl⟩
      · have : i = rows.length := by omega
        subst this
        exact .inr ⟨(v, x + 64), by simp [toSst, toS1l], by simp⟩)
    (l.length + 1) 0 (Nat.zero_le _) (by omega)
  have c1 : rows.length ≤ 4294967296 := by omega
  have c2 : by' * rows.length ≤ 140737488355328 := Nat.le_trans (Nat.mul_le_mul hby (by omega : rows.length ≤ 1048576)) (by decide)
  simp [toSst] at hr
  simp [exB, toS1m, toS1b, List.range_succ, hr, c1, c2, List.take_of_length_le]

/-! ## one by one the same -/
def eqSl (n f : Nat) : C := .seq (.seq (.reg [⟨some 11, .mv (.t 5), none⟩,
    ⟨some 12, .mv (.t 0), none⟩,
    ⟨some 13, .len (.t 12), none⟩,
    ⟨some 14, .bin .lss (.t 11) (.t 13), none⟩] [0, 1, 5, 14] [])
  (.cond (.t 14) (.skip) (.exit 0)))
  (.seq (.block 1 (.seq (.regd [⟨some 17, .mv (.t 0), none⟩,
    ⟨some 18, .mv (.t 5), none⟩,
    ⟨some 19, .iaddr n (.t 17) (.t 18), none⟩,
    ⟨some 20, .load true n (.t 19), none⟩,
    ⟨some 21, .mv (.t 1), none⟩,
    ⟨some 22, .mv (.t 5), none⟩,
    ⟨some 23, .iaddr n (.t 21) (.t 22), none⟩,
    ⟨some 24, .load true n (.t 23), none⟩,
    ⟨some 25, .call f [.t 20, .t 24] [] [], none⟩,
    ⟨some 26, .not (.t 25), none⟩] [[], [], [0, 1], [0, 1, 2], [], [], [4, 5], [4, 5, 6], [0, 1, 2, 3, 4, 5, 6, 7], [0, 1, 2, 3, 4, 5, 6, 7, 8]] [0, 1, 5, 26] [])
  (.cond (.t 26) (.seq (.reg [⟨some 4, .mv (.k (.bool false)), none⟩] [4] [])
  (.ret)) (.skip))))
  (.reg [⟨some 15, .mv (.t 5), none⟩,
    ⟨some 16, .bin .add (.t 15) (.k (.int .i64 1)), none⟩,
    ⟨some 5, .mv (.t 16), none⟩] [0, 1, 5] []))
def eqSb (n f : Nat) : C := .seq (.reg [⟨some 4, .mv (.k (.bool false)), none⟩] [0, 1] [])
  (.seq (.seq (.reg [⟨some 6, .mv (.t 0), none⟩,
    ⟨some 7, .len (.t 6), none⟩,
    ⟨some 8, .mv (.t 1), none⟩,
    ⟨some 9, .len (.t 8), none⟩,
    ⟨some 10, .bin .neq (.t 7) (.t 9), none⟩] [0, 1, 10] [])
  (.cond (.t 10) (.seq (.reg [⟨some 4, .mv (.k (.bool false)), none⟩] [4] [])
  (.ret)) (.skip)))
  (.seq (.seq (.reg [⟨some 5, .mv (.k (.int .i64 0)), none⟩] [0, 1, 5] [])
  (.block 0 (.loop (eqSl n f))))
  (.seq (.reg [⟨some 4, .mv (.k (.bool true)), none⟩] [4] [])
  (.ret))))
def eqSm (n f : Nat) : Fn := { np := 2, body := eqSb n f, res := [.tmp 4] }
def eqSst (n : Nat) (rows : List (List T)) (i : Nat) (x : Nat) : St := { t := [(0, .c (.sl false n rows)), (1, .c (.sl false n rows)), (5, .c (I i))], o := [], n := x }
theorem eqS_says {F n f : Nat} (h : M F = some (.code (eqSm n f))) {rows : List (List T)} (hl : rows.length ≤ 4611686018427387904)
    (he : ∀ r ∈ rows, r.length = n ∧ r.all closedT = true ∧ run M f [.a r, .a r] [] = some (.c (.bool true), [])) :
    run M F [.c (.sl false n rows), .c (.sl false n rows)] [] = some (.c (.bool true), []) := by
  refine run_code (b := eqSm n f) h ⟨rows.length + 1, ?_⟩
  obtain ⟨g, hr⟩ := loop_all (f := exC (run M) (rows.length + 1) (eqSl n f)) (eqSst n rows) (fun i => i ≤ rows.length) (fun i => rows.length - i) (fun _ => ())
    (fun _ m => (.exit 0, { t := [(0, .c (.sl false n rows)), (1, .c (.sl false n rows)), (5, .c (I rows.length)), (14, .c (.bool false))], o := [], n := m }))
    (by
      intro i x hi
      by_cases hlt : i < rows.length
      · have e5 : IntKind.i64.wrap ((i : Int) + 1) = (i : Int) + 1 := wrap_i64 (by omega) (by omega)
        obtain ⟨k1, k2, k3⟩ := he rows[i] (List.getElem_mem hlt)
        have hc := fun nn => call_rows2 (n := nn) (o := []) k2 k2 k3
        have h6 : (List.take n rows[i]) = rows[i] := List.take_of_length_le (by omega)
        obtain ⟨y, hy⟩ : ∃ y, exC (run M) (rows.length + 1) (eqSl n f) (eqSst n rows i x) = some (.normal, eqSst n rows (i + 1) y) := by
          simp [eqSst, eqSl, hlt, e5, k1, hc, h6, keep_any, -doCall]
        exact .inl ⟨i + 1, y, hy, hlt, by omega, rfl⟩
      · have : i = rows.length := by omega
        subst this
        exact .inr ⟨x + 64, by simp [eqSst, eqSl], by simp⟩)
    (rows.length + 1) 0 (Nat.zero_le _) (by omega)
  simp [eqSst] at hr
  simp [exB, eqSm, eqSb, List.range_succ, hr]
end Mx

/-
  Numbers: what is laid over, held against, weighed, marked.
-/
namespace Mx
open Go
variable {M : Nat → Option Body}
def irow (l : List Int) : List (List T) := l.map fun n => [I n]
abbrev ints (l : List Int) : T := .sl false 1 (irow l)
theorem irow_len (l : List Int) : (irow l).length = l.length := by simp [irow]
theorem irow_at (l : List Int) (i : Nat) (h : i < (irow l).length) : (irow l)[i] = [I (l[i]'(by simpa [irow] using h))] := by simp [irow]
theorem irow_append (a b : List Int) : irow a ++ irow b = irow (a ++ b) := by simp [irow]
theorem irow_nil : irow [] = [] := rfl
theorem irow_take (l : List Int) (n : Nat) : (irow l).take n = irow (l.take n) := by simp [irow]
attribute [simp] irow_len irow_at irow_append irow_nil irow_take
/-- k, k+1, .. -/
def upto (k : Int) : Nat → List Int
  | 0 => []
  | n + 1 => upto k n ++ [k + n]
theorem upto_len (k : Int) (n : Nat) : (upto k n).length = n := by
  induction n with
  | zero => rfl
  | succ n ih => simp [upto, ih]
attribute [simp] upto_len
theorem upto_at (k : Int) (n i : Nat) (h : i < n) (h' : i < (upto k n).length) : (upto k n)[i] = k + i := by
  induction n with
  | zero => omega
  | succ n ih =>
    simp only [upto]
    by_cases e : i < n
    · rw [List.getElem_append_left (by simpa using e)]; exact ih e _
    · have : i = n := by omega
      subst this
      rw [List.getElem_append_right (by simp)]; simp

def eqI (l : List Int) (i : Nat) (x : Nat) : St := { t := [(0, .c (ints l)), (1, .c (ints l)), (5, .c (I i))], o := [], n := x }
theorem laws_eqIntS.says (h : laws_eqIntS.k M) (l : List Int) (hl : l.length ≤ 4611686018427387904) : run M 45 [.c (ints l), .c (ints l)] [] = some (.c (.bool true), []) := by
  refine run_code (b := laws_eqIntS.m) h ⟨l.length + 1, ?_⟩
  obtain ⟨g, hr⟩ := loop_all (f := exC (run M) (l.length + 1) laws_eqIntS.l0) (eqI l) (fun i => i ≤ l.length) (fun i => l.length - i) (fun _ => ())
    (fun _ m => (.exit 0, { t := [(0, .c (ints l)), (1, .c (ints l)), (5, .c (I l.length)), (14, .c (.bool false))], o := [], n := m }))
    (by
      intro i x hi
      by_cases hlt : i < l.length
      · have e5 : IntKind.i64.wrap ((i : Int) + 1) = (i : Int) + 1 := wrap_i64 (by omega) (by omega)
        obtain ⟨y, hy⟩ : ∃ y, exC (run M) (l.length + 1) laws_eqIntS.l0 (eqI l i x) = some (.normal, eqI l (i + 1) y) := by simp [eqI, laws_eqIntS.l0, hlt, e5]
        exact .inl ⟨i + 1, y, hy, hlt, by omega, rfl⟩
      · have : i = l.length := by omega
        subst this
        exact .inr ⟨x + 64, by simp [eqI, laws_eqIntS.l0], by simp⟩)
    (l.length + 1) 0 (Nat.zero_le _) (by omega)
  simp [eqI] at hr
  simp [exB, laws_eqIntS.m, laws_eqIntS.b, List.range_succ, hr]

theorem set_mid {α : Type} (a : List α) (x : α) (b : List α) (n : Nat) (h : a.length = n) (y : α) : (a ++ x :: b).set n y = a ++ y :: b := by
  subst h; simp
theorem at_mid {α : Type} (a : List α) (x : α) (b : List α) (n : Nat) (h : a.length = n) : (a ++ x :: b)[n]? = some x := by
  subst h; simp
def mkI (k : Int) (l : List Int) (i : Nat) (x : Nat) : St := { t := [(0, .c (.row 0 0 0 l.length)), (1, .c (I (k + i))), (5, .c (I i))], o := [(0, ⟨0, 1, true, false, irow (upto k i ++ l.drop i)⟩)], n := x }
theorem laws_markIntS.says (h : laws_markIntS.k M) (l : List Int) (k : Int) (hk : -9223372036854775808 ≤ k) (hl : k + l.length ≤ 9223372036854775807) (hl2 : l.length ≤ 4611686018427387904) :
    run M 46 [.c (.row 0 0 0 l.length), .c (I k)] [(0, ⟨0, 1, true, false, irow l⟩)] = some (.c (I (k + l.length)), [(0, ⟨0, 1, true, false, irow (upto k l.length)⟩)]) := by
  refine run_code (b := laws_markIntS.m) h ⟨l.length + 1, ?_⟩
  obtain ⟨g, hr⟩ := loop_all (f := exC (run M) (l.length + 1) laws_markIntS.l0) (mkI k l) (fun i => i ≤ l.length) (fun i => l.length - i) (fun _ => ())
    (fun _ m => (.exit 0, { t := [(0, .c (.row 0 0 0 l.length)), (1, .c (I (k + l.length))), (5, .c (I l.length)), (9, .c (.bool false))], o := [(0, ⟨0, 1, true, false, irow (upto k l.length)⟩)], n := m }))
    (by
      intro i x hi
      by_cases hlt : i < l.length
      · have e5 : IntKind.i64.wrap ((i : Int) + 1) = (i : Int) + 1 := wrap_i64 (by omega) (by omega)
        have e6 : IntKind.i64.wrap (k + (i : Int) + 1) = k + (i : Int) + 1 := wrap_i64 (by omega) (by omega)
        have e7 : k + ((i : Int) + 1) = k + (i : Int) + 1 := by omega
        have e8 : i + (l.length - i) = l.length := by omega
        have hd := List.drop_eq_getElem_cons hlt
        have h3 : (irow (upto k i ++ l.drop i))[i]? = some [I l[i]] := by
          rw [hd]; simp only [irow, List.map_append, List.map_cons]; exact at_mid _ _ _ _ (by simp)
        have h3' : ∀ h, (irow (upto k i ++ l.drop i))[i]'h = [I l[i]] := fun h => by rw [List.getElem?_eq_getElem h] at h3; exact Option.some.inj h3
        have h4 : (irow (upto k i ++ l.drop i)).set i [I (k + i)] = irow (upto k (i + 1) ++ l.drop (i + 1)) := by
          rw [hd]; simp only [irow, List.map_append, List.map_cons, upto, List.append_assoc, List.cons_append, List.nil_append, List.map_nil]; exact set_mid _ _ _ _ (by simp) _
        obtain ⟨y, hy⟩ : ∃ y, exC (run M) (l.length + 1) laws_markIntS.l0 (mkI k l i x) = some (.normal, mkI k l (i + 1) y) := by
          simp [mkI, laws_markIntS.l0, hlt, e5, e6, e7, e8, h3', h4, setAt, -irow_at]
        exact .inl ⟨i + 1, y, hy, hlt, by omega, rfl⟩
      · have : i = l.length := by omega
        subst this
        exact .inr ⟨x + 64, by simp [mkI, laws_markIntS.l0], by simp⟩)
    (l.length + 1) 0 (Nat.zero_le _) (by omega)
  simp [mkI, upto] at hr
  simp [exB, laws_markIntS.m, laws_markIntS.b, List.range_succ, hr]

def heI (k : Int) (n : Nat) (i : Nat) (x : Nat) : St := { t := [(0, .c (ints (upto k n))), (1, .c (I (k + i))), (5, .c (I i))], o := [], n := x }
theorem laws_heldIntS.says (h : laws_heldIntS.k M) (n : Nat) (k : Int) (hk : -9223372036854775808 ≤ k) (hl : k + n ≤ 9223372036854775807) (hl2 : n ≤ 4611686018427387904) :
    run M 47 [.c (ints (upto k n)), .c (I k)] [] = some (.c (I (k + n)), []) := by
  refine run_code (b := laws_heldIntS.m) h ⟨n + 1, ?_⟩
  obtain ⟨g, hr⟩ := loop_all (f := exC (run M) (n + 1) laws_heldIntS.l0) (heI k n) (fun i => i ≤ n) (fun i => n - i) (fun _ => ())
    (fun _ m => (.exit 0, { t := [(0, .c (ints (upto k n))), (1, .c (I (k + n))), (5, .c (I n)), (9, .c (.bool false))], o := [], n := m }))
    (by
      intro i x hi
      by_cases hlt : i < n
      · have e5 : IntKind.i64.wrap ((i : Int) + 1) = (i : Int) + 1 := wrap_i64 (by omega) (by omega)
        have e6 : IntKind.i64.wrap (k + (i : Int) + 1) = k + (i : Int) + 1 := wrap_i64 (by omega) (by omega)
        have e7 : k + ((i : Int) + 1) = k + (i : Int) + 1 := by omega
        have e8 := upto_at k n i hlt (by simpa using hlt)
        obtain ⟨y, hy⟩ : ∃ y, exC (run M) (n + 1) laws_heldIntS.l0 (heI k n i x) = some (.normal, heI k n (i + 1) y) := by
          simp [heI, laws_heldIntS.l0, hlt, e5, e6, e7, e8]
        exact .inl ⟨i + 1, y, hy, hlt, by omega, rfl⟩
      · have : i = n := by omega
        subst this
        exact .inr ⟨x + 64, by simp [heI, laws_heldIntS.l0], by simp⟩)
    (n + 1) 0 (Nat.zero_le _) (by omega)
  simp [heI] at hr
  simp [exB, laws_heldIntS.m, laws_heldIntS.b, List.range_succ, hr]
theorem irow_flat (l : List Int) : (irow l).all (fun r => r.all T.scalar) = true := by
  simp only [irow, List.all_map, List.all_eq_true]
  intro n _; rfl
attribute [simp] irow_flat

theorem laws_toIntS.says (h : laws_toIntS.k M) (l : List Int) (hl : l.length ≤ 1048576) : run M 42 [.c (ints l)] [] = some (.c (.sl true 1 (irow l)), []) := by
  have := toS1_says (M := M) (F := 42) (by' := 8) (z := .int .i64 0) h (l := l.map I) (by simpa using hl) (by omega) (fun t ht => by obtain ⟨n, _, rfl⟩ := List.mem_map.1 ht; rfl)
  rw [List.map_map] at this
  exact this
theorem laws_szIntS.says (h : laws_szIntS.k M) (l : List Int) (hl : l.length ≤ 9223372036854775807) (n : Int) (hn : 0 ≤ n) (hn' : n ≤ 9223372036854775807) : run M 108 [.c (ints l), .c (I n)] [] = some (.c (I (if n < l.length then -1 else n - l.length)), []) := by
  refine run_code (b := laws_szIntS.m) h ⟨0, ?_⟩
  have e5 : IntKind.i64.wrap (n - (l.length : Int)) = n - (l.length : Int) := wrap_i64 (by omega) (by omega)
  by_cases hc : n < l.length
  · have h1 : n - (l.length : Int) < 0 := by omega
    simp [exB, laws_szIntS.m, laws_szIntS.b, List.range_succ, e5, h1, hc]
  · have h1 : ¬ n - (l.length : Int) < 0 := by omega
    simp [exB, laws_szIntS.m, laws_szIntS.b, List.range_succ, e5, h1, hc]
end Mx

/-
  Small codes: laws.toStamp, laws.toReg, laws.toRegS, laws.toMail, laws.toMailS, laws.toBox, laws.szRegS, laws.szMail, laws.szMailS, laws.szBox, laws.eqStamp, laws.eqReg, laws.eqRegS, laws.eqMail, laws.eqMailS, laws.eqBox.
-/
namespace Mx
open Go
def laws_toStamp.b : C := .seq (.reg [⟨some 1, .box (.t 0), none⟩,
    ⟨some 2, .alloc [.int .i64 0, .int .i64 0], none⟩] [1, 2] [1, 2])
  (.seq (.reg [⟨some 3, .alloc [.int .i64 0, .int .i64 0], none⟩] [1, 2, 3] [1, 2, 3])
  (.seq (.reg [⟨some 4, .faddr 0 (.t 1), none⟩,
    ⟨some 5, .load false 1 (.t 4), none⟩,
    ⟨some 6, .faddr 0 (.t 3), none⟩,
    ⟨none, .store 1 (.t 6) (.t 5), none⟩] [1, 2, 3] [1, 2, 3])
  (.seq (.reg [⟨some 7, .faddr 1 (.t 1), none⟩,
    ⟨some 8, .load false 1 (.t 7), none⟩,
    ⟨some 9, .faddr 1 (.t 3), none⟩,
    ⟨none, .store 1 (.t 9) (.t 8), none⟩] [2, 3] [2, 3])
  (.seq (.reg [⟨some 10, .load true 2 (.t 3), none⟩,
    ⟨none, .store 2 (.t 2) (.t 10), none⟩] [2] [2])
  (.ret)))))
def laws_toStamp.m : Fn := { np := 1, body := laws_toStamp.b, res := [.cell 2 true 2] }
def laws_toStamp.k (M : Nat → Option Body) : Prop := M 109 = some (.code laws_toStamp.m)
def laws_toReg.b : C := .seq (.reg [⟨some 1, .box (.t 0), none⟩,
    ⟨some 2, .alloc [.int .i64 0, .int .i64 0, .int .i64 0], none⟩] [1, 2] [1, 2])
  (.seq (.reg [⟨some 3, .alloc [.int .i64 0, .int .i64 0, .int .i64 0], none⟩] [1, 2, 3] [1, 2, 3])
  (.seq (.reg [⟨some 4, .faddr 0 (.t 1), none⟩,
    ⟨some 5, .load false 1 (.t 4), none⟩,
    ⟨some 6, .faddr 0 (.t 3), none⟩,
    ⟨none, .store 1 (.t 6) (.t 5), none⟩] [1, 2, 3] [1, 2, 3])
  (.seq (.reg [⟨some 7, .faddr 1 (.t 1), none⟩,
    ⟨some 8, .load true 2 (.t 7), none⟩,
    ⟨some 9, .call 109 [.t 8] [] [], none⟩,
    ⟨some 10, .faddr 1 (.t 3), none⟩,
    ⟨none, .store 2 (.t 10) (.t 9), none⟩] [2, 3] [2, 3])
  (.seq (.reg [⟨some 11, .load true 3 (.t 3), none⟩,
    ⟨none, .store 3 (.t 2) (.t 11), none⟩] [2] [2])
  (.ret)))))
def laws_toReg.m : Fn := { np := 1, body := laws_toReg.b, res := [.cell 2 true 3] }
def laws_toReg.k (M : Nat → Option Body) : Prop := M 288 = some (.code laws_toReg.m) ∧ laws_toStamp.k M
def laws_toRegS.l0 : C := .seq (.seq (.reg [⟨some 8, .mv (.t 4), none⟩,
    ⟨some 9, .mv (.t 0), none⟩,
    ⟨some 10, .len (.t 9), none⟩,
    ⟨some 11, .bin .lss (.t 8) (.t 10), none⟩] [0, 3, 4, 11] [7])
  (.cond (.t 11) (.skip) (.exit 0)))
  (.seq (.block 1 (.reg [⟨some 14, .mv (.t 3), none⟩,
    ⟨some 15, .mv (.t 4), none⟩,
    ⟨some 16, .mv (.t 0), none⟩,
    ⟨some 17, .mv (.t 4), none⟩,
    ⟨some 18, .iaddr 3 (.t 16) (.t 17), none⟩,
    ⟨some 19, .load true 3 (.t 18), none⟩,
    ⟨some 20, .call 288 [.t 19] [] [], none⟩,
    ⟨some 21, .iaddr 3 (.t 14) (.t 15), none⟩,
    ⟨none, .store 3 (.t 21) (.t 20), none⟩] [0, 3, 4] [7]))
  (.reg [⟨some 12, .mv (.t 4), none⟩,
    ⟨some 13, .bin .add (.t 12) (.k (.int .i64 1)), none⟩,
    ⟨some 4, .mv (.t 13), none⟩] [0, 3, 4] [7]))
def laws_toRegS.b : C := .seq (.reg [⟨some 2, .nil 3, none⟩] [0] [])
  (.seq (.reg [⟨some 5, .mv (.t 0), none⟩,
    ⟨some 6, .len (.t 5), none⟩,
    ⟨some 7, .mks 3 24 [.int .i64 0, .int .i64 0, .int .i64 0] (.t 6), none⟩,
    ⟨some 3, .mv (.t 7), none⟩] [0, 3] [7])
  (.seq (.seq (.reg [⟨some 4, .mv (.k (.int .i64 0)), none⟩] [0, 3, 4] [7])
  (.block 0 (.loop laws_toRegS.l0)))
  (.seq (.reg [⟨some 22, .mv (.t 3), none⟩,
    ⟨some 2, .mv (.t 22), none⟩] [2] [2, 7])
  (.ret))))
def laws_toRegS.m : Fn := { np := 1, body := laws_toRegS.b, res := [.tmp 2] }
def laws_toRegS.k (M : Nat → Option Body) : Prop := M 251 = some (.code laws_toRegS.m) ∧ laws_toReg.k M
def laws_toMail.b : C := .seq (.reg [⟨some 1, .box (.t 0), none⟩,
    ⟨some 2, .alloc [.int .i64 0, .int .i64 0, .nils 3, .str ⟨#[]⟩], none⟩] [1, 2] [1, 2, 11200])
  (.seq (.reg [⟨some 3, .alloc [.int .i64 0, .int .i64 0, .nils 3, .str ⟨#[]⟩], none⟩] [1, 2, 3] [1, 2, 3, 11200])
  (.seq (.reg [⟨some 4, .faddr 0 (.t 1), none⟩,
    ⟨some 5, .load false 1 (.t 4), none⟩,
    ⟨some 6, .faddr 0 (.t 3), none⟩,
    ⟨none, .store 1 (.t 6) (.t 5), none⟩] [1, 2, 3] [1, 2, 3, 11200])
  (.seq (.reg [⟨some 7, .faddr 1 (.t 1), none⟩,
    ⟨some 8, .load false 1 (.t 7), none⟩,
    ⟨some 9, .faddr 1 (.t 3), none⟩,
    ⟨none, .store 1 (.t 9) (.t 8), none⟩] [1, 2, 3] [1, 2, 3, 11200])
  (.seq (.reg [⟨some 10, .faddr 2 (.t 1), none⟩,
    ⟨some 11, .load false 1 (.t 10), none⟩,
    ⟨some 12, .call 251 [.t 11] [] [(0, 11200)], none⟩,
    ⟨some 13, .faddr 2 (.t 3), none⟩,
    ⟨none, .store 1 (.t 13) (.t 12), none⟩] [1, 2, 3] [1, 2, 3, 11200])
  (.seq (.reg [⟨some 14, .faddr 3 (.t 1), none⟩,
    ⟨some 15, .load false 1 (.t 14), none⟩,
    ⟨some 16, .faddr 3 (.t 3), none⟩,
    ⟨none, .store 1 (.t 16) (.t 15), none⟩] [2, 3] [2, 3, 11200])
  (.seq (.reg [⟨some 17, .load true 4 (.t 3), none⟩,
    ⟨none, .store 4 (.t 2) (.t 17), none⟩] [2] [2, 11200])
  (.ret)))))))
def laws_toMail.m : Fn := { np := 1, body := laws_toMail.b, res := [.cell 2 true 4] }
def laws_toMail.k (M : Nat → Option Body) : Prop := M 209 = some (.code laws_toMail.m) ∧ laws_toRegS.k M
def laws_toMailS.l0 : C := .seq (.seq (.reg [⟨some 8, .mv (.t 4), none⟩,
    ⟨some 9, .mv (.t 0), none⟩,
    ⟨some 10, .len (.t 9), none⟩,
    ⟨some 11, .bin .lss (.t 8) (.t 10), none⟩] [0, 3, 4, 11] [7])
  (.cond (.t 11) (.skip) (.exit 0)))
  (.seq (.block 1 (.reg [⟨some 14, .mv (.t 3), none⟩,
    ⟨some 15, .mv (.t 4), none⟩,
    ⟨some 16, .mv (.t 0), none⟩,
    ⟨some 17, .mv (.t 4), none⟩,
    ⟨some 18, .iaddr 4 (.t 16) (.t 17), none⟩,
    ⟨some 19, .load true 4 (.t 18), none⟩,
    ⟨some 20, .call 209 [.t 19] [] [], none⟩,
    ⟨some 21, .iaddr 4 (.t 14) (.t 15), none⟩,
    ⟨none, .store 4 (.t 21) (.t 20), none⟩] [0, 3, 4] [7]))
  (.reg [⟨some 12, .mv (.t 4), none⟩,
    ⟨some 13, .bin .add (.t 12) (.k (.int .i64 1)), none⟩,
    ⟨some 4, .mv (.t 13), none⟩] [0, 3, 4] [7]))
def laws_toMailS.b : C := .seq (.reg [⟨some 2, .nil 4, none⟩] [0] [])
  (.seq (.reg [⟨some 5, .mv (.t 0), none⟩,
    ⟨some 6, .len (.t 5), none⟩,
    ⟨some 7, .mks 4 56 [.int .i64 0, .int .i64 0, .nils 3, .str ⟨#[]⟩] (.t 6), none⟩,
    ⟨some 3, .mv (.t 7), none⟩] [0, 3] [7])
  (.seq (.seq (.reg [⟨some 4, .mv (.k (.int .i64 0)), none⟩] [0, 3, 4] [7])
  (.block 0 (.loop laws_toMailS.l0)))
  (.seq (.reg [⟨some 22, .mv (.t 3), none⟩,
    ⟨some 2, .mv (.t 22), none⟩] [2] [2, 7])
  (.ret))))
def laws_toMailS.m : Fn := { np := 1, body := laws_toMailS.b, res := [.tmp 2] }
def laws_toMailS.k (M : Nat → Option Body) : Prop := M 110 = some (.code laws_toMailS.m) ∧ laws_toMail.k M
def laws_toBox.b : C := .seq (.reg [⟨some 1, .box (.t 0), none⟩,
    ⟨some 2, .alloc [.int .i64 0, .str ⟨#[]⟩, .int .i64 0, .int .i64 0, .int .i64 0, .nils 4, .nils 1], none⟩] [1, 2] [1, 2, 11900, 12300])
  (.seq (.reg [⟨some 3, .alloc [.int .i64 0, .str ⟨#[]⟩, .int .i64 0, .int .i64 0, .int .i64 0, .nils 4, .nils 1], none⟩] [1, 2, 3] [1, 2, 3, 11900, 12300])
  (.seq (.reg [⟨some 4, .faddr 0 (.t 1), none⟩,
    ⟨some 5, .load false 1 (.t 4), none⟩,
    ⟨some 6, .faddr 0 (.t 3), none⟩,
    ⟨none, .store 1 (.t 6) (.t 5), none⟩] [1, 2, 3] [1, 2, 3, 11900, 12300])
  (.seq (.reg [⟨some 7, .faddr 1 (.t 1), none⟩,
    ⟨some 8, .load false 1 (.t 7), none⟩,
    ⟨some 9, .faddr 1 (.t 3), none⟩,
    ⟨none, .store 1 (.t 9) (.t 8), none⟩] [1, 2, 3] [1, 2, 3, 11900, 12300])
  (.seq (.reg [⟨some 10, .faddr 2 (.t 1), none⟩,
    ⟨some 11, .load true 2 (.t 10), none⟩,
    ⟨some 12, .call 109 [.t 11] [] [], none⟩,
    ⟨some 13, .faddr 2 (.t 3), none⟩,
    ⟨none, .store 2 (.t 13) (.t 12), none⟩] [1, 2, 3] [1, 2, 3, 11900, 12300])
  (.seq (.reg [⟨some 14, .faddr 4 (.t 1), none⟩,
    ⟨some 15, .load false 1 (.t 14), none⟩,
    ⟨some 16, .faddr 4 (.t 3), none⟩,
    ⟨none, .store 1 (.t 16) (.t 15), none⟩] [1, 2, 3] [1, 2, 3, 11900, 12300])
  (.seq (.reg [⟨some 17, .faddr 5 (.t 1), none⟩,
    ⟨some 18, .load false 1 (.t 17), none⟩,
    ⟨some 19, .call 110 [.t 18] [] [(0, 11900)], none⟩,
    ⟨some 20, .faddr 5 (.t 3), none⟩,
    ⟨none, .store 1 (.t 20) (.t 19), none⟩] [1, 2, 3] [1, 2, 3, 11900, 12300])
  (.seq (.reg [⟨some 21, .faddr 6 (.t 1), none⟩,
    ⟨some 22, .load false 1 (.t 21), none⟩,
    ⟨some 23, .call 42 [.t 22] [] [(0, 12300)], none⟩,
    ⟨some 24, .faddr 6 (.t 3), none⟩,
    ⟨none, .store 1 (.t 24) (.t 23), none⟩] [2, 3] [2, 3, 11900, 12300])
  (.seq (.reg [⟨some 25, .load true 7 (.t 3), none⟩,
    ⟨none, .store 7 (.t 2) (.t 25), none⟩] [2] [2, 11900, 12300])
  (.ret)))))))))
def laws_toBox.m : Fn := { np := 1, body := laws_toBox.b, res := [.cell 2 true 7] }
def laws_toBox.k (M : Nat → Option Body) : Prop := M 18 = some (.code laws_toBox.m) ∧ laws_toIntS.k M ∧ laws_toStamp.k M ∧ laws_toMailS.k M
def laws_szRegS.b : C := .seq (.reg [⟨some 4, .mv (.k (.int .i64 0)), none⟩] [0, 1] [])
  (.seq (.reg [⟨some 5, .mv (.t 1), none⟩,
    ⟨some 6, .mv (.t 0), none⟩,
    ⟨some 7, .len (.t 6), none⟩,
    ⟨some 8, .bin .sub (.t 5) (.t 7), none⟩,
    ⟨some 1, .mv (.t 8), none⟩] [1] [])
  (.seq (.seq (.reg [⟨some 9, .mv (.t 1), none⟩,
    ⟨some 10, .bin .lss (.t 9) (.k (.int .i64 0)), none⟩] [1, 10] [])
  (.cond (.t 10) (.seq (.reg [⟨some 4, .mv (.k (.int .i64 (-1))), none⟩] [4] [])
  (.ret)) (.skip)))
  (.seq (.reg [⟨some 11, .mv (.t 1), none⟩,
    ⟨some 4, .mv (.t 11), none⟩] [4] [])
  (.ret))))
def laws_szRegS.m : Fn := { np := 2, body := laws_szRegS.b, res := [.tmp 4] }
def laws_szRegS.k (M : Nat → Option Body) : Prop := M 250 = some (.code laws_szRegS.m)
def laws_szMail.b : C := .seq (.reg [⟨some 2, .box (.t 0), none⟩,
    ⟨some 4, .mv (.k (.int .i64 0)), none⟩] [1, 2] [2])
  (.seq (.reg [⟨some 5, .faddr 2 (.t 2), none⟩,
    ⟨some 6, .load false 1 (.t 5), none⟩,
    ⟨some 7, .mv (.t 1), none⟩,
    ⟨some 8, .call 250 [.t 6, .t 7] [] [], none⟩,
    ⟨some 1, .mv (.t 8), none⟩] [1, 2] [2])
  (.seq (.seq (.reg [⟨some 9, .mv (.t 1), none⟩,
    ⟨some 10, .bin .lss (.t 9) (.k (.int .i64 0)), none⟩] [1, 2, 10] [2])
  (.cond (.t 10) (.seq (.reg [⟨some 4, .mv (.k (.int .i64 (-1))), none⟩] [4] [])
  (.ret)) (.skip)))
  (.seq (.reg [⟨some 11, .mv (.t 1), none⟩,
    ⟨some 12, .faddr 3 (.t 2), none⟩,
    ⟨some 13, .load false 1 (.t 12), none⟩,
    ⟨some 14, .slen (.t 13), none⟩,
    ⟨some 15, .bin .sub (.t 11) (.t 14), none⟩,
    ⟨some 1, .mv (.t 15), none⟩] [1] [])
  (.seq (.seq (.reg [⟨some 16, .mv (.t 1), none⟩,
    ⟨some 17, .bin .lss (.t 16) (.k (.int .i64 0)), none⟩] [1, 17] [])
  (.cond (.t 17) (.seq (.reg [⟨some 4, .mv (.k (.int .i64 (-1))), none⟩] [4] [])
  (.ret)) (.skip)))
  (.seq (.reg [⟨some 18, .mv (.t 1), none⟩,
    ⟨some 4, .mv (.t 18), none⟩] [4] [])
  (.ret))))))
def laws_szMail.m : Fn := { np := 2, body := laws_szMail.b, res := [.tmp 4] }
def laws_szMail.k (M : Nat → Option Body) : Prop := M 208 = some (.code laws_szMail.m) ∧ laws_szRegS.k M
def laws_szMailS.l0 : C := .seq (.seq (.reg [⟨some 12, .mv (.t 5), none⟩,
    ⟨some 13, .mv (.t 0), none⟩,
    ⟨some 14, .len (.t 13), none⟩,
    ⟨some 15, .bin .lss (.t 12) (.t 14), none⟩] [0, 1, 5, 15] [])
  (.cond (.t 15) (.skip) (.exit 0)))
  (.seq (.block 1 (.seq (.reg [⟨some 18, .mv (.t 0), none⟩,
    ⟨some 19, .mv (.t 5), none⟩,
    ⟨some 20, .iaddr 4 (.t 18) (.t 19), none⟩,
    ⟨some 21, .load true 4 (.t 20), none⟩,
    ⟨some 22, .mv (.t 1), none⟩,
    ⟨some 23, .call 208 [.t 21, .t 22] [] [], none⟩,
    ⟨some 1, .mv (.t 23), none⟩] [0, 1, 5] [])
  (.seq (.reg [⟨some 24, .mv (.t 1), none⟩,
    ⟨some 25, .bin .lss (.t 24) (.k (.int .i64 0)), none⟩] [0, 1, 5, 25] [])
  (.cond (.t 25) (.seq (.reg [⟨some 4, .mv (.k (.int .i64 (-1))), none⟩] [4] [])
  (.ret)) (.skip)))))
  (.reg [⟨some 16, .mv (.t 5), none⟩,
    ⟨some 17, .bin .add (.t 16) (.k (.int .i64 1)), none⟩,
    ⟨some 5, .mv (.t 17), none⟩] [0, 1, 5] []))
def laws_szMailS.b : C := .seq (.reg [⟨some 4, .mv (.k (.int .i64 0)), none⟩] [0, 1] [])
  (.seq (.reg [⟨some 6, .mv (.t 1), none⟩,
    ⟨some 7, .mv (.t 0), none⟩,
    ⟨some 8, .len (.t 7), none⟩,
    ⟨some 9, .bin .sub (.t 6) (.t 8), none⟩,
    ⟨some 1, .mv (.t 9), none⟩] [0, 1] [])
  (.seq (.seq (.reg [⟨some 10, .mv (.t 1), none⟩,
    ⟨some 11, .bin .lss (.t 10) (.k (.int .i64 0)), none⟩] [0, 1, 11] [])
  (.cond (.t 11) (.seq (.reg [⟨some 4, .mv (.k (.int .i64 (-1))), none⟩] [4] [])
  (.ret)) (.skip)))
  (.seq (.seq (.reg [⟨some 5, .mv (.k (.int .i64 0)), none⟩] [0, 1, 5] [])
  (.block 0 (.loop laws_szMailS.l0)))
  (.seq (.reg [⟨some 26, .mv (.t 1), none⟩,
    ⟨some 4, .mv (.t 26), none⟩] [4] [])
  (.ret)))))
def laws_szMailS.m : Fn := { np := 2, body := laws_szMailS.b, res := [.tmp 4] }
def laws_szMailS.k (M : Nat → Option Body) : Prop := M 107 = some (.code laws_szMailS.m) ∧ laws_szMail.k M
def laws_szBox.b : C := .seq (.reg [⟨some 2, .box (.t 0), none⟩,
    ⟨some 4, .mv (.k (.int .i64 0)), none⟩] [1, 2] [2])
  (.seq (.reg [⟨some 5, .mv (.t 1), none⟩,
    ⟨some 6, .faddr 1 (.t 2), none⟩,
    ⟨some 7, .load false 1 (.t 6), none⟩,
    ⟨some 8, .slen (.t 7), none⟩,
    ⟨some 9, .bin .sub (.t 5) (.t 8), none⟩,
    ⟨some 1, .mv (.t 9), none⟩] [1, 2] [2])
  (.seq (.seq (.reg [⟨some 10, .mv (.t 1), none⟩,
    ⟨some 11, .bin .lss (.t 10) (.k (.int .i64 0)), none⟩] [1, 2, 11] [2])
  (.cond (.t 11) (.seq (.reg [⟨some 4, .mv (.k (.int .i64 (-1))), none⟩] [4] [])
  (.ret)) (.skip)))
  (.seq (.reg [⟨some 12, .faddr 5 (.t 2), none⟩,
    ⟨some 13, .load false 1 (.t 12), none⟩,
    ⟨some 14, .mv (.t 1), none⟩,
    ⟨some 15, .call 107 [.t 13, .t 14] [] [], none⟩,
    ⟨some 1, .mv (.t 15), none⟩] [1, 2] [2])
  (.seq (.seq (.reg [⟨some 16, .mv (.t 1), none⟩,
    ⟨some 17, .bin .lss (.t 16) (.k (.int .i64 0)), none⟩] [1, 2, 17] [2])
  (.cond (.t 17) (.seq (.reg [⟨some 4, .mv (.k (.int .i64 (-1))), none⟩] [4] [])
  (.ret)) (.skip)))
  (.seq (.reg [⟨some 18, .faddr 6 (.t 2), none⟩,
    ⟨some 19, .load false 1 (.t 18), none⟩,
    ⟨some 20, .mv (.t 1), none⟩,
    ⟨some 21, .call 108 [.t 19, .t 20] [] [], none⟩,
    ⟨some 1, .mv (.t 21), none⟩] [1] [])
  (.seq (.seq (.reg [⟨some 22, .mv (.t 1), none⟩,
    ⟨some 23, .bin .lss (.t 22) (.k (.int .i64 0)), none⟩] [1, 23] [])
  (.cond (.t 23) (.seq (.reg [⟨some 4, .mv (.k (.int .i64 (-1))), none⟩] [4] [])
  (.ret)) (.skip)))
  (.seq (.reg [⟨some 24, .mv (.t 1), none⟩,
    ⟨some 4, .mv (.t 24), none⟩] [4] [])
  (.ret))))))))
def laws_szBox.m : Fn := { np := 2, body := laws_szBox.b, res := [.tmp 4] }
def laws_szBox.k (M : Nat → Option Body) : Prop := M 17 = some (.code laws_szBox.m) ∧ laws_szMailS.k M ∧ laws_szIntS.k M
def laws_eqStamp.b : C := .seq (.reg [⟨some 2, .box (.t 0), none⟩,
    ⟨some 3, .box (.t 1), none⟩,
    ⟨some 4, .mv (.k (.bool false)), none⟩] [2, 3] [2, 3])
  (.seq (.seq (.reg [⟨some 5, .faddr 0 (.t 2), none⟩,
    ⟨some 6, .load false 1 (.t 5), none⟩,
    ⟨some 7, .faddr 0 (.t 3), none⟩,
    ⟨some 8, .load false 1 (.t 7), none⟩,
    ⟨some 9, .bin .neq (.t 6) (.t 8), none⟩] [2, 3, 9] [2, 3])
  (.cond (.t 9) (.seq (.reg [⟨some 4, .mv (.k (.bool false)), none⟩] [4] [])
  (.ret)) (.skip)))
  (.seq (.seq (.reg [⟨some 10, .faddr 1 (.t 2), none⟩,
    ⟨some 11, .load false 1 (.t 10), none⟩,
    ⟨some 12, .faddr 1 (.t 3), none⟩,
    ⟨some 13, .load false 1 (.t 12), none⟩,
    ⟨some 14, .bin .neq (.t 11) (.t 13), none⟩] [14] [])
  (.cond (.t 14) (.seq (.reg [⟨some 4, .mv (.k (.bool false)), none⟩] [4] [])
  (.ret)) (.skip)))
  (.seq (.reg [⟨some 4, .mv (.k (.bool true)), none⟩] [4] [])
  (.ret))))
def laws_eqStamp.m : Fn := { np := 2, body := laws_eqStamp.b, res := [.tmp 4] }
def laws_eqStamp.k (M : Nat → Option Body) : Prop := M 111 = some (.code laws_eqStamp.m)
def laws_eqReg.b : C := .seq (.reg [⟨some 2, .box (.t 0), none⟩,
    ⟨some 3, .box (.t 1), none⟩,
    ⟨some 4, .mv (.k (.bool false)), none⟩] [2, 3] [2, 3])
  (.seq (.seq (.reg [⟨some 5, .faddr 0 (.t 2), none⟩,
    ⟨some 6, .load false 1 (.t 5), none⟩,
    ⟨some 7, .faddr 0 (.t 3), none⟩,
    ⟨some 8, .load false 1 (.t 7), none⟩,
    ⟨some 9, .bin .neq (.t 6) (.t 8), none⟩] [2, 3, 9] [2, 3])
  (.cond (.t 9) (.seq (.reg [⟨some 4, .mv (.k (.bool false)), none⟩] [4] [])
  (.ret)) (.skip)))
  (.seq (.seq (.reg [⟨some 10, .faddr 1 (.t 2), none⟩,
    ⟨some 11, .load true 2 (.t 10), none⟩,
    ⟨some 12, .faddr 1 (.t 3), none⟩,
    ⟨some 13, .load true 2 (.t 12), none⟩,
    ⟨some 14, .call 111 [.t 11, .t 13] [] [], none⟩,
    ⟨some 15, .not (.t 14), none⟩] [15] [])
  (.cond (.t 15) (.seq (.reg [⟨some 4, .mv (.k (.bool false)), none⟩] [4] [])
  (.ret)) (.skip)))
  (.seq (.reg [⟨some 4, .mv (.k (.bool true)), none⟩] [4] [])
  (.ret))))
def laws_eqReg.m : Fn := { np := 2, body := laws_eqReg.b, res := [.tmp 4] }
def laws_eqReg.k (M : Nat → Option Body) : Prop := M 289 = some (.code laws_eqReg.m) ∧ laws_eqStamp.k M
def laws_eqRegS.l0 : C := .seq (.seq (.reg [⟨some 11, .mv (.t 5), none⟩,
    ⟨some 12, .mv (.t 0), none⟩,
    ⟨some 13, .len (.t 12), none⟩,
    ⟨some 14, .bin .lss (.t 11) (.t 13), none⟩] [0, 1, 5, 14] [])
  (.cond (.t 14) (.skip) (.exit 0)))
  (.seq (.block 1 (.seq (.regd [⟨some 17, .mv (.t 0), none⟩,
    ⟨some 18, .mv (.t 5), none⟩,
    ⟨some 19, .iaddr 3 (.t 17) (.t 18), none⟩,
    ⟨some 20, .load true 3 (.t 19), none⟩,
    ⟨some 21, .mv (.t 1), none⟩,
    ⟨some 22, .mv (.t 5), none⟩,
    ⟨some 23, .iaddr 3 (.t 21) (.t 22), none⟩,
    ⟨some 24, .load true 3 (.t 23), none⟩,
    ⟨some 25, .call 289 [.t 20, .t 24] [] [], none⟩,
    ⟨some 26, .not (.t 25), none⟩] [[], [], [0, 1], [0, 1, 2], [], [], [4, 5], [4, 5, 6], [0, 1, 2, 3, 4, 5, 6, 7], [0, 1, 2, 3, 4, 5, 6, 7, 8]] [0, 1, 5, 26] [])
  (.cond (.t 26) (.seq (.reg [⟨some 4, .mv (.k (.bool false)), none⟩] [4] [])
  (.ret)) (.skip))))
  (.reg [⟨some 15, .mv (.t 5), none⟩,
    ⟨some 16, .bin .add (.t 15) (.k (.int .i64 1)), none⟩,
    ⟨some 5, .mv (.t 16), none⟩] [0, 1, 5] []))
def laws_eqRegS.b : C := .seq (.reg [⟨some 4, .mv (.k (.bool false)), none⟩] [0, 1] [])
  (.seq (.seq (.reg [⟨some 6, .mv (.t 0), none⟩,
    ⟨some 7, .len (.t 6), none⟩,
    ⟨some 8, .mv (.t 1), none⟩,
    ⟨some 9, .len (.t 8), none⟩,
    ⟨some 10, .bin .neq (.t 7) (.t 9), none⟩] [0, 1, 10] [])
  (.cond (.t 10) (.seq (.reg [⟨some 4, .mv (.k (.bool false)), none⟩] [4] [])
  (.ret)) (.skip)))
  (.seq (.seq (.reg [⟨some 5, .mv (.k (.int .i64 0)), none⟩] [0, 1, 5] [])
  (.block 0 (.loop laws_eqRegS.l0)))
  (.seq (.reg [⟨some 4, .mv (.k (.bool true)), none⟩] [4] [])
  (.ret))))
def laws_eqRegS.m : Fn := { np := 2, body := laws_eqRegS.b, res := [.tmp 4] }
def laws_eqRegS.k (M : Nat → Option Body) : Prop := M 252 = some (.code laws_eqRegS.m) ∧ laws_eqReg.k M
def laws_eqMail.b : C := .seq (.reg [⟨some 2, .box (.t 0), none⟩,
    ⟨some 3, .box (.t 1), none⟩,
    ⟨some 4, .mv (.k (.bool false)), none⟩] [2, 3] [2, 3])
  (.seq (.seq (.reg [⟨some 5, .faddr 0 (.t 2), none⟩,
    ⟨some 6, .load false 1 (.t 5), none⟩,
    ⟨some 7, .faddr 0 (.t 3), none⟩,
    ⟨some 8, .load false 1 (.t 7), none⟩,
    ⟨some 9, .bin .neq (.t 6) (.t 8), none⟩] [2, 3, 9] [2, 3])
  (.cond (.t 9) (.seq (.reg [⟨some 4, .mv (.k (.bool false)), none⟩] [4] [])
  (.ret)) (.skip)))
  (.seq (.seq (.reg [⟨some 10, .faddr 1 (.t 2), none⟩,
    ⟨some 11, .load false 1 (.t 10), none⟩,
    ⟨some 12, .faddr 1 (.t 3), none⟩,
    ⟨some 13, .load false 1 (.t 12), none⟩,
    ⟨some 14, .bin .neq (.t 11) (.t 13), none⟩] [2, 3, 14] [2, 3])
  (.cond (.t 14) (.seq (.reg [⟨some 4, .mv (.k (.bool false)), none⟩] [4] [])
  (.ret)) (.skip)))
  (.seq (.seq (.reg [⟨some 15, .faddr 2 (.t 2), none⟩,
    ⟨some 16, .load false 1 (.t 15), none⟩,
    ⟨some 17, .faddr 2 (.t 3), none⟩,
    ⟨some 18, .load false 1 (.t 17), none⟩,
    ⟨some 19, .call 252 [.t 16, .t 18] [] [], none⟩,
    ⟨some 20, .not (.t 19), none⟩] [2, 3, 20] [2, 3])
  (.cond (.t 20) (.seq (.reg [⟨some 4, .mv (.k (.bool false)), none⟩] [4] [])
  (.ret)) (.skip)))
  (.seq (.seq (.reg [⟨some 21, .faddr 3 (.t 2), none⟩,
    ⟨some 22, .load false 1 (.t 21), none⟩,
    ⟨some 23, .faddr 3 (.t 3), none⟩,
    ⟨some 24, .load false 1 (.t 23), none⟩,
    ⟨some 25, .bin .neq (.t 22) (.t 24), none⟩] [25] [])
  (.cond (.t 25) (.seq (.reg [⟨some 4, .mv (.k (.bool false)), none⟩] [4] [])
  (.ret)) (.skip)))
  (.seq (.reg [⟨some 4, .mv (.k (.bool true)), none⟩] [4] [])
  (.ret))))))
def laws_eqMail.m : Fn := { np := 2, body := laws_eqMail.b, res := [.tmp 4] }
def laws_eqMail.k (M : Nat → Option Body) : Prop := M 210 = some (.code laws_eqMail.m) ∧ laws_eqRegS.k M
def laws_eqMailS.l0 : C := .seq (.seq (.reg [⟨some 11, .mv (.t 5), none⟩,
    ⟨some 12, .mv (.t 0), none⟩,
    ⟨some 13, .len (.t 12), none⟩,
    ⟨some 14, .bin .lss (.t 11) (.t 13), none⟩] [0, 1, 5, 14] [])
  (.cond (.t 14) (.skip) (.exit 0)))
  (.seq (.block 1 (.seq (.regd [⟨some 17, .mv (.t 0), none⟩,
    ⟨some 18, .mv (.t 5), none⟩,
    ⟨some 19, .iaddr 4 (.t 17) (.t 18), none⟩,
    ⟨some 20, .load true 4 (.t 19), none⟩,
    ⟨some 21, .mv (.t 1), none⟩,
    ⟨some 22, .mv (.t 5), none⟩,
    ⟨some 23, .iaddr 4 (.t 21) (.t 22), none⟩,
    ⟨some 24, .load true 4 (.t 23), none⟩,
    ⟨some 25, .call 210 [.t 20, .t 24] [] [], none⟩,
    ⟨some 26, .not (.t 25), none⟩] [[], [], [0, 1], [0, 1, 2], [], [], [4, 5], [4, 5, 6], [0, 1, 2, 3, 4, 5, 6, 7], [0, 1, 2, 3, 4, 5, 6, 7, 8]] [0, 1, 5, 26] [])
  (.cond (.t 26) (.seq (.reg [⟨some 4, .mv (.k (.bool false)), none⟩] [4] [])
  (.ret)) (.skip))))
  (.reg [⟨some 15, .mv (.t 5), none⟩,
    ⟨some 16, .bin .add (.t 15) (.k (.int .i64 1)), none⟩,
    ⟨some 5, .mv (.t 16), none⟩] [0, 1, 5] []))
def laws_eqMailS.b : C := .seq (.reg [⟨some 4, .mv (.k (.bool false)), none⟩] [0, 1] [])
  (.seq (.seq (.reg [⟨some 6, .mv (.t 0), none⟩,
    ⟨some 7, .len (.t 6), none⟩,
    ⟨some 8, .mv (.t 1), none⟩,
    ⟨some 9, .len (.t 8), none⟩,
    ⟨some 10, .bin .neq (.t 7) (.t 9), none⟩] [0, 1, 10] [])
  (.cond (.t 10) (.seq (.reg [⟨some 4, .mv (.k (.bool false)), none⟩] [4] [])
  (.ret)) (.skip)))
  (.seq (.seq (.reg [⟨some 5, .mv (.k (.int .i64 0)), none⟩] [0, 1, 5] [])
  (.block 0 (.loop laws_eqMailS.l0)))
  (.seq (.reg [⟨some 4, .mv (.k (.bool true)), none⟩] [4] [])
  (.ret))))
def laws_eqMailS.m : Fn := { np := 2, body := laws_eqMailS.b, res := [.tmp 4] }
def laws_eqMailS.k (M : Nat → Option Body) : Prop := M 112 = some (.code laws_eqMailS.m) ∧ laws_eqMail.k M
def laws_eqBox.b : C := .seq (.reg [⟨some 2, .box (.t 0), none⟩,
    ⟨some 3, .box (.t 1), none⟩,
    ⟨some 4, .mv (.k (.bool false)), none⟩] [2, 3] [2, 3])
  (.seq (.seq (.reg [⟨some 5, .faddr 0 (.t 2), none⟩,
    ⟨some 6, .load false 1 (.t 5), none⟩,
    ⟨some 7, .faddr 0 (.t 3), none⟩,
    ⟨some 8, .load false 1 (.t 7), none⟩,
    ⟨some 9, .bin .neq (.t 6) (.t 8), none⟩] [2, 3, 9] [2, 3])
  (.cond (.t 9) (.seq (.reg [⟨some 4, .mv (.k (.bool false)), none⟩] [4] [])
  (.ret)) (.skip)))
  (.seq (.seq (.reg [⟨some 10, .faddr 1 (.t 2), none⟩,
    ⟨some 11, .load false 1 (.t 10), none⟩,
    ⟨some 12, .faddr 1 (.t 3), none⟩,
    ⟨some 13, .load false 1 (.t 12), none⟩,
    ⟨some 14, .bin .neq (.t 11) (.t 13), none⟩] [2, 3, 14] [2, 3])
  (.cond (.t 14) (.seq (.reg [⟨some 4, .mv (.k (.bool false)), none⟩] [4] [])
  (.ret)) (.skip)))
  (.seq (.seq (.reg [⟨some 15, .faddr 2 (.t 2), none⟩,
    ⟨some 16, .load true 2 (.t 15), none⟩,
    ⟨some 17, .faddr 2 (.t 3), none⟩,
    ⟨some 18, .load true 2 (.t 17), none⟩,
    ⟨some 19, .call 111 [.t 16, .t 18] [] [], none⟩,
    ⟨some 20, .not (.t 19), none⟩] [2, 3, 20] [2, 3])
  (.cond (.t 20) (.seq (.reg [⟨some 4, .mv (.k (.bool false)), none⟩] [4] [])
  (.ret)) (.skip)))
  (.seq (.seq (.reg [⟨some 21, .faddr 4 (.t 2), none⟩,
    ⟨some 22, .load false 1 (.t 21), none⟩,
    ⟨some 23, .faddr 4 (.t 3), none⟩,
    ⟨some 24, .load false 1 (.t 23), none⟩,
    ⟨some 25, .bin .neq (.t 22) (.t 24), none⟩] [2, 3, 25] [2, 3])
  (.cond (.t 25) (.seq (.reg [⟨some 4, .mv (.k (.bool false)), none⟩] [4] [])
  (.ret)) (.skip)))
  (.seq (.seq (.reg [⟨some 26, .faddr 5 (.t 2), none⟩,
    ⟨some 27, .load false 1 (.t 26), none⟩,
    ⟨some 28, .faddr 5 (.t 3), none⟩,
    ⟨some 29, .load false 1 (.t 28), none⟩,
    ⟨some 30, .call 112 [.t 27, .t 29] [] [], none⟩,
    ⟨some 31, .not (.t 30), none⟩] [2, 3, 31] [2, 3])
  (.cond (.t 31) (.seq (.reg [⟨some 4, .mv (.k (.bool false)), none⟩] [4] [])
  (.ret)) (.skip)))
  (.seq (.seq (.reg [⟨some 32, .faddr 6 (.t 2), none⟩,
    ⟨some 33, .load false 1 (.t 32), none⟩,
    ⟨some 34, .faddr 6 (.t 3), none⟩,
    ⟨some 35, .load false 1 (.t 34), none⟩,
    ⟨some 36, .call 45 [.t 33, .t 35] [] [], none⟩,
    ⟨some 37, .not (.t 36), none⟩] [37] [])
  (.cond (.t 37) (.seq (.reg [⟨some 4, .mv (.k (.bool false)), none⟩] [4] [])
  (.ret)) (.skip)))
  (.seq (.reg [⟨some 4, .mv (.k (.bool true)), none⟩] [4] [])
  (.ret))))))))
def laws_eqBox.m : Fn := { np := 2, body := laws_eqBox.b, res := [.tmp 4] }
def laws_eqBox.k (M : Nat → Option Body) : Prop := M 21 = some (.code laws_eqBox.m) ∧ laws_eqIntS.k M ∧ laws_eqStamp.k M ∧ laws_eqMailS.k M
end Mx

/-
  The laws' plumbing at any type: what slices weigh.
-/
namespace Mx
open Go
variable {M : Nat → Option Body}
def szLb : C := .seq (.reg [⟨some 4, .mv (.k (.int .i64 0)), none⟩] [0, 1] [])
  (.seq (.reg [⟨some 5, .mv (.t 1), none⟩,
    ⟨some 6, .mv (.t 0), none⟩,
    ⟨some 7, .len (.t 6), none⟩,
    ⟨some 8, .bin .sub (.t 5) (.t 7), none⟩,
    ⟨some 1, .mv (.t 8), none⟩] [1] [])
  (.seq (.seq (.reg [⟨some 9, .mv (.t 1), none⟩,
    ⟨some 10, .bin .lss (.t 9) (.k (.int .i64 0)), none⟩] [1, 10] [])
  (.cond (.t 10) (.seq (.reg [⟨some 4, .mv (.k (.int .i64 (-1))), none⟩] [4] [])
  (.ret)) (.skip)))
  (.seq (.reg [⟨some 11, .mv (.t 1), none⟩,
    ⟨some 4, .mv (.t 11), none⟩] [4] [])
  (.ret))))
def szLm : Fn := { np := 2, body := szLb, res := [.tmp 4] }
theorem szL_says {F n : Nat} (h : M F = some (.code szLm)) {rows : List (List T)} (hl : rows.length ≤ 9223372036854775807) (k : Int) (hk : 0 ≤ k) (hk' : k ≤ 9223372036854775807) :
    run M F [.c (.sl false n rows), .c (I k)] [] = some (.c (I (if k < rows.length then -1 else k - rows.length)), []) := by
  refine run_code (b := szLm) h ⟨0, ?_⟩
  have e5 : IntKind.i64.wrap (k - (rows.length : Int)) = k - (rows.length : Int) := wrap_i64 (by omega) (by omega)
  by_cases hc : k < rows.length
  · have h1 : k - (rows.length : Int) < 0 := by omega
    simp [exB, szLm, szLb, List.range_succ, e5, h1, hc]
  · have h1 : ¬ k - (rows.length : Int) < 0 := by omega
    simp [exB, szLm, szLb, List.range_succ, e5, h1, hc]

theorem call_sz {n : Nat} {o : List (Nat × Ob)} {f : Nat} {r : List T} {k m : Int} (hr : r.all closedT = true) (h : run M f [.a r, .c (I k)] [] = some (.c (I m), [])) :
    doCall (run M) n o f [.a r, .c (I k)] [] [] = some (.c (I m), []) := by
  obtain ⟨h1, h2, _⟩ := im_closedL (o := o) hr
  simp [doCall, args, lendsC, V.im, V.wr, h1, h2, h, lentBack, back, backV, backT]
def szSl (n f : Nat) : C := .seq (.seq (.reg [⟨some 12, .mv (.t 5), none⟩,
    ⟨some 13, .mv (.t 0), none⟩,
    ⟨some 14, .len (.t 13), none⟩,
    ⟨some 15, .bin .lss (.t 12) (.t 14), none⟩] [0, 1, 5, 15] [])
  (.cond (.t 15) (.skip) (.exit 0)))
  (.seq (.block 1 (.seq (.reg [⟨some 18, .mv (.t 0), none⟩,
    ⟨some 19, .mv (.t 5), none⟩,
    ⟨some 20, .iaddr n (.t 18) (.t 19), none⟩,
    ⟨some 21, .load true n (.t 20), none⟩,
    ⟨some 22, .mv (.t 1), none⟩,
    ⟨some 23, .call f [.t 21, .t 22] [] [], none⟩,
    ⟨some 1, .mv (.t 23), none⟩] [0, 1, 5] [])
  (.seq (.reg [⟨some 24, .mv (.t 1), none⟩,
    ⟨some 25, .bin .lss (.t 24) (.k (.int .i64 0)), none⟩] [0, 1, 5, 25] [])
  (.cond (.t 25) (.seq (.reg [⟨some 4, .mv (.k (.int .i64 (-1))), none⟩] [4] [])
  (.ret)) (.skip)))))
  (.reg [⟨some 16, .mv (.t 5), none⟩,
    ⟨some 17, .bin .add (.t 16) (.k (.int .i64 1)), none⟩,
    ⟨some 5, .mv (.t 17), none⟩] [0, 1, 5] []))
def szSb (n f : Nat) : C := .seq (.reg [⟨some 4, .mv (.k (.int .i64 0)), none⟩] [0, 1] [])
  (.seq (.reg [⟨some 6, .mv (.t 1), none⟩,
    ⟨some 7, .mv (.t 0), none⟩,
    ⟨some 8, .len (.t 7), none⟩,
    ⟨some 9, .bin .sub (.t 6) (.t 8), none⟩,
    ⟨some 1, .mv (.t 9), none⟩] [0, 1] [])
  (.seq (.seq (.reg [⟨some 10, .mv (.t 1), none⟩,
    ⟨some 11, .bin .lss (.t 10) (.k (.int .i64 0)), none⟩] [0, 1, 11] [])
  (.cond (.t 11) (.seq (.reg [⟨some 4, .mv (.k (.int .i64 (-1))), none⟩] [4] [])
  (.ret)) (.skip)))
  (.seq (.seq (.reg [⟨some 5, .mv (.k (.int .i64 0)), none⟩] [0, 1, 5] [])
  (.block 0 (.loop (szSl n f))))
  (.seq (.reg [⟨some 26, .mv (.t 1), none⟩,
    ⟨some 4, .mv (.t 26), none⟩] [4] [])
  (.ret)))))
def szSm (n f : Nat) : Fn := { np := 2, body := szSb n f, res := [.tmp 4] }
def szSst (n : Nat) (rows : List (List T)) (s : Nat × Nat) (x : Nat) : St := { t := [(0, .c (.sl false n rows)), (1, .c (I s.2)), (5, .c (I s.1))], o := [], n := x }
/-- what is left of k behind these weights -/
def leftS (k : Nat) : List Nat → Option Nat
  | [] => some k
  | w :: ws => if k < w then none else leftS (k - w) ws
theorem leftS_eq : ∀ (ws : List Nat) (k : Nat), leftS k ws = if k < ws.sum then none else some (k - ws.sum)
  | [], k => by simp [leftS]
  | w :: ws, k => by
    have hs : (w :: ws).sum = w + ws.sum := List.sum_cons
    rw [leftS, leftS_eq ws]
    by_cases h : k < w
    · rw [if_pos h, if_pos (by rw [hs]; omega)]
    · rw [if_neg h]
      by_cases h2 : k - w < ws.sum
      · rw [if_pos h2, if_pos (by rw [hs]; omega)]
      · rw [if_neg h2, if_neg (by rw [hs]; omega)]; congr 1; rw [hs]; omega
def szFin (n : Nat) (rows : List (List T)) (q : Option Nat) (m : Nat) : Out × St := match q with
  | none => (.ret, { t := [(4, .c (I (-1)))], o := [], n := m })
  | some k => (.exit 0, { t := [(0, .c (.sl false n rows)), (1, .c (I k)), (5, .c (I rows.length)), (15, .c (.bool false))], o := [], n := m })
theorem szS_says {F n f : Nat} (h : M F = some (.code (szSm n f))) {rows : List (List T)} (hl : rows.length ≤ 9223372036854775807) (wt : List T → Nat)
    (he : ∀ r ∈ rows, r.length = n ∧ r.all closedT = true ∧ ∀ k : Nat, k ≤ 1048576 → run M f [.a r, .c (I k)] [] = some (.c (I (if k < wt r then -1 else (k : Int) - wt r)), [])) (k : Nat) (hk : k ≤ 1048576) :
    run M F [.c (.sl false n rows), .c (I k)] [] = some (.c (I (if k < rows.length + (rows.map wt).sum then -1 else (k : Int) - (rows.length + (rows.map wt).sum : Nat))), []) := by
  refine run_code (b := szSm n f) h ⟨rows.length + 1, ?_⟩
  have e0 : IntKind.i64.wrap ((k : Int) - (rows.length : Int)) = (k : Int) - (rows.length : Int) := wrap_i64 (by omega) (by omega)
  by_cases hc : k < rows.length
  · have h1 : (k : Int) - (rows.length : Int) < 0 := by omega
    have h2 : k < rows.length + (rows.map wt).sum := by omega
    rw [if_pos h2]
    simp [exB, szSm, szSb, List.range_succ, e0, h1]
  have h1 : ¬ (k : Int) - (rows.length : Int) < 0 := by omega
  obtain ⟨g, hr⟩ := loop_all (f := exC (run M) (rows.length + 1) (szSl n f)) (szSst n rows) (fun s => s.1 ≤ rows.length ∧ s.2 ≤ 1048576) (fun s => rows.length - s.1) (fun s => leftS s.2 ((rows.drop s.1).map wt)) (szFin n rows)
    (by
      rintro ⟨i, q⟩ x ⟨p1, p2⟩
      simp only at p1 p2
      by_cases hlt : i < rows.length
      · have e5 : IntKind.i64.wrap ((i : Int) + 1) = (i : Int) + 1 := wrap_i64 (by omega) (by omega)
        obtain ⟨k1, k2, k3⟩ := he rows[i] (List.getElem_mem hlt)
        have hcall := fun nn => call_sz (n := nn) (o := []) k2 (k3 q p2)
        have h6 : (List.take n rows[i]) = rows[i] := List.take_of_length_le (by omega)
        have hd : leftS q ((rows.drop i).map wt) = if q < wt rows[i] then none else leftS (q - wt rows[i]) ((rows.drop (i + 1)).map wt) := by
          rw [List.drop_eq_getElem_cons hlt, List.map_cons, leftS]
        simp only [hd]
        by_cases c : q < wt rows[i]
        · right
          have c' : (q : Int) < wt rows[i] := by omega
          simp only [if_pos c] at hcall
          rw [if_pos c]
          obtain ⟨y, hy⟩ : ∃ y, exC (run M) (rows.length + 1) (szSl n f) (szSst n rows (i, q) x) = some (szFin n rows none y) := by
            simp [szSst, szSl, szFin, hlt, k1, hcall, h6, -doCall]
          exact ⟨y, hy, by simp [szFin]⟩
        · left
          simp only [if_neg c] at hcall
          rw [if_neg c]
          have c2 : ¬ (q : Int) - wt rows[i] < 0 := by omega
          have c3 : (q : Int) - wt rows[i] = ((q - wt rows[i] : Nat) : Int) := by omega
          rw [c3] at hcall c2
          obtain ⟨y, hy⟩ : ∃ y, exC (run M) (rows.length + 1) (szSl n f) (szSst n rows (i, q) x) = some (.normal, szSst n rows (i + 1, q - wt rows[i]) y) := by
            simp [szSst, szSl, hlt, e5, k1, hcall, h6, c2, -doCall]
          exact ⟨(i + 1, q - wt rows[i]), y, hy, ⟨hlt, by simp only; omega⟩, by simp only; omega, rfl⟩
      · have : i = rows.length := by omega
        subst this
        right
        exact ⟨x + 64, by simp [szSst, szSl, szFin, leftS], by simp [szFin, leftS]⟩)
    (rows.length + 1) (0, k - rows.length) ⟨Nat.zero_le _, by simp only; omega⟩ (by simp)
  simp only [List.drop_zero, leftS_eq] at hr
  have h3 : (k : Int) - (rows.length : Int) = ((k - rows.length : Nat) : Int) := by omega
  rw [h3] at e0 h1
  have e0' : IntKind.i64.wrap ((k : Int) - (rows.length : Int)) = ((k - rows.length : Nat) : Int) := by rw [h3]; exact e0
  by_cases c : k < rows.length + (rows.map wt).sum
  · rw [if_pos (show k - rows.length < (rows.map wt).sum by omega)] at hr
    rw [if_pos c]
    simp [szSst, szFin] at hr
    simp [exB, szSm, szSb, List.range_succ, e0', hr, h1]
  · rw [if_neg (show ¬ k - rows.length < (rows.map wt).sum by omega)] at hr
    rw [if_neg c]
    simp [szSst, szFin] at hr
    have h4 : ((k - rows.length - (rows.map wt).sum : Nat) : Int) = (k : Int) - (rows.length + (rows.map wt).sum : Nat) := by omega
    simp [exB, szSm, szSb, List.range_succ, e0', hr, h1]
    omega
end Mx

/-
  Mails and boxes: as trees; what is laid over, weighed, held against.
-/
namespace Mx
open Go
variable {M : Nat → Option Body}
structure Reg where
  val : Int
  time : Int
  who : Int
structure Mail where
  gid : Int
  uid : Int
  flags : List Reg
  text : List UInt8
structure Box where
  gid : Int
  name : List UInt8
  time : Int
  who : Int
  next : Int
  mails : List Mail
  gone : List Int
abbrev encReg (r : Reg) : List T := [I r.val, I r.time, I r.who]
abbrev regs (l : List Reg) : T := .sl false 3 (l.map encReg)
abbrev encMail (m : Mail) : List T := [I m.gid, I m.uid, regs m.flags, S m.text]
abbrev mails (l : List Mail) : T := .sl false 4 (l.map encMail)
abbrev encBox (b : Box) : List T := [I b.gid, S b.name, I b.time, I b.who, I b.next, mails b.mails, ints b.gone]
/-- as their own -/
abbrev encMailO (m : Mail) : List T := [I m.gid, I m.uid, .sl true 3 (m.flags.map encReg), S m.text]
abbrev encBoxO (b : Box) : List T := [I b.gid, S b.name, I b.time, I b.who, I b.next, .sl true 4 (b.mails.map encMail), .sl true 1 (irow b.gone)]

/-! ## types -/
abbrev ctReg : List Ct := [.int .i64, .int .i64, .int .i64]
abbrev ctMail : List Ct := [.int .i64, .int .i64, .sl ctReg, .str]
abbrev ctBox : List Ct := [.int .i64, .str, .int .i64, .int .i64, .int .i64, .sl ctMail, .sl [.int .i64]]
theorem has_list {α : Type} {row : List Ct} (enc : α → List T) (Q : α → Prop) (hx : ∀ r, HasL row r → ∃ x, r = enc x ∧ Q x) {u : T} (h : Has (.sl row) u) :
    ∃ l : List α, u = .sl false row.length (l.map enc) ∧ l.length ≤ maxLen ∧ ∀ x ∈ l, Q x := by
  cases h with | sl _ rows hl h1 h2 =>
  have : ∀ rows : List (List T), (∀ r ∈ rows, HasL row r) → ∃ l : List α, rows = l.map enc ∧ ∀ x ∈ l, Q x := by
    intro rows
    induction rows with
    | nil => intro _; exact ⟨[], rfl, fun x h => by cases h⟩
    | cons r rs ih =>
      intro hr
      obtain ⟨l, rfl, hq⟩ := ih fun r h => hr r (List.mem_cons_of_mem _ h)
      obtain ⟨x, rfl, hqx⟩ := hx r (hr r (List.mem_cons_self ..))
      exact ⟨x :: l, rfl, fun y hy => by
        rcases List.mem_cons.1 hy with rfl | hy
        · exact hqx
        · exact hq y hy⟩
  obtain ⟨l, rfl, hq⟩ := this rows fun r hr => by
    obtain ⟨i, hi⟩ := List.getElem?_of_mem hr
    exact ⟨h1 i r hi, fun j c t e1 e2 => h2 i j r c t hi e1 e2⟩
  exact ⟨l, rfl, by simpa using hl, hq⟩
theorem has_int {k : IntKind} {u : T} (h : Has (.int k) u) : ∃ n, u = .int k n := by cases h; exact ⟨_, rfl⟩
theorem has_str {u : T} (h : Has .str u) : ∃ l : List UInt8, u = S l ∧ l.length ≤ maxLen := by
  cases h with | str s hs =>
  obtain ⟨l, rfl⟩ := of_bytes s
  exact ⟨l, rfl, by simpa using hs⟩
theorem has_reg {r : List T} (h : HasL ctReg r) : ∃ x : Reg, r = encReg x ∧ True := by
  match r, h with
  | [a, b, c], h =>
    obtain ⟨x, rfl⟩ := has_int (h.2 0 _ a rfl rfl)
    obtain ⟨y, rfl⟩ := has_int (h.2 1 _ b rfl rfl)
    obtain ⟨z, rfl⟩ := has_int (h.2 2 _ c rfl rfl)
    exact ⟨⟨x, y, z⟩, rfl, trivial⟩
def MailFits (m : Mail) : Prop := m.flags.length ≤ maxLen ∧ m.text.length ≤ maxLen
theorem has_mail {r : List T} (h : HasL ctMail r) : ∃ x : Mail, r = encMail x ∧ MailFits x := by
  match r, h with
  | [a, b, c, d], h =>
    obtain ⟨x, rfl⟩ := has_int (h.2 0 _ a rfl rfl)
    obtain ⟨y, rfl⟩ := has_int (h.2 1 _ b rfl rfl)
    obtain ⟨l, rfl, hl, _⟩ := has_list encReg (fun _ => True) (fun r hr => has_reg hr) (h.2 2 _ c rfl rfl)
    obtain ⟨t, rfl, ht⟩ := has_str (h.2 3 _ d rfl rfl)
    exact ⟨⟨x, y, l, t⟩, rfl, hl, ht⟩
def BoxFits (b : Box) : Prop := b.name.length ≤ maxLen ∧ b.mails.length ≤ maxLen ∧ b.gone.length ≤ maxLen ∧ ∀ m ∈ b.mails, MailFits m
theorem has_box {r : List T} (h : HasL ctBox r) : ∃ x : Box, r = encBox x ∧ BoxFits x := by
  match r, h with
  | [a, b, c, d, e, f, g], h =>
    obtain ⟨x1, rfl⟩ := has_int (h.2 0 _ a rfl rfl)
    obtain ⟨x2, rfl, h2⟩ := has_str (h.2 1 _ b rfl rfl)
    obtain ⟨x3, rfl⟩ := has_int (h.2 2 _ c rfl rfl)
    obtain ⟨x4, rfl⟩ := has_int (h.2 3 _ d rfl rfl)
    obtain ⟨x5, rfl⟩ := has_int (h.2 4 _ e rfl rfl)
    obtain ⟨x6, rfl, h6, q6⟩ := has_list encMail MailFits (fun r hr => has_mail hr) (h.2 5 _ f rfl rfl)
    obtain ⟨x7, rfl, h7, _⟩ := has_list (fun n : Int => [I n]) (fun _ => True) (fun r hr => by
      match r, hr with
      | [a], hr => obtain ⟨n, rfl⟩ := has_int (hr.2 0 _ a rfl rfl); exact ⟨n, rfl, trivial⟩) (h.2 6 _ g rfl rfl)
    exact ⟨⟨x1, x2, x3, x4, x5, x6, x7⟩, rfl, h2, h6, h7, q6⟩

/-! ## weights -/
def wMail (m : Mail) : Nat := m.flags.length + m.text.length
def wMails (l : List Mail) : Nat := l.length + (l.map wMail).sum
def wBox (b : Box) : Nat := b.name.length + wMails b.mails + b.gone.length
theorem le_sum {α : Type} (f : α → Nat) : ∀ (l : List α) (x : α), x ∈ l → f x ≤ (l.map f).sum
  | y :: l, x, h => by
    have hs : ((y :: l).map f).sum = f y + (l.map f).sum := List.sum_cons
    rcases List.mem_cons.1 h with rfl | h
    · omega
    · have := le_sum f l x h; omega
theorem wMail_le {l : List Mail} {m : Mail} (h : m ∈ l) : wMail m ≤ wMails l := by
  have := le_sum wMail l m h
  unfold wMails; omega

theorem laws_szRegS.says (h : laws_szRegS.k M) (l : List Reg) (hl : l.length ≤ maxLen) (k : Nat) (hk : k ≤ 1048576) : run M 250 [.c (regs l), .c (I k)] [] = some (.c (I (if k < l.length then -1 else (k : Int) - l.length)), []) := by
  have hm : maxLen = 9223372036854775807 := rfl
  have := szL_says (M := M) (F := 250) (n := 3) h (rows := l.map encReg) (by simp; omega) k (by omega) (by omega)
  simpa using this
theorem laws_szMail.says (h : laws_szMail.k M) (m : Mail) (hm : MailFits m) (k : Nat) (hk : k ≤ 1048576) : run M 208 [.a (encMail m), .c (I k)] [] = some (.c (I (if k < wMail m then -1 else (k : Int) - wMail m)), []) := by
  have hx : maxLen = 9223372036854775807 := rfl
  obtain ⟨f1, f2⟩ := hm
  have h1 := laws_szRegS.says h.2 m.flags f1 k hk
  refine run_code (b := laws_szMail.m) h.1 ⟨0, ?_⟩
  unfold wMail
  by_cases c1 : k < m.flags.length
  · rw [if_pos c1] at h1
    rw [if_pos (show k < m.flags.length + m.text.length by omega)]
    simp [exB, laws_szMail.m, laws_szMail.b, List.range_succ, h1]
  · rw [if_neg c1] at h1
    have e1 : ¬ (k : Int) - m.flags.length < 0 := by omega
    have e2 : IntKind.i64.wrap ((k : Int) - m.flags.length - m.text.length) = (k : Int) - m.flags.length - m.text.length := wrap_i64 (by omega) (by omega)
    by_cases c2 : k < m.flags.length + m.text.length
    · have e3 : (k : Int) - m.flags.length - m.text.length < 0 := by omega
      rw [if_pos c2]
      simp [exB, laws_szMail.m, laws_szMail.b, List.range_succ, h1, e1, e2, e3]
    · have e3 : ¬ (k : Int) - m.flags.length - m.text.length < 0 := by omega
      rw [if_neg c2]
      have e4 : (k : Int) - (m.flags.length + m.text.length : Nat) = (k : Int) - m.flags.length - m.text.length := by omega
      rw [e4]
      simp [exB, laws_szMail.m, laws_szMail.b, List.range_succ, h1, e1, e2, e3]
theorem closed_mail (m : Mail) : (encMail m).all closedT = true := rfl
theorem closed_reg (m : Reg) : (encReg m).all closedT = true := rfl
/-- what a row of a mail weighs -/
def wRow : List T → Nat
  | [_, _, .sl _ _ rows, .str s] => rows.length + s.size
  | _ => 0
theorem wRow_mail (m : Mail) : wRow (encMail m) = wMail m := by simp [wRow, wMail]
theorem laws_szMailS.says (h : laws_szMailS.k M) (l : List Mail) (hl : l.length ≤ maxLen) (hm : ∀ m ∈ l, MailFits m) (k : Nat) (hk : k ≤ 1048576) :
    run M 107 [.c (mails l), .c (I k)] [] = some (.c (I (if k < wMails l then -1 else (k : Int) - wMails l)), []) := by
  have hx : maxLen = 9223372036854775807 := rfl
  have := szS_says (M := M) (F := 107) (n := 4) (f := 208) h.1 (rows := l.map encMail) (by simp; omega) wRow (by
    intro r hr
    obtain ⟨m, hmm, rfl⟩ := List.mem_map.1 hr
    refine ⟨rfl, rfl, fun k hk => ?_⟩
    rw [wRow_mail]
    exact laws_szMail.says h.2 m (hm m hmm) k hk) k hk
  have e : ((l.map encMail).map wRow).sum = (l.map wMail).sum := by
    rw [List.map_map]; congr 1; apply List.map_congr_left; intro m _; exact wRow_mail m
  rw [e, List.length_map] at this
  exact this
theorem laws_szBox.says (h : laws_szBox.k M) (b : Box) (hb : BoxFits b) (k : Nat) (hk : k ≤ 1048576) : run M 17 [.a (encBox b), .c (I k)] [] = some (.c (I (if k < wBox b then -1 else (k : Int) - wBox b)), []) := by
  have hx : maxLen = 9223372036854775807 := rfl
  obtain ⟨f1, f2, f3, f4⟩ := hb
  obtain ⟨h0, k1, k2⟩ := h
  refine run_code (b := laws_szBox.m) h0 ⟨0, ?_⟩
  have e1 : IntKind.i64.wrap ((k : Int) - b.name.length) = (k : Int) - b.name.length := wrap_i64 (by omega) (by omega)
  by_cases c1 : k < b.name.length
  · have d1 : (k : Int) - b.name.length < 0 := by omega
    rw [if_pos (show k < wBox b by unfold wBox; omega)]
    simp [exB, laws_szBox.m, laws_szBox.b, List.range_succ, e1, d1]
  have d1 : ¬ (k : Int) - b.name.length < 0 := by omega
  have h1 := laws_szMailS.says k1 b.mails f2 f4 (k - b.name.length) (by omega)
  rw [show ((k - b.name.length : Nat) : Int) = (k : Int) - b.name.length by omega] at h1
  by_cases c2 : k - b.name.length < wMails b.mails
  · rw [if_pos c2] at h1
    rw [if_pos (show k < wBox b by unfold wBox; omega)]
    simp [exB, laws_szBox.m, laws_szBox.b, List.range_succ, e1, d1, h1]
  rw [if_neg c2] at h1
  have d2 : ¬ (k : Int) - b.name.length - wMails b.mails < 0 := by omega
  have h2 := laws_szIntS.says k2 b.gone (by omega) ((k : Int) - b.name.length - wMails b.mails) (by omega) (by omega)
  by_cases c3 : (k : Int) - b.name.length - wMails b.mails < b.gone.length
  · rw [if_pos c3] at h2
    rw [if_pos (show k < wBox b by unfold wBox; omega)]
    simp [exB, laws_szBox.m, laws_szBox.b, List.range_succ, e1, d1, d2, h1, h2]
  · rw [if_neg c3] at h2
    have d3 : ¬ (k : Int) - b.name.length - wMails b.mails - b.gone.length < 0 := by omega
    rw [if_neg (show ¬ k < wBox b by unfold wBox; omega)]
    have e4 : (k : Int) - (wBox b : Nat) = (k : Int) - b.name.length - wMails b.mails - b.gone.length := by unfold wBox; omega
    rw [e4]
    simp [exB, laws_szBox.m, laws_szBox.b, List.range_succ, e1, d1, d2, d3, h1, h2]

/-! ## laid over -/
theorem laws_toStamp.says (h : laws_toStamp.k M) (a b : Int) : run M 109 [.a [I a, I b]] [] = some (.a [I a, I b], []) := by
  refine run_code (b := laws_toStamp.m) h ⟨0, ?_⟩
  simp [exB, laws_toStamp.m, laws_toStamp.b, List.range_succ]
theorem laws_toReg.says (h : laws_toReg.k M) (r : Reg) : run M 288 [.a (encReg r)] [] = some (.a (encReg r), []) := by
  have h1 := laws_toStamp.says h.2 r.time r.who
  refine run_code (b := laws_toReg.m) h.1 ⟨0, ?_⟩
  simp [exB, laws_toReg.m, laws_toReg.b, List.range_succ, h1]
theorem laws_toRegS.says (h : laws_toRegS.k M) (l : List Reg) (hl : l.length ≤ 1048576) : run M 251 [.c (regs l)] [] = some (.c (.sl true 3 (l.map encReg)), []) := by
  refine toS_says (M := M) (F := 251) (n := 3) (by' := 24) (z := [.int .i64 0, .int .i64 0, .int .i64 0]) (f := 288) h.1 rfl (by simpa using hl) (by omega) (fun r hr => ?_)
  obtain ⟨x, _, rfl⟩ := List.mem_map.1 hr
  exact ⟨rfl, rfl, _, laws_toReg.says h.2 x, rfl, rfl⟩
theorem laws_toMail.says (h : laws_toMail.k M) (m : Mail) (hm : wMail m ≤ 1048576) : run M 209 [.a (encMail m)] [] = some (.a (encMailO m), []) := by
  have h1 := laws_toRegS.says h.2 m.flags (by unfold wMail at hm; omega)
  refine run_code (b := laws_toMail.m) h.1 ⟨0, ?_⟩
  simp [exB, laws_toMail.m, laws_toMail.b, List.range_succ, h1, setAt, List.take_of_length_le]
theorem laws_toMailS.says (h : laws_toMailS.k M) (l : List Mail) (hl : wMails l ≤ 1048576) : run M 110 [.c (mails l)] [] = some (.c (.sl true 4 (l.map encMail)), []) := by
  refine toS_says (M := M) (F := 110) (n := 4) (by' := 56) (z := [.int .i64 0, .int .i64 0, .nils 3, .str ⟨#[]⟩]) (f := 209) h.1 rfl (by simp; unfold wMails at hl; omega) (by omega) (fun r hr => ?_)
  obtain ⟨x, hx, rfl⟩ := List.mem_map.1 hr
  exact ⟨rfl, rfl, _, laws_toMail.says h.2 x (Nat.le_trans (wMail_le hx) hl), rfl, rfl⟩
theorem laws_toBox.says (h : laws_toBox.k M) (b : Box) (hb : wBox b ≤ 1048576) : run M 18 [.a (encBox b)] [] = some (.a (encBoxO b), []) := by
  obtain ⟨h0, k1, k2, k3⟩ := h
  have h1 := laws_toIntS.says k1 b.gone (by unfold wBox at hb; omega)
  have h2 := laws_toStamp.says k2 b.time b.who
  have h3 := laws_toMailS.says k3 b.mails (by unfold wBox at hb; omega)
  refine run_code (b := laws_toBox.m) h0 ⟨0, ?_⟩
  simp [exB, laws_toBox.m, laws_toBox.b, List.range_succ, h1, h2, h3, setAt, List.take_of_length_le]

/-! ## held against -/
theorem laws_eqStamp.says (h : laws_eqStamp.k M) (a b : Int) : run M 111 [.a [I a, I b], .a [I a, I b]] [] = some (.c (.bool true), []) := by
  refine run_code (b := laws_eqStamp.m) h ⟨0, ?_⟩
  simp [exB, laws_eqStamp.m, laws_eqStamp.b, List.range_succ]
theorem laws_eqReg.says (h : laws_eqReg.k M) (r : Reg) : run M 289 [.a (encReg r), .a (encReg r)] [] = some (.c (.bool true), []) := by
  have h1 := laws_eqStamp.says h.2 r.time r.who
  refine run_code (b := laws_eqReg.m) h.1 ⟨0, ?_⟩
  simp [exB, laws_eqReg.m, laws_eqReg.b, List.range_succ, h1]
theorem laws_eqRegS.says (h : laws_eqRegS.k M) (l : List Reg) (hl : l.length ≤ 1048576) : run M 252 [.c (regs l), .c (regs l)] [] = some (.c (.bool true), []) := by
  refine eqS_says (M := M) (F := 252) (n := 3) (f := 289) h.1 (by simp; omega) (fun r hr => ?_)
  obtain ⟨x, _, rfl⟩ := List.mem_map.1 hr
  exact ⟨rfl, rfl, laws_eqReg.says h.2 x⟩
theorem laws_eqMail.says (h : laws_eqMail.k M) (m : Mail) (hm : wMail m ≤ 1048576) : run M 210 [.a (encMail m), .a (encMail m)] [] = some (.c (.bool true), []) := by
  have h1 := laws_eqRegS.says h.2 m.flags (by unfold wMail at hm; omega)
  refine run_code (b := laws_eqMail.m) h.1 ⟨0, ?_⟩
  simp [exB, laws_eqMail.m, laws_eqMail.b, List.range_succ, h1]
theorem laws_eqMailS.says (h : laws_eqMailS.k M) (l : List Mail) (hl : wMails l ≤ 1048576) : run M 112 [.c (mails l), .c (mails l)] [] = some (.c (.bool true), []) := by
  refine eqS_says (M := M) (F := 112) (n := 4) (f := 210) h.1 (by simp; unfold wMails at hl; omega) (fun r hr => ?_)
  obtain ⟨x, hx, rfl⟩ := List.mem_map.1 hr
  exact ⟨rfl, rfl, laws_eqMail.says h.2 x (Nat.le_trans (wMail_le hx) hl)⟩
theorem laws_eqBox.says (h : laws_eqBox.k M) (b : Box) (hb : wBox b ≤ 1048576) : run M 21 [.a (encBox b), .a (encBox b)] [] = some (.c (.bool true), []) := by
  obtain ⟨h0, k1, k2, k3⟩ := h
  have h1 := laws_eqIntS.says k1 b.gone (by unfold wBox at hb; omega)
  have h2 := laws_eqStamp.says k2 b.time b.who
  have h3 := laws_eqMailS.says k3 b.mails (by unfold wBox at hb; omega)
  refine run_code (b := laws_eqBox.m) h0 ⟨0, ?_⟩
  simp [exB, laws_eqBox.m, laws_eqBox.b, List.range_succ, h1, h2, h3]
end Mx

/-
  Small codes: laws.toBoxS, laws.toStore, laws.szBoxS, laws.szStore, laws.eqBoxS, laws.eqStore.
-/
namespace Mx
open Go
def laws_toBoxS.l0 : C := .seq (.seq (.reg [⟨some 8, .mv (.t 4), none⟩,
    ⟨some 9, .mv (.t 0), none⟩,
    ⟨some 10, .len (.t 9), none⟩,
    ⟨some 11, .bin .lss (.t 8) (.t 10), none⟩] [0, 3, 4, 11] [7])
  (.cond (.t 11) (.skip) (.exit 0)))
  (.seq (.block 1 (.reg [⟨some 14, .mv (.t 3), none⟩,
    ⟨some 15, .mv (.t 4), none⟩,
    ⟨some 16, .mv (.t 0), none⟩,
    ⟨some 17, .mv (.t 4), none⟩,
    ⟨some 18, .iaddr 7 (.t 16) (.t 17), none⟩,
    ⟨some 19, .load true 7 (.t 18), none⟩,
    ⟨some 20, .call 18 [.t 19] [] [], none⟩,
    ⟨some 21, .iaddr 7 (.t 14) (.t 15), none⟩,
    ⟨none, .store 7 (.t 21) (.t 20), none⟩] [0, 3, 4] [7]))
  (.reg [⟨some 12, .mv (.t 4), none⟩,
    ⟨some 13, .bin .add (.t 12) (.k (.int .i64 1)), none⟩,
    ⟨some 4, .mv (.t 13), none⟩] [0, 3, 4] [7]))
def laws_toBoxS.b : C := .seq (.reg [⟨some 2, .nil 7, none⟩] [0] [])
  (.seq (.reg [⟨some 5, .mv (.t 0), none⟩,
    ⟨some 6, .len (.t 5), none⟩,
    ⟨some 7, .mks 7 96 [.int .i64 0, .str ⟨#[]⟩, .int .i64 0, .int .i64 0, .int .i64 0, .nils 4, .nils 1] (.t 6), none⟩,
    ⟨some 3, .mv (.t 7), none⟩] [0, 3] [7])
  (.seq (.seq (.reg [⟨some 4, .mv (.k (.int .i64 0)), none⟩] [0, 3, 4] [7])
  (.block 0 (.loop laws_toBoxS.l0)))
  (.seq (.reg [⟨some 22, .mv (.t 3), none⟩,
    ⟨some 2, .mv (.t 22), none⟩] [2] [2, 7])
  (.ret))))
def laws_toBoxS.m : Fn := { np := 1, body := laws_toBoxS.b, res := [.tmp 2] }
def laws_toBoxS.k (M : Nat → Option Body) : Prop := M 117 = some (.code laws_toBoxS.m) ∧ laws_toBox.k M
def laws_toStore.b : C := .seq (.reg [⟨some 1, .box (.t 0), none⟩,
    ⟨some 2, .alloc [.int .i64 0, .int .i64 0, .nils 7, .nils 1], none⟩] [1, 2] [1, 2, 11200, 11600])
  (.seq (.reg [⟨some 3, .alloc [.int .i64 0, .int .i64 0, .nils 7, .nils 1], none⟩] [1, 2, 3] [1, 2, 3, 11200, 11600])
  (.seq (.reg [⟨some 4, .faddr 0 (.t 1), none⟩,
    ⟨some 5, .load false 1 (.t 4), none⟩,
    ⟨some 6, .faddr 0 (.t 3), none⟩,
    ⟨none, .store 1 (.t 6) (.t 5), none⟩] [1, 2, 3] [1, 2, 3, 11200, 11600])
  (.seq (.reg [⟨some 7, .faddr 1 (.t 1), none⟩,
    ⟨some 8, .load false 1 (.t 7), none⟩,
    ⟨some 9, .faddr 1 (.t 3), none⟩,
    ⟨none, .store 1 (.t 9) (.t 8), none⟩] [1, 2, 3] [1, 2, 3, 11200, 11600])
  (.seq (.reg [⟨some 10, .faddr 2 (.t 1), none⟩,
    ⟨some 11, .load false 1 (.t 10), none⟩,
    ⟨some 12, .call 117 [.t 11] [] [(0, 11200)], none⟩,
    ⟨some 13, .faddr 2 (.t 3), none⟩,
    ⟨none, .store 1 (.t 13) (.t 12), none⟩] [1, 2, 3] [1, 2, 3, 11200, 11600])
  (.seq (.reg [⟨some 14, .faddr 3 (.t 1), none⟩,
    ⟨some 15, .load false 1 (.t 14), none⟩,
    ⟨some 16, .call 42 [.t 15] [] [(0, 11600)], none⟩,
    ⟨some 17, .faddr 3 (.t 3), none⟩,
    ⟨none, .store 1 (.t 17) (.t 16), none⟩] [2, 3] [2, 3, 11200, 11600])
  (.seq (.reg [⟨some 18, .load true 4 (.t 3), none⟩,
    ⟨none, .store 4 (.t 2) (.t 18), none⟩] [2] [2, 11200, 11600])
  (.ret)))))))
def laws_toStore.m : Fn := { np := 1, body := laws_toStore.b, res := [.cell 2 true 4] }
def laws_toStore.k (M : Nat → Option Body) : Prop := M 30 = some (.code laws_toStore.m) ∧ laws_toIntS.k M ∧ laws_toBoxS.k M
def laws_szBoxS.l0 : C := .seq (.seq (.reg [⟨some 12, .mv (.t 5), none⟩,
    ⟨some 13, .mv (.t 0), none⟩,
    ⟨some 14, .len (.t 13), none⟩,
    ⟨some 15, .bin .lss (.t 12) (.t 14), none⟩] [0, 1, 5, 15] [])
  (.cond (.t 15) (.skip) (.exit 0)))
  (.seq (.block 1 (.seq (.reg [⟨some 18, .mv (.t 0), none⟩,
    ⟨some 19, .mv (.t 5), none⟩,
    ⟨some 20, .iaddr 7 (.t 18) (.t 19), none⟩,
    ⟨some 21, .load true 7 (.t 20), none⟩,
    ⟨some 22, .mv (.t 1), none⟩,
    ⟨some 23, .call 17 [.t 21, .t 22] [] [], none⟩,
    ⟨some 1, .mv (.t 23), none⟩] [0, 1, 5] [])
  (.seq (.reg [⟨some 24, .mv (.t 1), none⟩,
    ⟨some 25, .bin .lss (.t 24) (.k (.int .i64 0)), none⟩] [0, 1, 5, 25] [])
  (.cond (.t 25) (.seq (.reg [⟨some 4, .mv (.k (.int .i64 (-1))), none⟩] [4] [])
  (.ret)) (.skip)))))
  (.reg [⟨some 16, .mv (.t 5), none⟩,
    ⟨some 17, .bin .add (.t 16) (.k (.int .i64 1)), none⟩,
    ⟨some 5, .mv (.t 17), none⟩] [0, 1, 5] []))
def laws_szBoxS.b : C := .seq (.reg [⟨some 4, .mv (.k (.int .i64 0)), none⟩] [0, 1] [])
  (.seq (.reg [⟨some 6, .mv (.t 1), none⟩,
    ⟨some 7, .mv (.t 0), none⟩,
    ⟨some 8, .len (.t 7), none⟩,
    ⟨some 9, .bin .sub (.t 6) (.t 8), none⟩,
    ⟨some 1, .mv (.t 9), none⟩] [0, 1] [])
  (.seq (.seq (.reg [⟨some 10, .mv (.t 1), none⟩,
    ⟨some 11, .bin .lss (.t 10) (.k (.int .i64 0)), none⟩] [0, 1, 11] [])
  (.cond (.t 11) (.seq (.reg [⟨some 4, .mv (.k (.int .i64 (-1))), none⟩] [4] [])
  (.ret)) (.skip)))
  (.seq (.seq (.reg [⟨some 5, .mv (.k (.int .i64 0)), none⟩] [0, 1, 5] [])
  (.block 0 (.loop laws_szBoxS.l0)))
  (.seq (.reg [⟨some 26, .mv (.t 1), none⟩,
    ⟨some 4, .mv (.t 26), none⟩] [4] [])
  (.ret)))))
def laws_szBoxS.m : Fn := { np := 2, body := laws_szBoxS.b, res := [.tmp 4] }
def laws_szBoxS.k (M : Nat → Option Body) : Prop := M 115 = some (.code laws_szBoxS.m) ∧ laws_szBox.k M
def laws_szStore.b : C := .seq (.reg [⟨some 2, .box (.t 0), none⟩,
    ⟨some 4, .mv (.k (.int .i64 0)), none⟩] [1, 2] [2])
  (.seq (.reg [⟨some 5, .faddr 2 (.t 2), none⟩,
    ⟨some 6, .load false 1 (.t 5), none⟩,
    ⟨some 7, .mv (.t 1), none⟩,
    ⟨some 8, .call 115 [.t 6, .t 7] [] [], none⟩,
    ⟨some 1, .mv (.t 8), none⟩] [1, 2] [2])
  (.seq (.seq (.reg [⟨some 9, .mv (.t 1), none⟩,
    ⟨some 10, .bin .lss (.t 9) (.k (.int .i64 0)), none⟩] [1, 2, 10] [2])
  (.cond (.t 10) (.seq (.reg [⟨some 4, .mv (.k (.int .i64 (-1))), none⟩] [4] [])
  (.ret)) (.skip)))
  (.seq (.reg [⟨some 11, .faddr 3 (.t 2), none⟩,
    ⟨some 12, .load false 1 (.t 11), none⟩,
    ⟨some 13, .mv (.t 1), none⟩,
    ⟨some 14, .call 108 [.t 12, .t 13] [] [], none⟩,
    ⟨some 1, .mv (.t 14), none⟩] [1] [])
  (.seq (.seq (.reg [⟨some 15, .mv (.t 1), none⟩,
    ⟨some 16, .bin .lss (.t 15) (.k (.int .i64 0)), none⟩] [1, 16] [])
  (.cond (.t 16) (.seq (.reg [⟨some 4, .mv (.k (.int .i64 (-1))), none⟩] [4] [])
  (.ret)) (.skip)))
  (.seq (.reg [⟨some 17, .mv (.t 1), none⟩,
    ⟨some 4, .mv (.t 17), none⟩] [4] [])
  (.ret))))))
def laws_szStore.m : Fn := { np := 2, body := laws_szStore.b, res := [.tmp 4] }
def laws_szStore.k (M : Nat → Option Body) : Prop := M 29 = some (.code laws_szStore.m) ∧ laws_szIntS.k M ∧ laws_szBoxS.k M
def laws_eqBoxS.l0 : C := .seq (.seq (.reg [⟨some 11, .mv (.t 5), none⟩,
    ⟨some 12, .mv (.t 0), none⟩,
    ⟨some 13, .len (.t 12), none⟩,
    ⟨some 14, .bin .lss (.t 11) (.t 13), none⟩] [0, 1, 5, 14] [])
  (.cond (.t 14) (.skip) (.exit 0)))
  (.seq (.block 1 (.seq (.regd [⟨some 17, .mv (.t 0), none⟩,
    ⟨some 18, .mv (.t 5), none⟩,
    ⟨some 19, .iaddr 7 (.t 17) (.t 18), none⟩,
    ⟨some 20, .load true 7 (.t 19), none⟩,
    ⟨some 21, .mv (.t 1), none⟩,
    ⟨some 22, .mv (.t 5), none⟩,
    ⟨some 23, .iaddr 7 (.t 21) (.t 22), none⟩,
    ⟨some 24, .load true 7 (.t 23), none⟩,
    ⟨some 25, .call 21 [.t 20, .t 24] [] [], none⟩,
    ⟨some 26, .not (.t 25), none⟩] [[], [], [0, 1], [0, 1, 2], [], [], [4, 5], [4, 5, 6], [0, 1, 2, 3, 4, 5, 6, 7], [0, 1, 2, 3, 4, 5, 6, 7, 8]] [0, 1, 5, 26] [])
  (.cond (.t 26) (.seq (.reg [⟨some 4, .mv (.k (.bool false)), none⟩] [4] [])
  (.ret)) (.skip))))
  (.reg [⟨some 15, .mv (.t 5), none⟩,
    ⟨some 16, .bin .add (.t 15) (.k (.int .i64 1)), none⟩,
    ⟨some 5, .mv (.t 16), none⟩] [0, 1, 5] []))
def laws_eqBoxS.b : C := .seq (.reg [⟨some 4, .mv (.k (.bool false)), none⟩] [0, 1] [])
  (.seq (.seq (.reg [⟨some 6, .mv (.t 0), none⟩,
    ⟨some 7, .len (.t 6), none⟩,
    ⟨some 8, .mv (.t 1), none⟩,
    ⟨some 9, .len (.t 8), none⟩,
    ⟨some 10, .bin .neq (.t 7) (.t 9), none⟩] [0, 1, 10] [])
  (.cond (.t 10) (.seq (.reg [⟨some 4, .mv (.k (.bool false)), none⟩] [4] [])
  (.ret)) (.skip)))
  (.seq (.seq (.reg [⟨some 5, .mv (.k (.int .i64 0)), none⟩] [0, 1, 5] [])
  (.block 0 (.loop laws_eqBoxS.l0)))
  (.seq (.reg [⟨some 4, .mv (.k (.bool true)), none⟩] [4] [])
  (.ret))))
def laws_eqBoxS.m : Fn := { np := 2, body := laws_eqBoxS.b, res := [.tmp 4] }
def laws_eqBoxS.k (M : Nat → Option Body) : Prop := M 121 = some (.code laws_eqBoxS.m) ∧ laws_eqBox.k M
def laws_eqStore.b : C := .seq (.reg [⟨some 2, .box (.t 0), none⟩,
    ⟨some 3, .box (.t 1), none⟩,
    ⟨some 4, .mv (.k (.bool false)), none⟩] [2, 3] [2, 3])
  (.seq (.seq (.reg [⟨some 5, .faddr 0 (.t 2), none⟩,
    ⟨some 6, .load false 1 (.t 5), none⟩,
    ⟨some 7, .faddr 0 (.t 3), none⟩,
    ⟨some 8, .load false 1 (.t 7), none⟩,
    ⟨some 9, .bin .neq (.t 6) (.t 8), none⟩] [2, 3, 9] [2, 3])
  (.cond (.t 9) (.seq (.reg [⟨some 4, .mv (.k (.bool false)), none⟩] [4] [])
  (.ret)) (.skip)))
  (.seq (.seq (.reg [⟨some 10, .faddr 1 (.t 2), none⟩,
    ⟨some 11, .load false 1 (.t 10), none⟩,
    ⟨some 12, .faddr 1 (.t 3), none⟩,
    ⟨some 13, .load false 1 (.t 12), none⟩,
    ⟨some 14, .bin .neq (.t 11) (.t 13), none⟩] [2, 3, 14] [2, 3])
  (.cond (.t 14) (.seq (.reg [⟨some 4, .mv (.k (.bool false)), none⟩] [4] [])
  (.ret)) (.skip)))
  (.seq (.seq (.reg [⟨some 15, .faddr 2 (.t 2), none⟩,
    ⟨some 16, .load false 1 (.t 15), none⟩,
    ⟨some 17, .faddr 2 (.t 3), none⟩,
    ⟨some 18, .load false 1 (.t 17), none⟩,
    ⟨some 19, .call 121 [.t 16, .t 18] [] [], none⟩,
    ⟨some 20, .not (.t 19), none⟩] [2, 3, 20] [2, 3])
  (.cond (.t 20) (.seq (.reg [⟨some 4, .mv (.k (.bool false)), none⟩] [4] [])
  (.ret)) (.skip)))
  (.seq (.seq (.reg [⟨some 21, .faddr 3 (.t 2), none⟩,
    ⟨some 22, .load false 1 (.t 21), none⟩,
    ⟨some 23, .faddr 3 (.t 3), none⟩,
    ⟨some 24, .load false 1 (.t 23), none⟩,
    ⟨some 25, .call 45 [.t 22, .t 24] [] [], none⟩,
    ⟨some 26, .not (.t 25), none⟩] [26] [])
  (.cond (.t 26) (.seq (.reg [⟨some 4, .mv (.k (.bool false)), none⟩] [4] [])
  (.ret)) (.skip)))
  (.seq (.reg [⟨some 4, .mv (.k (.bool true)), none⟩] [4] [])
  (.ret))))))
def laws_eqStore.m : Fn := { np := 2, body := laws_eqStore.b, res := [.tmp 4] }
def laws_eqStore.k (M : Nat → Option Body) : Prop := M 33 = some (.code laws_eqStore.m) ∧ laws_eqIntS.k M ∧ laws_eqBoxS.k M
end Mx

/-
  Stores: as trees; what is laid over, weighed, held against.
-/
namespace Mx
open Go
variable {M : Nat → Option Body}
structure Store where
  who : Int
  time : Int
  boxes : List Box
  gone : List Int
abbrev boxes (l : List Box) : T := .sl false 7 (l.map encBox)
abbrev encStore (s : Store) : List T := [I s.who, I s.time, boxes s.boxes, ints s.gone]
abbrev encStoreO (s : Store) : List T := [I s.who, I s.time, .sl true 7 (s.boxes.map encBox), .sl true 1 (irow s.gone)]
abbrev ctStore : List Ct := [.int .i64, .int .i64, .sl ctBox, .sl [.int .i64]]
def StoreFits (s : Store) : Prop := s.boxes.length ≤ maxLen ∧ s.gone.length ≤ maxLen ∧ ∀ b ∈ s.boxes, BoxFits b
theorem has_store {r : List T} (h : HasL ctStore r) : ∃ x : Store, r = encStore x ∧ StoreFits x := by
  match r, h with
  | [a, b, f, g], h =>
    obtain ⟨x1, rfl⟩ := has_int (h.2 0 _ a rfl rfl)
    obtain ⟨x3, rfl⟩ := has_int (h.2 1 _ b rfl rfl)
    obtain ⟨x6, rfl, h6, q6⟩ := has_list encBox BoxFits (fun r hr => has_box hr) (h.2 2 _ f rfl rfl)
    obtain ⟨x7, rfl, h7, _⟩ := has_list (fun n : Int => [I n]) (fun _ => True) (fun r hr => by
      match r, hr with
      | [a], hr => obtain ⟨n, rfl⟩ := has_int (hr.2 0 _ a rfl rfl); exact ⟨n, rfl, trivial⟩) (h.2 3 _ g rfl rfl)
    exact ⟨⟨x1, x3, x6, x7⟩, rfl, h6, h7, q6⟩
def wBoxes (l : List Box) : Nat := l.length + (l.map wBox).sum
def wStore (s : Store) : Nat := wBoxes s.boxes + s.gone.length
theorem wBox_le {l : List Box} {b : Box} (h : b ∈ l) : wBox b ≤ wBoxes l := by
  have := le_sum wBox l b h
  unfold wBoxes; omega
/-- what a row of a box weighs -/
def wRowB : List T → Nat
  | [_, .str s, _, _, _, .sl _ _ ms, .sl _ _ gs] => s.size + (ms.length + (ms.map wRow).sum) + gs.length
  | _ => 0
theorem wRowB_box (b : Box) : wRowB (encBox b) = wBox b := by
  have e : ((b.mails.map encMail).map wRow).sum = (b.mails.map wMail).sum := by
    rw [List.map_map]; congr 1; apply List.map_congr_left; intro m _; exact wRow_mail m
  show (bs b.name).size + ((b.mails.map encMail).length + ((b.mails.map encMail).map wRow).sum) + (irow b.gone).length = _
  rw [e, bs_size, List.length_map, irow_len]; rfl
theorem laws_szBoxS.says (h : laws_szBoxS.k M) (l : List Box) (hl : l.length ≤ maxLen) (hm : ∀ b ∈ l, BoxFits b) (k : Nat) (hk : k ≤ 1048576) :
    run M 115 [.c (boxes l), .c (I k)] [] = some (.c (I (if k < wBoxes l then -1 else (k : Int) - wBoxes l)), []) := by
  have hx : maxLen = 9223372036854775807 := rfl
  have := szS_says (M := M) (F := 115) (n := 7) (f := 17) h.1 (rows := l.map encBox) (by simp; omega) wRowB (by
    intro r hr
    obtain ⟨b, hbb, rfl⟩ := List.mem_map.1 hr
    refine ⟨rfl, rfl, fun k hk => ?_⟩
    rw [wRowB_box]
    exact laws_szBox.says h.2 b (hm b hbb) k hk) k hk
  have e : ((l.map encBox).map wRowB).sum = (l.map wBox).sum := by
    rw [List.map_map]; congr 1; apply List.map_congr_left; intro m _; exact wRowB_box m
  rw [e, List.length_map] at this
  exact this
theorem laws_szStore.says (h : laws_szStore.k M) (s : Store) (hs : StoreFits s) (k : Nat) (hk : k ≤ 1048576) : run M 29 [.a (encStore s), .c (I k)] [] = some (.c (I (if k < wStore s then -1 else (k : Int) - wStore s)), []) := by
  have hx : maxLen = 9223372036854775807 := rfl
  obtain ⟨f1, f2, f3⟩ := hs
  obtain ⟨h0, k2, k1⟩ := h
  have h1 := laws_szBoxS.says k1 s.boxes f1 f3 k hk
  refine run_code (b := laws_szStore.m) h0 ⟨0, ?_⟩
  by_cases c1 : k < wBoxes s.boxes
  · rw [if_pos c1] at h1
    rw [if_pos (show k < wStore s by unfold wStore; omega)]
    simp [exB, laws_szStore.m, laws_szStore.b, List.range_succ, h1]
  rw [if_neg c1] at h1
  have d1 : ¬ (k : Int) - wBoxes s.boxes < 0 := by omega
  have h2 := laws_szIntS.says k2 s.gone (by omega) ((k : Int) - wBoxes s.boxes) (by omega) (by omega)
  by_cases c3 : (k : Int) - wBoxes s.boxes < s.gone.length
  · rw [if_pos c3] at h2
    rw [if_pos (show k < wStore s by unfold wStore; omega)]
    simp [exB, laws_szStore.m, laws_szStore.b, List.range_succ, d1, h1, h2]
  · rw [if_neg c3] at h2
    have d3 : ¬ (k : Int) - wBoxes s.boxes - s.gone.length < 0 := by omega
    rw [if_neg (show ¬ k < wStore s by unfold wStore; omega)]
    have e4 : (k : Int) - (wStore s : Nat) = (k : Int) - wBoxes s.boxes - s.gone.length := by unfold wStore; omega
    rw [e4]
    simp [exB, laws_szStore.m, laws_szStore.b, List.range_succ, d1, d3, h1, h2]
theorem laws_toBoxS.says (h : laws_toBoxS.k M) (l : List Box) (hl : wBoxes l ≤ 1048576) : run M 117 [.c (boxes l)] [] = some (.c (.sl true 7 (l.map encBox)), []) := by
  refine toS_says (M := M) (F := 117) (n := 7) (by' := 96) (z := [.int .i64 0, .str ⟨#[]⟩, .int .i64 0, .int .i64 0, .int .i64 0, .nils 4, .nils 1]) (f := 18) h.1 rfl (by simp; unfold wBoxes at hl; omega) (by omega) (fun r hr => ?_)
  obtain ⟨x, hx, rfl⟩ := List.mem_map.1 hr
  exact ⟨rfl, rfl, _, laws_toBox.says h.2 x (Nat.le_trans (wBox_le hx) hl), rfl, rfl⟩
theorem laws_toStore.says (h : laws_toStore.k M) (s : Store) (hs : wStore s ≤ 1048576) : run M 30 [.a (encStore s)] [] = some (.a (encStoreO s), []) := by
  obtain ⟨h0, k1, k2⟩ := h
  have h1 := laws_toIntS.says k1 s.gone (by unfold wStore at hs; omega)
  have h2 := laws_toBoxS.says k2 s.boxes (by unfold wStore at hs; omega)
  refine run_code (b := laws_toStore.m) h0 ⟨0, ?_⟩
  simp [exB, laws_toStore.m, laws_toStore.b, List.range_succ, h1, h2, setAt, List.take_of_length_le]
theorem laws_eqBoxS.says (h : laws_eqBoxS.k M) (l : List Box) (hl : wBoxes l ≤ 1048576) : run M 121 [.c (boxes l), .c (boxes l)] [] = some (.c (.bool true), []) := by
  refine eqS_says (M := M) (F := 121) (n := 7) (f := 21) h.1 (by simp; unfold wBoxes at hl; omega) (fun r hr => ?_)
  obtain ⟨x, hx, rfl⟩ := List.mem_map.1 hr
  exact ⟨rfl, rfl, laws_eqBox.says h.2 x (Nat.le_trans (wBox_le hx) hl)⟩
theorem laws_eqStore.says (h : laws_eqStore.k M) (s : Store) (hs : wStore s ≤ 1048576) : run M 33 [.a (encStore s), .a (encStore s)] [] = some (.c (.bool true), []) := by
  obtain ⟨h0, k1, k2⟩ := h
  have h1 := laws_eqIntS.says k1 s.gone (by unfold wStore at hs; omega)
  have h2 := laws_eqBoxS.says k2 s.boxes (by unfold wStore at hs; omega)
  refine run_code (b := laws_eqStore.m) h0 ⟨0, ?_⟩
  simp [exB, laws_eqStore.m, laws_eqStore.b, List.range_succ, h1, h2]
end Mx

/-
  Small codes: spec.SameMail, spec.l09Box, spec.Alike, slices.Equal[[]int,int], slices.Equal[[]impl.Reg,impl.Reg], impl.SameMail, slices.EqualFunc[[]impl.Mail,[]impl.Mail,impl.Mail,impl.Mail], impl.sameBox, slices.EqualFunc[[]impl.Box,[]impl.Box,impl.Box,impl.Box], impl.Alike, laws.FnExactAlike.
-/
namespace Mx
open Go
def spec_SameMail.l0 : C := .seq (.seq (.reg [⟨some 34, .mv (.t 5), none⟩,
    ⟨some 35, .faddr 2 (.t 2), none⟩,
    ⟨some 36, .load false 1 (.t 35), none⟩,
    ⟨some 37, .len (.t 36), none⟩,
    ⟨some 38, .bin .lss (.t 34) (.t 37), none⟩] [2, 3, 5, 38] [2, 3])
  (.cond (.t 38) (.skip) (.exit 0)))
  (.seq (.block 1 (.seq (.regd [⟨some 41, .faddr 2 (.t 2), none⟩,
    ⟨some 42, .load false 1 (.t 41), none⟩,
    ⟨some 43, .mv (.t 5), none⟩,
    ⟨some 44, .iaddr 3 (.t 42) (.t 43), none⟩,
    ⟨some 45, .load true 3 (.t 44), none⟩,
    ⟨some 46, .faddr 2 (.t 3), none⟩,
    ⟨some 47, .load false 1 (.t 46), none⟩,
    ⟨some 48, .mv (.t 5), none⟩,
    ⟨some 49, .iaddr 3 (.t 47) (.t 48), none⟩,
    ⟨some 50, .load true 3 (.t 49), none⟩,
    ⟨some 51, .eqs true [.int, .int, .int] (.t 45) (.t 50), none⟩] [[], [0], [], [0, 1, 2], [0, 1, 2, 3], [], [5], [], [5, 6, 7], [5, 6, 7, 8], [0, 1, 2, 3, 4, 5, 6, 7, 8, 9]] [2, 3, 5, 51] [2, 3])
  (.cond (.t 51) (.seq (.reg [⟨some 4, .mv (.k (.bool false)), none⟩] [4] [])
  (.ret)) (.skip))))
  (.reg [⟨some 39, .mv (.t 5), none⟩,
    ⟨some 40, .bin .add (.t 39) (.k (.int .i64 1)), none⟩,
    ⟨some 5, .mv (.t 40), none⟩] [2, 3, 5] [2, 3]))
def spec_SameMail.b : C := .seq (.reg [⟨some 2, .box (.t 0), none⟩,
    ⟨some 3, .box (.t 1), none⟩,
    ⟨some 4, .mv (.k (.bool false)), none⟩] [2, 3] [2, 3])
  (.seq (.seq (.reg [⟨some 6, .faddr 0 (.t 2), none⟩,
    ⟨some 7, .load false 1 (.t 6), none⟩,
    ⟨some 8, .faddr 0 (.t 3), none⟩,
    ⟨some 9, .load false 1 (.t 8), none⟩,
    ⟨some 10, .bin .neq (.t 7) (.t 9), none⟩,
    ⟨some 11, .mv (.t 10), none⟩,
    ⟨some 12, .faddr 1 (.t 2), some (11, false)⟩,
    ⟨some 13, .load false 1 (.t 12), some (11, false)⟩,
    ⟨some 14, .faddr 1 (.t 3), some (11, false)⟩,
    ⟨some 15, .load false 1 (.t 14), some (11, false)⟩,
    ⟨some 16, .bin .neq (.t 13) (.t 15), some (11, false)⟩,
    ⟨some 17, .pick (.t 11) (.k (.bool true)) (.t 16), none⟩,
    ⟨some 18, .mv (.t 17), none⟩,
    ⟨some 19, .faddr 3 (.t 2), some (18, false)⟩,
    ⟨some 20, .load false 1 (.t 19), some (18, false)⟩,
    ⟨some 21, .faddr 3 (.t 3), some (18, false)⟩,
    ⟨some 22, .load false 1 (.t 21), some (18, false)⟩,
    ⟨some 23, .bin .neq (.t 20) (.t 22), some (18, false)⟩,
    ⟨some 24, .pick (.t 18) (.k (.bool true)) (.t 23), none⟩,
    ⟨some 25, .mv (.t 24), none⟩,
    ⟨some 26, .faddr 2 (.t 2), some (25, false)⟩,
    ⟨some 27, .load false 1 (.t 26), some (25, false)⟩,
    ⟨some 28, .len (.t 27), some (25, false)⟩,
    ⟨some 29, .faddr 2 (.t 3), some (25, false)⟩,
    ⟨some 30, .load false 1 (.t 29), some (25, false)⟩,
    ⟨some 31, .len (.t 30), some (25, false)⟩,
    ⟨some 32, .bin .neq (.t 28) (.t 31), some (25, false)⟩,
    ⟨some 33, .pick (.t 25) (.k (.bool true)) (.t 32), none⟩] [2, 3, 33] [2, 3])
  (.cond (.t 33) (.seq (.reg [⟨some 4, .mv (.k (.bool false)), none⟩] [4] [])
  (.ret)) (.skip)))
  (.seq (.seq (.reg [⟨some 5, .mv (.k (.int .i64 0)), none⟩] [2, 3, 5] [2, 3])
  (.block 0 (.loop spec_SameMail.l0)))
  (.seq (.reg [⟨some 4, .mv (.k (.bool true)), none⟩] [4] [])
  (.ret))))
def spec_SameMail.m : Fn := { np := 2, body := spec_SameMail.b, res := [.tmp 4] }
def spec_SameMail.k (M : Nat → Option Body) : Prop := M 159 = some (.code spec_SameMail.m)
def spec_l09Box.l0 : C := .seq (.seq (.reg [⟨some 51, .mv (.t 5), none⟩,
    ⟨some 52, .faddr 5 (.t 2), none⟩,
    ⟨some 53, .load false 1 (.t 52), none⟩,
    ⟨some 54, .len (.t 53), none⟩,
    ⟨some 55, .bin .lss (.t 51) (.t 54), none⟩] [2, 3, 5, 55] [2, 3])
  (.cond (.t 55) (.skip) (.exit 0)))
  (.seq (.block 1 (.seq (.regd [⟨some 58, .faddr 5 (.t 2), none⟩,
    ⟨some 59, .load false 1 (.t 58), none⟩,
    ⟨some 60, .mv (.t 5), none⟩,
    ⟨some 61, .iaddr 4 (.t 59) (.t 60), none⟩,
    ⟨some 62, .load true 4 (.t 61), none⟩,
    ⟨some 63, .faddr 5 (.t 3), none⟩,
    ⟨some 64, .load false 1 (.t 63), none⟩,
    ⟨some 65, .mv (.t 5), none⟩,
    ⟨some 66, .iaddr 4 (.t 64) (.t 65), none⟩,
    ⟨some 67, .load true 4 (.t 66), none⟩,
    ⟨some 68, .call 159 [.t 62, .t 67] [] [], none⟩,
    ⟨some 69, .not (.t 68), none⟩] [[], [0], [], [0, 1, 2], [0, 1, 2, 3], [], [5], [], [5, 6, 7], [5, 6, 7, 8], [0, 1, 2, 3, 4, 5, 6, 7, 8, 9], [0, 1, 2, 3, 4, 5, 6, 7, 8, 9, 10]] [2, 3, 5, 69] [2, 3])
  (.cond (.t 69) (.seq (.reg [⟨some 4, .mv (.k (.bool false)), none⟩] [4] [])
  (.ret)) (.skip))))
  (.reg [⟨some 56, .mv (.t 5), none⟩,
    ⟨some 57, .bin .add (.t 56) (.k (.int .i64 1)), none⟩,
    ⟨some 5, .mv (.t 57), none⟩] [2, 3, 5] [2, 3]))
def spec_l09Box.l1 : C := .seq (.seq (.reg [⟨some 70, .mv (.t 6), none⟩,
    ⟨some 71, .faddr 6 (.t 2), none⟩,
    ⟨some 72, .load false 1 (.t 71), none⟩,
    ⟨some 73, .len (.t 72), none⟩,
    ⟨some 74, .bin .lss (.t 70) (.t 73), none⟩] [2, 3, 6, 74] [2, 3])
  (.cond (.t 74) (.skip) (.exit 2)))
  (.seq (.block 3 (.seq (.regd [⟨some 77, .faddr 6 (.t 2), none⟩,
    ⟨some 78, .load false 1 (.t 77), none⟩,
    ⟨some 79, .mv (.t 6), none⟩,
    ⟨some 80, .iaddr 1 (.t 78) (.t 79), none⟩,
    ⟨some 81, .load false 1 (.t 80), none⟩,
    ⟨some 82, .faddr 6 (.t 3), none⟩,
    ⟨some 83, .load false 1 (.t 82), none⟩,
    ⟨some 84, .mv (.t 6), none⟩,
    ⟨some 85, .iaddr 1 (.t 83) (.t 84), none⟩,
    ⟨some 86, .load false 1 (.t 85), none⟩,
    ⟨some 87, .bin .neq (.t 81) (.t 86), none⟩] [[], [0], [], [0, 1, 2], [0, 1, 2, 3], [], [5], [], [5, 6, 7], [5, 6, 7, 8], [0, 1, 2, 3, 4, 5, 6, 7, 8, 9]] [2, 3, 6, 87] [2, 3])
  (.cond (.t 87) (.seq (.reg [⟨some 4, .mv (.k (.bool false)), none⟩] [4] [])
  (.ret)) (.skip))))
  (.reg [⟨some 75, .mv (.t 6), none⟩,
    ⟨some 76, .bin .add (.t 75) (.k (.int .i64 1)), none⟩,
    ⟨some 6, .mv (.t 76), none⟩] [2, 3, 6] [2, 3]))
def spec_l09Box.b : C := .seq (.reg [⟨some 2, .box (.t 0), none⟩,
    ⟨some 3, .box (.t 1), none⟩,
    ⟨some 4, .mv (.k (.bool false)), none⟩] [2, 3] [2, 3])
  (.seq (.seq (.reg [⟨some 7, .faddr 0 (.t 2), none⟩,
    ⟨some 8, .load false 1 (.t 7), none⟩,
    ⟨some 9, .faddr 0 (.t 3), none⟩,
    ⟨some 10, .load false 1 (.t 9), none⟩,
    ⟨some 11, .bin .neq (.t 8) (.t 10), none⟩,
    ⟨some 12, .mv (.t 11), none⟩,
    ⟨some 13, .faddr 1 (.t 2), some (12, false)⟩,
    ⟨some 14, .load false 1 (.t 13), some (12, false)⟩,
    ⟨some 15, .faddr 1 (.t 3), some (12, false)⟩,
    ⟨some 16, .load false 1 (.t 15), some (12, false)⟩,
    ⟨some 17, .bin .neq (.t 14) (.t 16), some (12, false)⟩,
    ⟨some 18, .pick (.t 12) (.k (.bool true)) (.t 17), none⟩,
    ⟨some 19, .mv (.t 18), none⟩,
    ⟨some 20, .faddr 2 (.t 2), some (19, false)⟩,
    ⟨some 21, .load true 2 (.t 20), some (19, false)⟩,
    ⟨some 22, .faddr 2 (.t 3), some (19, false)⟩,
    ⟨some 23, .load true 2 (.t 22), some (19, false)⟩,
    ⟨some 24, .eqs true [.int, .int] (.t 21) (.t 23), some (19, false)⟩,
    ⟨some 25, .pick (.t 19) (.k (.bool true)) (.t 24), none⟩,
    ⟨some 26, .mv (.t 25), none⟩,
    ⟨some 27, .faddr 4 (.t 2), some (26, false)⟩,
    ⟨some 28, .load false 1 (.t 27), some (26, false)⟩,
    ⟨some 29, .faddr 4 (.t 3), some (26, false)⟩,
    ⟨some 30, .load false 1 (.t 29), some (26, false)⟩,
    ⟨some 31, .bin .neq (.t 28) (.t 30), some (26, false)⟩,
    ⟨some 32, .pick (.t 26) (.k (.bool true)) (.t 31), none⟩,
    ⟨some 33, .mv (.t 32), none⟩,
    ⟨some 34, .faddr 5 (.t 2), some (33, false)⟩,
    ⟨some 35, .load false 1 (.t 34), some (33, false)⟩,
    ⟨some 36, .len (.t 35), some (33, false)⟩,
    ⟨some 37, .faddr 5 (.t 3), some (33, false)⟩,
    ⟨some 38, .load false 1 (.t 37), some (33, false)⟩,
    ⟨some 39, .len (.t 38), some (33, false)⟩,
    ⟨some 40, .bin .neq (.t 36) (.t 39), some (33, false)⟩,
    ⟨some 41, .pick (.t 33) (.k (.bool true)) (.t 40), none⟩,
    ⟨some 42, .mv (.t 41), none⟩,
    ⟨some 43, .faddr 6 (.t 2), some (42, false)⟩,
    ⟨some 44, .load false 1 (.t 43), some (42, false)⟩,
    ⟨some 45, .len (.t 44), some (42, false)⟩,
    ⟨some 46, .faddr 6 (.t 3), some (42, false)⟩,
    ⟨some 47, .load false 1 (.t 46), some (42, false)⟩,
    ⟨some 48, .len (.t 47), some (42, false)⟩,
    ⟨some 49, .bin .neq (.t 45) (.t 48), some (42, false)⟩,
    ⟨some 50, .pick (.t 42) (.k (.bool true)) (.t 49), none⟩] [2, 3, 50] [2, 3])
  (.cond (.t 50) (.seq (.reg [⟨some 4, .mv (.k (.bool false)), none⟩] [4] [])
  (.ret)) (.skip)))
  (.seq (.seq (.reg [⟨some 5, .mv (.k (.int .i64 0)), none⟩] [2, 3, 5] [2, 3])
  (.block 0 (.loop spec_l09Box.l0)))
  (.seq (.seq (.reg [⟨some 6, .mv (.k (.int .i64 0)), none⟩] [2, 3, 6] [2, 3])
  (.block 2 (.loop spec_l09Box.l1)))
  (.seq (.reg [⟨some 4, .mv (.k (.bool true)), none⟩] [4] [])
  (.ret)))))
def spec_l09Box.m : Fn := { np := 2, body := spec_l09Box.b, res := [.tmp 4] }
def spec_l09Box.k (M : Nat → Option Body) : Prop := M 116 = some (.code spec_l09Box.m) ∧ spec_SameMail.k M
def spec_Alike.l0 : C := .seq (.seq (.reg [⟨some 23, .mv (.t 5), none⟩,
    ⟨some 24, .faddr 2 (.t 2), none⟩,
    ⟨some 25, .load false 1 (.t 24), none⟩,
    ⟨some 26, .len (.t 25), none⟩,
    ⟨some 27, .bin .lss (.t 23) (.t 26), none⟩] [2, 3, 5, 27] [2, 3])
  (.cond (.t 27) (.skip) (.exit 0)))
  (.seq (.block 1 (.seq (.regd [⟨some 30, .faddr 2 (.t 2), none⟩,
    ⟨some 31, .load false 1 (.t 30), none⟩,
    ⟨some 32, .mv (.t 5), none⟩,
    ⟨some 33, .iaddr 7 (.t 31) (.t 32), none⟩,
    ⟨some 34, .load true 7 (.t 33), none⟩,
    ⟨some 35, .faddr 2 (.t 3), none⟩,
    ⟨some 36, .load false 1 (.t 35), none⟩,
    ⟨some 37, .mv (.t 5), none⟩,
    ⟨some 38, .iaddr 7 (.t 36) (.t 37), none⟩,
    ⟨some 39, .load true 7 (.t 38), none⟩,
    ⟨some 40, .call 116 [.t 34, .t 39] [] [], none⟩,
    ⟨some 41, .not (.t 40), none⟩] [[], [0], [], [0, 1, 2], [0, 1, 2, 3], [], [5], [], [5, 6, 7], [5, 6, 7, 8], [0, 1, 2, 3, 4, 5, 6, 7, 8, 9], [0, 1, 2, 3, 4, 5, 6, 7, 8, 9, 10]] [2, 3, 5, 41] [2, 3])
  (.cond (.t 41) (.seq (.reg [⟨some 4, .mv (.k (.bool false)), none⟩] [4] [])
  (.ret)) (.skip))))
  (.reg [⟨some 28, .mv (.t 5), none⟩,
    ⟨some 29, .bin .add (.t 28) (.k (.int .i64 1)), none⟩,
    ⟨some 5, .mv (.t 29), none⟩] [2, 3, 5] [2, 3]))
def spec_Alike.l1 : C := .seq (.seq (.reg [⟨some 42, .mv (.t 6), none⟩,
    ⟨some 43, .faddr 3 (.t 2), none⟩,
    ⟨some 44, .load false 1 (.t 43), none⟩,
    ⟨some 45, .len (.t 44), none⟩,
    ⟨some 46, .bin .lss (.t 42) (.t 45), none⟩] [2, 3, 6, 46] [2, 3])
  (.cond (.t 46) (.skip) (.exit 2)))
  (.seq (.block 3 (.seq (.regd [⟨some 49, .faddr 3 (.t 2), none⟩,
    ⟨some 50, .load false 1 (.t 49), none⟩,
    ⟨some 51, .mv (.t 6), none⟩,
    ⟨some 52, .iaddr 1 (.t 50) (.t 51), none⟩,
    ⟨some 53, .load false 1 (.t 52), none⟩,
    ⟨some 54, .faddr 3 (.t 3), none⟩,
    ⟨some 55, .load false 1 (.t 54), none⟩,
    ⟨some 56, .mv (.t 6), none⟩,
    ⟨some 57, .iaddr 1 (.t 55) (.t 56), none⟩,
    ⟨some 58, .load false 1 (.t 57), none⟩,
    ⟨some 59, .bin .neq (.t 53) (.t 58), none⟩] [[], [0], [], [0, 1, 2], [0, 1, 2, 3], [], [5], [], [5, 6, 7], [5, 6, 7, 8], [0, 1, 2, 3, 4, 5, 6, 7, 8, 9]] [2, 3, 6, 59] [2, 3])
  (.cond (.t 59) (.seq (.reg [⟨some 4, .mv (.k (.bool false)), none⟩] [4] [])
  (.ret)) (.skip))))
  (.reg [⟨some 47, .mv (.t 6), none⟩,
    ⟨some 48, .bin .add (.t 47) (.k (.int .i64 1)), none⟩,
    ⟨some 6, .mv (.t 48), none⟩] [2, 3, 6] [2, 3]))
def spec_Alike.b : C := .seq (.reg [⟨some 2, .box (.t 0), none⟩,
    ⟨some 3, .box (.t 1), none⟩,
    ⟨some 4, .mv (.k (.bool false)), none⟩] [2, 3] [2, 3])
  (.seq (.seq (.reg [⟨some 7, .faddr 2 (.t 2), none⟩,
    ⟨some 8, .load false 1 (.t 7), none⟩,
    ⟨some 9, .len (.t 8), none⟩,
    ⟨some 10, .faddr 2 (.t 3), none⟩,
    ⟨some 11, .load false 1 (.t 10), none⟩,
    ⟨some 12, .len (.t 11), none⟩,
    ⟨some 13, .bin .neq (.t 9) (.t 12), none⟩,
    ⟨some 14, .mv (.t 13), none⟩,
    ⟨some 15, .faddr 3 (.t 2), some (14, false)⟩,
    ⟨some 16, .load false 1 (.t 15), some (14, false)⟩,
    ⟨some 17, .len (.t 16), some (14, false)⟩,
    ⟨some 18, .faddr 3 (.t 3), some (14, false)⟩,
    ⟨some 19, .load false 1 (.t 18), some (14, false)⟩,
    ⟨some 20, .len (.t 19), some (14, false)⟩,
    ⟨some 21, .bin .neq (.t 17) (.t 20), some (14, false)⟩,
    ⟨some 22, .pick (.t 14) (.k (.bool true)) (.t 21), none⟩] [2, 3, 22] [2, 3])
  (.cond (.t 22) (.seq (.reg [⟨some 4, .mv (.k (.bool false)), none⟩] [4] [])
  (.ret)) (.skip)))
  (.seq (.seq (.reg [⟨some 5, .mv (.k (.int .i64 0)), none⟩] [2, 3, 5] [2, 3])
  (.block 0 (.loop spec_Alike.l0)))
  (.seq (.seq (.reg [⟨some 6, .mv (.k (.int .i64 0)), none⟩] [2, 3, 6] [2, 3])
  (.block 2 (.loop spec_Alike.l1)))
  (.seq (.reg [⟨some 4, .mv (.k (.bool true)), none⟩] [4] [])
  (.ret)))))
def spec_Alike.m : Fn := { np := 2, body := spec_Alike.b, res := [.tmp 4] }
def spec_Alike.k (M : Nat → Option Body) : Prop := M 31 = some (.code spec_Alike.m) ∧ spec_l09Box.k M
def slices_Equal_int_int.l0 : C := .seq (.reg [⟨some 14, .bin .lss (.t 13) (.t 12), none⟩] [0, 1, 12, 13, 14] [])
  (.seq (.cond (.t 14) (.skip) (.exit 0))
  (.seq (.block 1 (.seq (.reg [⟨some 15, .mv (.t 13), none⟩,
    ⟨some 5, .mv (.t 15), none⟩] [0, 1, 5, 12, 13] [])
  (.seq (.regd [⟨some 16, .mv (.t 0), none⟩,
    ⟨some 17, .mv (.t 5), none⟩,
    ⟨some 18, .iaddr 1 (.t 16) (.t 17), none⟩,
    ⟨some 19, .load false 1 (.t 18), none⟩,
    ⟨some 20, .mv (.t 1), none⟩,
    ⟨some 21, .mv (.t 5), none⟩,
    ⟨some 22, .iaddr 1 (.t 20) (.t 21), none⟩,
    ⟨some 23, .load false 1 (.t 22), none⟩,
    ⟨some 24, .bin .neq (.t 19) (.t 23), none⟩] [[], [], [0, 1], [0, 1, 2], [], [], [4, 5], [4, 5, 6], [0, 1, 2, 3, 4, 5, 6, 7]] [0, 1, 12, 13, 24] [])
  (.cond (.t 24) (.seq (.reg [⟨some 4, .mv (.k (.bool false)), none⟩] [4] [])
  (.ret)) (.skip)))))
  (.reg [⟨some 25, .bin .add (.t 13) (.k (.int .i64 1)), none⟩,
    ⟨some 13, .mv (.t 25), none⟩] [0, 1, 12, 13] [])))
def slices_Equal_int_int.b : C := .seq (.reg [⟨some 4, .mv (.k (.bool false)), none⟩] [0, 1] [])
  (.seq (.seq (.reg [⟨some 6, .mv (.t 0), none⟩,
    ⟨some 7, .len (.t 6), none⟩,
    ⟨some 8, .mv (.t 1), none⟩,
    ⟨some 9, .len (.t 8), none⟩,
    ⟨some 10, .bin .neq (.t 7) (.t 9), none⟩] [0, 1, 10] [])
  (.cond (.t 10) (.seq (.reg [⟨some 4, .mv (.k (.bool false)), none⟩] [4] [])
  (.ret)) (.skip)))
  (.seq (.seq (.reg [⟨some 11, .mv (.t 0), none⟩,
    ⟨some 12, .len (.t 11), none⟩,
    ⟨some 13, .mv (.k (.int .i64 0)), none⟩] [0, 1, 12, 13] [])
  (.block 0 (.loop slices_Equal_int_int.l0)))
  (.seq (.reg [⟨some 4, .mv (.k (.bool true)), none⟩] [4] [])
  (.ret))))
def slices_Equal_int_int.m : Fn := { np := 2, body := slices_Equal_int_int.b, res := [.tmp 4] }
def slices_Equal_int_int.k (M : Nat → Option Body) : Prop := M 120 = some (.code slices_Equal_int_int.m)
def slices_Equal_impl_Reg_impl_Reg.l0 : C := .seq (.reg [⟨some 14, .bin .lss (.t 13) (.t 12), none⟩] [0, 1, 12, 13, 14] [])
  (.seq (.cond (.t 14) (.skip) (.exit 0))
  (.seq (.block 1 (.seq (.reg [⟨some 15, .mv (.t 13), none⟩,
    ⟨some 5, .mv (.t 15), none⟩] [0, 1, 5, 12, 13] [])
  (.seq (.regd [⟨some 16, .mv (.t 0), none⟩,
    ⟨some 17, .mv (.t 5), none⟩,
    ⟨some 18, .iaddr 3 (.t 16) (.t 17), none⟩,
    ⟨some 19, .load true 3 (.t 18), none⟩,
    ⟨some 20, .mv (.t 1), none⟩,
    ⟨some 21, .mv (.t 5), none⟩,
    ⟨some 22, .iaddr 3 (.t 20) (.t 21), none⟩,
    ⟨some 23, .load true 3 (.t 22), none⟩,
    ⟨some 24, .eqs true [.int, .int, .int] (.t 19) (.t 23), none⟩] [[], [], [0, 1], [0, 1, 2], [], [], [4, 5], [4, 5, 6], [0, 1, 2, 3, 4, 5, 6, 7]] [0, 1, 12, 13, 24] [])
  (.cond (.t 24) (.seq (.reg [⟨some 4, .mv (.k (.bool false)), none⟩] [4] [])
  (.ret)) (.skip)))))
  (.reg [⟨some 25, .bin .add (.t 13) (.k (.int .i64 1)), none⟩,
    ⟨some 13, .mv (.t 25), none⟩] [0, 1, 12, 13] [])))
def slices_Equal_impl_Reg_impl_Reg.b : C := .seq (.reg [⟨some 4, .mv (.k (.bool false)), none⟩] [0, 1] [])
  (.seq (.seq (.reg [⟨some 6, .mv (.t 0), none⟩,
    ⟨some 7, .len (.t 6), none⟩,
    ⟨some 8, .mv (.t 1), none⟩,
    ⟨some 9, .len (.t 8), none⟩,
    ⟨some 10, .bin .neq (.t 7) (.t 9), none⟩] [0, 1, 10] [])
  (.cond (.t 10) (.seq (.reg [⟨some 4, .mv (.k (.bool false)), none⟩] [4] [])
  (.ret)) (.skip)))
  (.seq (.seq (.reg [⟨some 11, .mv (.t 0), none⟩,
    ⟨some 12, .len (.t 11), none⟩,
    ⟨some 13, .mv (.k (.int .i64 0)), none⟩] [0, 1, 12, 13] [])
  (.block 0 (.loop slices_Equal_impl_Reg_impl_Reg.l0)))
  (.seq (.reg [⟨some 4, .mv (.k (.bool true)), none⟩] [4] [])
  (.ret))))
def slices_Equal_impl_Reg_impl_Reg.m : Fn := { np := 2, body := slices_Equal_impl_Reg_impl_Reg.b, res := [.tmp 4] }
def slices_Equal_impl_Reg_impl_Reg.k (M : Nat → Option Body) : Prop := M 253 = some (.code slices_Equal_impl_Reg_impl_Reg.m)
def impl_SameMail.b : C := .seq (.reg [⟨some 2, .box (.t 0), none⟩,
    ⟨some 3, .box (.t 1), none⟩,
    ⟨some 4, .mv (.k (.bool false)), none⟩] [2, 3] [2, 3])
  (.seq (.reg [⟨some 5, .faddr 0 (.t 2), none⟩,
    ⟨some 6, .load false 1 (.t 5), none⟩,
    ⟨some 7, .faddr 0 (.t 3), none⟩,
    ⟨some 8, .load false 1 (.t 7), none⟩,
    ⟨some 9, .bin .eql (.t 6) (.t 8), none⟩,
    ⟨some 10, .mv (.t 9), none⟩,
    ⟨some 11, .faddr 1 (.t 2), some (10, true)⟩,
    ⟨some 12, .load false 1 (.t 11), some (10, true)⟩,
    ⟨some 13, .faddr 1 (.t 3), some (10, true)⟩,
    ⟨some 14, .load false 1 (.t 13), some (10, true)⟩,
    ⟨some 15, .bin .eql (.t 12) (.t 14), some (10, true)⟩,
    ⟨some 16, .pick (.t 10) (.t 15) (.k (.bool false)), none⟩,
    ⟨some 17, .mv (.t 16), none⟩,
    ⟨some 18, .faddr 2 (.t 2), some (17, true)⟩,
    ⟨some 19, .load false 1 (.t 18), some (17, true)⟩,
    ⟨some 20, .faddr 2 (.t 3), some (17, true)⟩,
    ⟨some 21, .load false 1 (.t 20), some (17, true)⟩,
    ⟨some 22, .call 253 [.t 19, .t 21] [] [], some (17, true)⟩,
    ⟨some 23, .pick (.t 17) (.t 22) (.k (.bool false)), none⟩,
    ⟨some 24, .mv (.t 23), none⟩,
    ⟨some 25, .faddr 3 (.t 2), some (24, true)⟩,
    ⟨some 26, .load false 1 (.t 25), some (24, true)⟩,
    ⟨some 27, .faddr 3 (.t 3), some (24, true)⟩,
    ⟨some 28, .load false 1 (.t 27), some (24, true)⟩,
    ⟨some 29, .bin .eql (.t 26) (.t 28), some (24, true)⟩,
    ⟨some 30, .pick (.t 24) (.t 29) (.k (.bool false)), none⟩,
    ⟨some 4, .mv (.t 30), none⟩] [4] [])
  (.ret))
def impl_SameMail.m : Fn := { np := 2, body := impl_SameMail.b, res := [.tmp 4] }
def impl_SameMail.k (M : Nat → Option Body) : Prop := M 212 = some (.code impl_SameMail.m) ∧ slices_Equal_impl_Reg_impl_Reg.k M
def slices_EqualFunc_impl_Mail_impl_Mail_impl_Mail_impl_Mail.l0 : C := .seq (.reg [⟨some 18, .bin .lss (.t 17) (.t 16), none⟩] [1, 2, 15, 16, 17, 18] [])
  (.seq (.cond (.t 18) (.skip) (.exit 0))
  (.seq (.block 1 (.seq (.reg [⟨some 19, .mv (.t 17), none⟩,
    ⟨some 20, .iaddr 4 (.t 15) (.t 17), none⟩,
    ⟨some 21, .load true 4 (.t 20), none⟩,
    ⟨some 8, .alloc [.int .i64 0, .int .i64 0, .nils 3, .str ⟨#[]⟩], none⟩,
    ⟨some 7, .mv (.t 19), none⟩,
    ⟨none, .store 4 (.t 8) (.t 21), none⟩] [1, 2, 7, 8, 15, 16, 17] [8])
  (.seq (.reg [⟨some 22, .mv (.t 1), none⟩,
    ⟨some 23, .mv (.t 7), none⟩,
    ⟨some 24, .iaddr 4 (.t 22) (.t 23), none⟩,
    ⟨some 25, .load true 4 (.t 24), none⟩,
    ⟨some 9, .alloc [.int .i64 0, .int .i64 0, .nils 3, .str ⟨#[]⟩], none⟩,
    ⟨none, .store 4 (.t 9) (.t 25), none⟩] [1, 2, 8, 9, 15, 16, 17] [8, 9])
  (.seq (.reg [⟨some 26, .mv (.t 2), none⟩,
    ⟨some 27, .load true 4 (.t 8), none⟩,
    ⟨some 28, .load true 4 (.t 9), none⟩,
    ⟨some 29, .callv (.t 26) [.t 27, .t 28], none⟩,
    ⟨some 30, .not (.t 29), none⟩] [1, 2, 15, 16, 17, 30] [])
  (.cond (.t 30) (.seq (.reg [⟨some 6, .mv (.k (.bool false)), none⟩] [6] [])
  (.ret)) (.skip))))))
  (.reg [⟨some 31, .bin .add (.t 17) (.k (.int .i64 1)), none⟩,
    ⟨some 17, .mv (.t 31), none⟩] [1, 2, 15, 16, 17] [])))
def slices_EqualFunc_impl_Mail_impl_Mail_impl_Mail_impl_Mail.b : C := .seq (.reg [⟨some 6, .mv (.k (.bool false)), none⟩] [0, 1, 2] [])
  (.seq (.seq (.reg [⟨some 10, .mv (.t 0), none⟩,
    ⟨some 11, .len (.t 10), none⟩,
    ⟨some 12, .mv (.t 1), none⟩,
    ⟨some 13, .len (.t 12), none⟩,
    ⟨some 14, .bin .neq (.t 11) (.t 13), none⟩] [0, 1, 2, 14] [])
  (.cond (.t 14) (.seq (.reg [⟨some 6, .mv (.k (.bool false)), none⟩] [6] [])
  (.ret)) (.skip)))
  (.seq (.seq (.reg [⟨some 15, .mv (.t 0), none⟩,
    ⟨some 16, .len (.t 15), none⟩,
    ⟨some 17, .mv (.k (.int .i64 0)), none⟩] [1, 2, 15, 16, 17] [])
  (.block 0 (.loop slices_EqualFunc_impl_Mail_impl_Mail_impl_Mail_impl_Mail.l0)))
  (.seq (.reg [⟨some 6, .mv (.k (.bool true)), none⟩] [6] [])
  (.ret))))
def slices_EqualFunc_impl_Mail_impl_Mail_impl_Mail_impl_Mail.m : Fn := { np := 3, body := slices_EqualFunc_impl_Mail_impl_Mail_impl_Mail_impl_Mail.b, res := [.tmp 6] }
def slices_EqualFunc_impl_Mail_impl_Mail_impl_Mail_impl_Mail.k (M : Nat → Option Body) : Prop := M 211 = some (.code slices_EqualFunc_impl_Mail_impl_Mail_impl_Mail_impl_Mail.m)
def impl_sameBox.b : C := .seq (.reg [⟨some 2, .box (.t 0), none⟩,
    ⟨some 3, .box (.t 1), none⟩,
    ⟨some 4, .mv (.k (.bool false)), none⟩] [2, 3] [2, 3])
  (.seq (.reg [⟨some 5, .faddr 0 (.t 2), none⟩,
    ⟨some 6, .load false 1 (.t 5), none⟩,
    ⟨some 7, .faddr 0 (.t 3), none⟩,
    ⟨some 8, .load false 1 (.t 7), none⟩,
    ⟨some 9, .bin .eql (.t 6) (.t 8), none⟩,
    ⟨some 10, .mv (.t 9), none⟩,
    ⟨some 11, .faddr 1 (.t 2), some (10, true)⟩,
    ⟨some 12, .load false 1 (.t 11), some (10, true)⟩,
    ⟨some 13, .faddr 1 (.t 3), some (10, true)⟩,
    ⟨some 14, .load false 1 (.t 13), some (10, true)⟩,
    ⟨some 15, .bin .eql (.t 12) (.t 14), some (10, true)⟩,
    ⟨some 16, .pick (.t 10) (.t 15) (.k (.bool false)), none⟩,
    ⟨some 17, .mv (.t 16), none⟩,
    ⟨some 18, .faddr 2 (.t 2), some (17, true)⟩,
    ⟨some 19, .load true 2 (.t 18), some (17, true)⟩,
    ⟨some 20, .faddr 2 (.t 3), some (17, true)⟩,
    ⟨some 21, .load true 2 (.t 20), some (17, true)⟩,
    ⟨some 22, .eqs false [.int, .int] (.t 19) (.t 21), some (17, true)⟩,
    ⟨some 23, .pick (.t 17) (.t 22) (.k (.bool false)), none⟩,
    ⟨some 24, .mv (.t 23), none⟩,
    ⟨some 25, .faddr 4 (.t 2), some (24, true)⟩,
    ⟨some 26, .load false 1 (.t 25), some (24, true)⟩,
    ⟨some 27, .faddr 4 (.t 3), some (24, true)⟩,
    ⟨some 28, .load false 1 (.t 27), some (24, true)⟩,
    ⟨some 29, .bin .eql (.t 26) (.t 28), some (24, true)⟩,
    ⟨some 30, .pick (.t 24) (.t 29) (.k (.bool false)), none⟩,
    ⟨some 31, .mv (.t 30), none⟩,
    ⟨some 32, .faddr 5 (.t 2), some (31, true)⟩,
    ⟨some 33, .load false 1 (.t 32), some (31, true)⟩,
    ⟨some 34, .faddr 5 (.t 3), some (31, true)⟩,
    ⟨some 35, .load false 1 (.t 34), some (31, true)⟩,
    ⟨some 36, .call 211 [.t 33, .t 35, .fn 212] [] [], some (31, true)⟩,
    ⟨some 37, .pick (.t 31) (.t 36) (.k (.bool false)), none⟩,
    ⟨some 38, .mv (.t 37), none⟩,
    ⟨some 39, .faddr 6 (.t 2), some (38, true)⟩,
    ⟨some 40, .load false 1 (.t 39), some (38, true)⟩,
    ⟨some 41, .faddr 6 (.t 3), some (38, true)⟩,
    ⟨some 42, .load false 1 (.t 41), some (38, true)⟩,
    ⟨some 43, .call 120 [.t 40, .t 42] [] [], some (38, true)⟩,
    ⟨some 44, .pick (.t 38) (.t 43) (.k (.bool false)), none⟩,
    ⟨some 4, .mv (.t 44), none⟩] [4] [])
  (.ret))
def impl_sameBox.m : Fn := { np := 2, body := impl_sameBox.b, res := [.tmp 4] }
def impl_sameBox.k (M : Nat → Option Body) : Prop := M 119 = some (.code impl_sameBox.m) ∧ slices_Equal_int_int.k M ∧ slices_EqualFunc_impl_Mail_impl_Mail_impl_Mail_impl_Mail.k M ∧ impl_SameMail.k M
def slices_EqualFunc_impl_Box_impl_Box_impl_Box_impl_Box.l0 : C := .seq (.reg [⟨some 18, .bin .lss (.t 17) (.t 16), none⟩] [1, 2, 15, 16, 17, 18] [])
  (.seq (.cond (.t 18) (.skip) (.exit 0))
  (.seq (.block 1 (.seq (.reg [⟨some 19, .mv (.t 17), none⟩,
    ⟨some 20, .iaddr 7 (.t 15) (.t 17), none⟩,
    ⟨some 21, .load true 7 (.t 20), none⟩,
    ⟨some 8, .alloc [.int .i64 0, .str ⟨#[]⟩, .int .i64 0, .int .i64 0, .int .i64 0, .nils 4, .nils 1], none⟩,
    ⟨some 7, .mv (.t 19), none⟩,
    ⟨none, .store 7 (.t 8) (.t 21), none⟩] [1, 2, 7, 8, 15, 16, 17] [8])
  (.seq (.reg [⟨some 22, .mv (.t 1), none⟩,
    ⟨some 23, .mv (.t 7), none⟩,
    ⟨some 24, .iaddr 7 (.t 22) (.t 23), none⟩,
    ⟨some 25, .load true 7 (.t 24), none⟩,
    ⟨some 9, .alloc [.int .i64 0, .str ⟨#[]⟩, .int .i64 0, .int .i64 0, .int .i64 0, .nils 4, .nils 1], none⟩,
    ⟨none, .store 7 (.t 9) (.t 25), none⟩] [1, 2, 8, 9, 15, 16, 17] [8, 9])
  (.seq (.reg [⟨some 26, .mv (.t 2), none⟩,
    ⟨some 27, .load true 7 (.t 8), none⟩,
    ⟨some 28, .load true 7 (.t 9), none⟩,
    ⟨some 29, .callv (.t 26) [.t 27, .t 28], none⟩,
    ⟨some 30, .not (.t 29), none⟩] [1, 2, 15, 16, 17, 30] [])
  (.cond (.t 30) (.seq (.reg [⟨some 6, .mv (.k (.bool false)), none⟩] [6] [])
  (.ret)) (.skip))))))
  (.reg [⟨some 31, .bin .add (.t 17) (.k (.int .i64 1)), none⟩,
    ⟨some 17, .mv (.t 31), none⟩] [1, 2, 15, 16, 17] [])))
def slices_EqualFunc_impl_Box_impl_Box_impl_Box_impl_Box.b : C := .seq (.reg [⟨some 6, .mv (.k (.bool false)), none⟩] [0, 1, 2] [])
  (.seq (.seq (.reg [⟨some 10, .mv (.t 0), none⟩,
    ⟨some 11, .len (.t 10), none⟩,
    ⟨some 12, .mv (.t 1), none⟩,
    ⟨some 13, .len (.t 12), none⟩,
    ⟨some 14, .bin .neq (.t 11) (.t 13), none⟩] [0, 1, 2, 14] [])
  (.cond (.t 14) (.seq (.reg [⟨some 6, .mv (.k (.bool false)), none⟩] [6] [])
  (.ret)) (.skip)))
  (.seq (.seq (.reg [⟨some 15, .mv (.t 0), none⟩,
    ⟨some 16, .len (.t 15), none⟩,
    ⟨some 17, .mv (.k (.int .i64 0)), none⟩] [1, 2, 15, 16, 17] [])
  (.block 0 (.loop slices_EqualFunc_impl_Box_impl_Box_impl_Box_impl_Box.l0)))
  (.seq (.reg [⟨some 6, .mv (.k (.bool true)), none⟩] [6] [])
  (.ret))))
def slices_EqualFunc_impl_Box_impl_Box_impl_Box_impl_Box.m : Fn := { np := 3, body := slices_EqualFunc_impl_Box_impl_Box_impl_Box_impl_Box.b, res := [.tmp 6] }
def slices_EqualFunc_impl_Box_impl_Box_impl_Box_impl_Box.k (M : Nat → Option Body) : Prop := M 118 = some (.code slices_EqualFunc_impl_Box_impl_Box_impl_Box_impl_Box.m)
def impl_Alike.b : C := .seq (.reg [⟨some 2, .box (.t 0), none⟩,
    ⟨some 3, .box (.t 1), none⟩,
    ⟨some 4, .mv (.k (.bool false)), none⟩] [2, 3] [2, 3])
  (.seq (.reg [⟨some 5, .faddr 2 (.t 2), none⟩,
    ⟨some 6, .load false 1 (.t 5), none⟩,
    ⟨some 7, .faddr 2 (.t 3), none⟩,
    ⟨some 8, .load false 1 (.t 7), none⟩,
    ⟨some 9, .call 118 [.t 6, .t 8, .fn 119] [] [], none⟩,
    ⟨some 10, .mv (.t 9), none⟩,
    ⟨some 11, .faddr 3 (.t 2), some (10, true)⟩,
    ⟨some 12, .load false 1 (.t 11), some (10, true)⟩,
    ⟨some 13, .faddr 3 (.t 3), some (10, true)⟩,
    ⟨some 14, .load false 1 (.t 13), some (10, true)⟩,
    ⟨some 15, .call 120 [.t 12, .t 14] [] [], some (10, true)⟩,
    ⟨some 16, .pick (.t 10) (.t 15) (.k (.bool false)), none⟩,
    ⟨some 4, .mv (.t 16), none⟩] [4] [])
  (.ret))
def impl_Alike.m : Fn := { np := 2, body := impl_Alike.b, res := [.tmp 4] }
def impl_Alike.k (M : Nat → Option Body) : Prop := M 32 = some (.code impl_Alike.m) ∧ slices_EqualFunc_impl_Box_impl_Box_impl_Box_impl_Box.k M ∧ impl_sameBox.k M ∧ slices_Equal_int_int.k M
def laws_FnExactAlike.b : C := .seq (.reg [⟨some 2, .box (.t 0), none⟩,
    ⟨some 3, .box (.t 1), none⟩,
    ⟨some 4, .mv (.k (.bool false)), none⟩] [2, 3] [2, 3])
  (.seq (.reg [⟨some 5, .mv (.k (.int .i64 1048576)), none⟩] [2, 3, 5] [2, 3])
  (.seq (.reg [⟨some 10, .load true 4 (.t 2), none⟩,
    ⟨some 11, .mv (.t 5), none⟩,
    ⟨some 12, .call 29 [.t 10, .t 11] [] [], none⟩,
    ⟨some 5, .mv (.t 12), none⟩] [2, 3, 5] [2, 3])
  (.seq (.seq (.reg [⟨some 13, .mv (.t 5), none⟩,
    ⟨some 14, .bin .lss (.t 13) (.k (.int .i64 0)), none⟩] [2, 3, 5, 14] [2, 3])
  (.cond (.t 14) (.seq (.reg [⟨some 4, .mv (.k (.bool true)), none⟩] [4] [])
  (.ret)) (.skip)))
  (.seq (.reg [⟨some 15, .load true 4 (.t 3), none⟩,
    ⟨some 16, .mv (.t 5), none⟩,
    ⟨some 17, .call 29 [.t 15, .t 16] [] [], none⟩,
    ⟨some 5, .mv (.t 17), none⟩] [2, 3, 5] [2, 3])
  (.seq (.seq (.reg [⟨some 18, .mv (.t 5), none⟩,
    ⟨some 19, .bin .lss (.t 18) (.k (.int .i64 0)), none⟩] [2, 3, 19] [2, 3])
  (.cond (.t 19) (.seq (.reg [⟨some 4, .mv (.k (.bool true)), none⟩] [4] [])
  (.ret)) (.skip)))
  (.seq (.regd [⟨some 20, .load true 4 (.t 2), none⟩,
    ⟨some 21, .call 30 [.t 20] [] [], none⟩,
    ⟨some 22, .load true 4 (.t 3), none⟩,
    ⟨some 23, .call 30 [.t 22] [] [], none⟩,
    ⟨some 24, .call 31 [.t 21, .t 23] [] [], none⟩,
    ⟨some 6, .mv (.t 24), none⟩] [[], [0], [], [0, 1, 2], [0, 1, 2, 3], [0, 1, 2, 3, 4]] [2, 3, 6] [2, 3])
  (.seq (.reg [⟨some 25, .load true 4 (.t 2), none⟩,
    ⟨some 26, .call 30 [.t 25] [] [], none⟩,
    ⟨some 7, .alloc [.int .i64 0, .int .i64 0, .nils 7, .nils 1], none⟩,
    ⟨none, .store 4 (.t 7) (.t 26), none⟩] [2, 3, 6, 7] [2, 3, 7])
  (.seq (.reg [⟨some 27, .load true 4 (.t 3), none⟩,
    ⟨some 28, .call 30 [.t 27] [] [], none⟩,
    ⟨some 8, .alloc [.int .i64 0, .int .i64 0, .nils 7, .nils 1], none⟩,
    ⟨none, .store 4 (.t 8) (.t 28), none⟩] [2, 3, 6, 7, 8] [2, 3, 7, 8])
  (.seq (.reg [⟨some 29, .load true 4 (.t 7), none⟩,
    ⟨some 30, .load true 4 (.t 8), none⟩,
    ⟨some 31, .call 32 [.t 29, .t 30] [] [], none⟩,
    ⟨some 9, .mv (.t 31), none⟩] [2, 3, 6, 7, 8, 9] [2, 3, 7, 8])
  (.seq (.seq (.reg [⟨some 32, .mv (.t 9), none⟩,
    ⟨some 33, .mv (.t 6), none⟩,
    ⟨some 34, .beq true (.t 32) (.t 33), none⟩] [2, 3, 7, 8, 34] [2, 3, 7, 8])
  (.cond (.t 34) (.seq (.reg [⟨some 4, .mv (.k (.bool false)), none⟩] [4] [])
  (.ret)) (.skip)))
  (.seq (.seq (.regd [⟨some 35, .load true 4 (.t 7), none⟩,
    ⟨some 36, .load true 4 (.t 2), none⟩,
    ⟨some 37, .call 30 [.t 36] [] [], none⟩,
    ⟨some 38, .call 33 [.t 35, .t 37] [] [], none⟩,
    ⟨some 39, .not (.t 38), none⟩] [[], [], [1], [0, 1, 2], [0, 1, 2, 3]] [3, 8, 39] [3, 8])
  (.cond (.t 39) (.seq (.reg [⟨some 4, .mv (.k (.bool false)), none⟩] [4] [])
  (.ret)) (.skip)))
  (.seq (.seq (.regd [⟨some 40, .load true 4 (.t 8), none⟩,
    ⟨some 41, .load true 4 (.t 3), none⟩,
    ⟨some 42, .call 30 [.t 41] [] [], none⟩,
    ⟨some 43, .call 33 [.t 40, .t 42] [] [], none⟩,
    ⟨some 44, .not (.t 43), none⟩] [[], [], [1], [0, 1, 2], [0, 1, 2, 3]] [44] [])
  (.cond (.t 44) (.seq (.reg [⟨some 4, .mv (.k (.bool false)), none⟩] [4] [])
  (.ret)) (.skip)))
  (.seq (.reg [⟨some 4, .mv (.k (.bool true)), none⟩] [4] [])
  (.ret))))))))))))))
def laws_FnExactAlike.m : Fn := { np := 2, body := laws_FnExactAlike.b, res := [.tmp 4] }
def laws_FnExactAlike.k (M : Nat → Option Body) : Prop := M 367 = some (.code laws_FnExactAlike.m) ∧ laws_szStore.k M ∧ laws_toStore.k M ∧ spec_Alike.k M ∧ impl_Alike.k M ∧ laws_eqStore.k M
end Mx

/-
  What is the same: mails, boxes, stores; the law of Alike.
-/
namespace Mx
open Go
variable {M : Nat → Option Body}
deriving instance DecidableEq for Reg
deriving instance DecidableEq for Mail
deriving instance DecidableEq for Box
/-- two lists of one length, element by element -/
theorem eq_loop {α : Type} [DecidableEq α] (la lb : List α) (hl : la.length = lb.length) {f : St → Option (Out × St)} {β : Type} (S : Nat → β → St) (c e : Nat) (E : β → St)
    (h1 : ∀ i (h : i < la.length) (h' : i < lb.length) x, la[i] = lb[i] → ∃ y, f (S i x) = some (.normal, S (i + 1) y))
    (h2 : ∀ i (h : i < la.length) (h' : i < lb.length) x, ¬ la[i] = lb[i] → ∃ n, f (S i x) = some (.ret, { t := [(c, .c (.bool false))], o := [], n := n }))
    (h3 : ∀ x, ∃ y, f (S la.length x) = some (.exit e, E y)) :
    ∃ g : β → β × Nat, ∀ x, loopN f (la.length + 1) (S 0 x) = some (if la = lb then (.exit e, E (g x).1) else (.ret, { t := [(c, .c (.bool false))], o := [], n := (g x).2 })) := by
  have key := loop_all (f := f) S (fun i => i ≤ la.length) (fun i => la.length - i) (fun i => decide (la.drop i = lb.drop i))
    (fun q (m : β × Nat) => if q = true then (.exit e, E m.1) else (.ret, { t := [(c, .c (.bool false))], o := [], n := m.2 })) (by
      intro i x hi
      by_cases hlt : i < la.length
      · have hlt' : i < lb.length := by omega
        have hd : (la.drop i = lb.drop i) ↔ (la[i] = lb[i] ∧ la.drop (i + 1) = lb.drop (i + 1)) := by
          rw [List.drop_eq_getElem_cons hlt, List.drop_eq_getElem_cons hlt', List.cons.injEq]
        by_cases c' : la[i] = lb[i]
        · obtain ⟨y, hy⟩ := h1 i hlt hlt' x c'
          exact .inl ⟨i + 1, y, hy, hlt, by omega, by rw [decide_eq_decide, hd]; simp [c']⟩
        · obtain ⟨n, hn⟩ := h2 i hlt hlt' x c'
          have hf : decide (la.drop i = lb.drop i) = false := decide_eq_false fun q => c' (hd.1 q).1
          exact .inr ⟨(x, n), by rw [hn, hf]; simp, by rw [hf]; simp⟩
      · have : i = la.length := by omega
        subst this
        obtain ⟨y, hy⟩ := h3 x
        have hd : lb.drop la.length = [] := List.drop_eq_nil_of_le (by omega)
        exact .inr ⟨(y, 0), by rw [hy]; simp [hd], by simp [hd]⟩) (la.length + 1) 0 (Nat.zero_le _) (by omega)
  obtain ⟨g, hg⟩ := key
  refine ⟨g, fun x => ?_⟩
  rw [hg x]
  simp only [List.drop_zero, decide_eq_true_eq]
theorem reg_ext {x y : Reg} (h1 : x.val = y.val) (h2 : x.time = y.time) (h3 : x.who = y.who) : x = y := by
  cases x; cases y; simp_all
theorem mail_ext {x y : Mail} (h1 : x.gid = y.gid) (h2 : x.uid = y.uid) (h3 : x.flags = y.flags) (h4 : x.text = y.text) : x = y := by
  cases x; cases y; simp_all
theorem box_ext {x y : Box} (h1 : x.gid = y.gid) (h2 : x.name = y.name) (h3 : x.time = y.time) (h3' : x.who = y.who) (h4 : x.next = y.next) (h5 : x.mails = y.mails) (h6 : x.gone = y.gone) : x = y := by
  cases x; cases y; simp_all

/-! ## mails -/
def smS (a b : Mail) (i : Nat) (x : Nat × Nat × Nat) : St := { t := [(2, .c (.ptr 2 x.1 0 0)), (3, .c (.ptr 3 x.2.1 0 0)), (5, .c (I i))], o := [(2, ⟨x.1, 4, true, true, [encMail a]⟩), (3, ⟨x.2.1, 4, true, true, [encMail b]⟩)], n := x.2.2 }
def smE (a b : Mail) (x : Nat × Nat × Nat) : St := { t := [(2, .c (.ptr 2 x.1 0 0)), (3, .c (.ptr 3 x.2.1 0 0)), (5, .c (I a.flags.length)), (38, .c (.bool false))], o := [(2, ⟨x.1, 4, true, true, [encMail a]⟩), (3, ⟨x.2.1, 4, true, true, [encMail b]⟩)], n := x.2.2 }
theorem spec_SameMail.says (h : spec_SameMail.k M) (a b : Mail) (ha : a.flags.length ≤ 1048576) : run M 159 [.a (encMail a), .a (encMail b)] [] = some (.c (.bool (decide (a = b))), []) := by
  refine run_code (b := spec_SameMail.m) h ⟨a.flags.length + 1, ?_⟩
  by_cases c1 : a.gid = b.gid
  rotate_left
  · have hne : ¬ a = b := fun q => c1 (by rw [q])
    simp [exB, spec_SameMail.m, spec_SameMail.b, List.range_succ, c1, hne]
  by_cases c2 : a.uid = b.uid
  rotate_left
  · have hne : ¬ a = b := fun q => c2 (by rw [q])
    simp [exB, spec_SameMail.m, spec_SameMail.b, List.range_succ, c1, c2, hne]
  by_cases c3 : a.text = b.text
  rotate_left
  · have hne : ¬ a = b := fun q => c3 (by rw [q])
    simp [exB, spec_SameMail.m, spec_SameMail.b, List.range_succ, c1, c2, c3, hne]
  by_cases c4 : a.flags.length = b.flags.length
  rotate_left
  · have hne : ¬ a = b := fun q => c4 (by rw [q])
    have c4' : ¬ (a.flags.length : Int) = b.flags.length := by omega
    simp [exB, spec_SameMail.m, spec_SameMail.b, List.range_succ, c1, c2, c3, c4, c4', hne]
  obtain ⟨g, hr⟩ := eq_loop a.flags b.flags c4 (f := exC (run M) (a.flags.length + 1) spec_SameMail.l0) (smS a b) 4 0 (smE a b)
    (fun i hi hi' x c => by
      obtain ⟨v, w, x⟩ := x
      have e5 : IntKind.i64.wrap ((i : Int) + 1) = (i : Int) + 1 := wrap_i64 (by omega) (by omega)
      simp only [Prod.exists]
      simp [smS, spec_SameMail.l0, hi, hi', e5, encReg, eqL, eqT, c])
    (fun i hi hi' x c => by
      obtain ⟨v, w, x⟩ := x
      by_cases q1 : a.flags[i].val = b.flags[i].val <;> by_cases q2 : a.flags[i].time = b.flags[i].time <;> by_cases q3 : a.flags[i].who = b.flags[i].who <;>
        first
        | exact absurd (reg_ext q1 q2 q3) c
        | simp [smS, spec_SameMail.l0, hi, hi', encReg, eqL, eqT, q1, q2, q3])
    (fun x => by
      obtain ⟨v, w, x⟩ := x
      simp only [Prod.exists]
      simp [smS, smE, spec_SameMail.l0])
  by_cases c5 : a.flags = b.flags
  · have he : a = b := mail_ext c1 c2 c5 c3
    simp only [c5, if_true] at hr
    simp [smS, smE, encMail, ← c5] at hr
    subst he
    simp [exB, spec_SameMail.m, spec_SameMail.b, List.range_succ, hr]
  · have hne : ¬ a = b := fun q => c5 (by rw [q])
    simp only [c5, if_false] at hr
    simp [smS, smE, encMail, c1, c2, c3, c4] at hr
    simp [exB, spec_SameMail.m, spec_SameMail.b, List.range_succ, encMail, c1, c2, c3, c4, hr, hne]

def seS (a b : List Reg) (i : Nat) (x : Nat) : St := { t := [(0, .c (regs a)), (1, .c (regs b)), (12, .c (I a.length)), (13, .c (I i))], o := [], n := x }
def seE (a b : List Reg) (x : Nat) : St := { t := [(0, .c (regs a)), (1, .c (regs b)), (12, .c (I a.length)), (13, .c (I a.length)), (14, .c (.bool false))], o := [], n := x }
theorem slices_Equal_impl_Reg_impl_Reg.says (h : slices_Equal_impl_Reg_impl_Reg.k M) (a b : List Reg) (ha : a.length ≤ 1048576) : run M 253 [.c (regs a), .c (regs b)] [] = some (.c (.bool (decide (a = b))), []) := by
  refine run_code (b := slices_Equal_impl_Reg_impl_Reg.m) h ⟨a.length + 1, ?_⟩
  by_cases c4 : a.length = b.length
  rotate_left
  · have hne : ¬ a = b := fun q => c4 (by rw [q])
    have c4' : ¬ (a.length : Int) = b.length := by omega
    simp [exB, slices_Equal_impl_Reg_impl_Reg.m, slices_Equal_impl_Reg_impl_Reg.b, List.range_succ, c4, c4', hne]
  obtain ⟨g, hr⟩ := eq_loop a b c4 (f := exC (run M) (a.length + 1) slices_Equal_impl_Reg_impl_Reg.l0) (seS a b) 4 0 (seE a b)
    (fun i hi hi' x c => by
      have e5 : IntKind.i64.wrap ((i : Int) + 1) = (i : Int) + 1 := wrap_i64 (by omega) (by omega)
      simp [seS, slices_Equal_impl_Reg_impl_Reg.l0, hi, hi', e5, encReg, eqL, eqT, c])
    (fun i hi hi' x c => by
      by_cases q1 : a[i].val = b[i].val <;> by_cases q2 : a[i].time = b[i].time <;> by_cases q3 : a[i].who = b[i].who <;>
        first
        | exact absurd (reg_ext q1 q2 q3) c
        | simp [seS, slices_Equal_impl_Reg_impl_Reg.l0, hi, hi', encReg, eqL, eqT, q1, q2, q3])
    (fun x => by simp [seS, seE, slices_Equal_impl_Reg_impl_Reg.l0])
  by_cases c5 : a = b
  · subst c5
    simp [seS, seE] at hr
    simp [exB, slices_Equal_impl_Reg_impl_Reg.m, slices_Equal_impl_Reg_impl_Reg.b, List.range_succ, hr]
  · simp [seS, seE, c5] at hr
    simp only [c4] at hr
    simp [exB, slices_Equal_impl_Reg_impl_Reg.m, slices_Equal_impl_Reg_impl_Reg.b, List.range_succ, hr, c4, c5]
def siS (a b : List Int) (i : Nat) (x : Nat) : St := { t := [(0, .c (ints a)), (1, .c (ints b)), (12, .c (I a.length)), (13, .c (I i))], o := [], n := x }
def siE (a b : List Int) (x : Nat) : St := { t := [(0, .c (ints a)), (1, .c (ints b)), (12, .c (I a.length)), (13, .c (I a.length)), (14, .c (.bool false))], o := [], n := x }
theorem slices_Equal_int_int.says (h : slices_Equal_int_int.k M) (a b : List Int) (ha : a.length ≤ 1048576) : run M 120 [.c (ints a), .c (ints b)] [] = some (.c (.bool (decide (a = b))), []) := by
  refine run_code (b := slices_Equal_int_int.m) h ⟨a.length + 1, ?_⟩
  by_cases c4 : a.length = b.length
  rotate_left
  · have hne : ¬ a = b := fun q => c4 (by rw [q])
    have c4' : ¬ (a.length : Int) = b.length := by omega
    simp [exB, slices_Equal_int_int.m, slices_Equal_int_int.b, List.range_succ, c4, c4', hne]
  obtain ⟨g, hr⟩ := eq_loop a b c4 (f := exC (run M) (a.length + 1) slices_Equal_int_int.l0) (siS a b) 4 0 (siE a b)
    (fun i hi hi' x c => by
      have e5 : IntKind.i64.wrap ((i : Int) + 1) = (i : Int) + 1 := wrap_i64 (by omega) (by omega)
      simp [siS, slices_Equal_int_int.l0, hi, hi', e5, c])
    (fun i hi hi' x c => by simp [siS, slices_Equal_int_int.l0, hi, hi', c])
    (fun x => by simp [siS, siE, slices_Equal_int_int.l0])
  by_cases c5 : a = b
  · subst c5
    simp [siS, siE] at hr
    simp [exB, slices_Equal_int_int.m, slices_Equal_int_int.b, List.range_succ, hr]
  · simp [siS, siE, c5] at hr
    simp only [c4] at hr
    simp [exB, slices_Equal_int_int.m, slices_Equal_int_int.b, List.range_succ, hr, c4, c5]
theorem impl_SameMail.says (h : impl_SameMail.k M) (a b : Mail) (ha : a.flags.length ≤ 1048576) : run M 212 [.a (encMail a), .a (encMail b)] [] = some (.c (.bool (decide (a = b))), []) := by
  have h1 := slices_Equal_impl_Reg_impl_Reg.says h.2 a.flags b.flags ha
  refine run_code (b := impl_SameMail.m) h.1 ⟨0, ?_⟩
  by_cases c1 : a.gid = b.gid
  rotate_left
  · have hne : ¬ a = b := fun q => c1 (by rw [q])
    simp [exB, impl_SameMail.m, impl_SameMail.b, List.range_succ, c1, hne]
  by_cases c2 : a.uid = b.uid
  rotate_left
  · have hne : ¬ a = b := fun q => c2 (by rw [q])
    simp [exB, impl_SameMail.m, impl_SameMail.b, List.range_succ, c1, c2, hne]
  by_cases c5 : a.flags = b.flags
  rotate_left
  · have hne : ¬ a = b := fun q => c5 (by rw [q])
    simp only [c5, decide_false] at h1
    simp [exB, impl_SameMail.m, impl_SameMail.b, List.range_succ, c1, c2, h1, hne]
  simp only [c5, decide_true] at h1
  by_cases c3 : a.text = b.text
  · have he : a = b := mail_ext c1 c2 c5 c3
    subst he
    simp [exB, impl_SameMail.m, impl_SameMail.b, List.range_succ, h1]
  · have hne : ¬ a = b := fun q => c3 (by rw [q])
    simp [exB, impl_SameMail.m, impl_SameMail.b, List.range_succ, c1, c2, c3, c5, h1, hne]
end Mx

/-
  Boxes and stores that are the same; the law of Alike.
-/
namespace Mx
open Go
variable {M : Nat → Option Body}
def efS (a b : List Mail) (i : Nat) (x : Nat) : St := { t := [(1, .c (mails b)), (2, .c (.fn 212 [])), (15, .c (mails a)), (16, .c (I a.length)), (17, .c (I i))], o := [], n := x }
def efE (a b : List Mail) (x : Nat) : St := { t := [(1, .c (mails b)), (2, .c (.fn 212 [])), (15, .c (mails a)), (16, .c (I a.length)), (17, .c (I a.length)), (18, .c (.bool false))], o := [], n := x }
theorem slices_EqualFunc_mails (h : slices_EqualFunc_impl_Mail_impl_Mail_impl_Mail_impl_Mail.k M) (h2 : impl_SameMail.k M) (a b : List Mail) (ha : a.length ≤ 1048576) (hf : ∀ m ∈ a, m.flags.length ≤ 1048576) :
    run M 211 [.c (mails a), .c (mails b), .c (.fn 212 [])] [] = some (.c (.bool (decide (a = b))), []) := by
  refine run_code (b := slices_EqualFunc_impl_Mail_impl_Mail_impl_Mail_impl_Mail.m) h ⟨a.length + 1, ?_⟩
  by_cases c4 : a.length = b.length
  rotate_left
  · have hne : ¬ a = b := fun q => c4 (by rw [q])
    have c4' : ¬ (a.length : Int) = b.length := by omega
    simp [exB, slices_EqualFunc_impl_Mail_impl_Mail_impl_Mail_impl_Mail.m, slices_EqualFunc_impl_Mail_impl_Mail_impl_Mail_impl_Mail.b, List.range_succ, c4, c4', hne]
  obtain ⟨g, hr⟩ := eq_loop a b c4 (f := exC (run M) (a.length + 1) slices_EqualFunc_impl_Mail_impl_Mail_impl_Mail_impl_Mail.l0) (efS a b) 6 0 (efE a b)
    (fun i hi hi' x c => by
      have e5 : IntKind.i64.wrap ((i : Int) + 1) = (i : Int) + 1 := wrap_i64 (by omega) (by omega)
      have hm := impl_SameMail.says h2 a[i] b[i] (hf _ (List.getElem_mem hi))
      rw [decide_eq_true c] at hm
      simp only [encMail] at hm
      simp [efS, slices_EqualFunc_impl_Mail_impl_Mail_impl_Mail_impl_Mail.l0, hi, hi', e5, encMail, hm, setAt])
    (fun i hi hi' x c => by
      have hm := impl_SameMail.says h2 a[i] b[i] (hf _ (List.getElem_mem hi))
      rw [decide_eq_false c] at hm
      simp only [encMail] at hm
      simp [efS, slices_EqualFunc_impl_Mail_impl_Mail_impl_Mail_impl_Mail.l0, hi, hi', encMail, hm, setAt])
    (fun x => by simp [efS, efE, slices_EqualFunc_impl_Mail_impl_Mail_impl_Mail_impl_Mail.l0])
  by_cases c5 : a = b
  · subst c5
    simp [efS, efE] at hr
    simp [exB, slices_EqualFunc_impl_Mail_impl_Mail_impl_Mail_impl_Mail.m, slices_EqualFunc_impl_Mail_impl_Mail_impl_Mail_impl_Mail.b, List.range_succ, hr]
  · simp [efS, efE, c5] at hr
    simp only [c4] at hr
    simp [exB, slices_EqualFunc_impl_Mail_impl_Mail_impl_Mail_impl_Mail.m, slices_EqualFunc_impl_Mail_impl_Mail_impl_Mail_impl_Mail.b, List.range_succ, hr, c4, c5]
theorem flags_le {l : List Mail} {n : Nat} (h : wMails l ≤ n) : ∀ m ∈ l, m.flags.length ≤ n := fun m hm => by
  have := wMail_le hm; unfold wMail at this; omega
theorem impl_sameBox.says (h : impl_sameBox.k M) (a b : Box) (ha : wBox a ≤ 1048576) : run M 119 [.a (encBox a), .a (encBox b)] [] = some (.c (.bool (decide (a = b))), []) := by
  obtain ⟨h0, k1, k2, k3⟩ := h
  have h1 := slices_Equal_int_int.says k1 a.gone b.gone (by unfold wBox at ha; omega)
  have h2 := slices_EqualFunc_mails k2 k3 a.mails b.mails (by unfold wBox wMails at ha; omega) (flags_le (by unfold wBox at ha; omega))
  refine run_code (b := impl_sameBox.m) h0 ⟨0, ?_⟩
  by_cases c1 : a.gid = b.gid
  rotate_left
  · have hne : ¬ a = b := fun q => c1 (by rw [q])
    simp [exB, impl_sameBox.m, impl_sameBox.b, List.range_succ, c1, hne]
  by_cases c2 : a.name = b.name
  rotate_left
  · have hne : ¬ a = b := fun q => c2 (by rw [q])
    simp [exB, impl_sameBox.m, impl_sameBox.b, List.range_succ, c1, c2, hne]
  by_cases c3 : a.time = b.time
  rotate_left
  · have hne : ¬ a = b := fun q => c3 (by rw [q])
    simp [exB, impl_sameBox.m, impl_sameBox.b, List.range_succ, c1, c2, c3, hne, eqL, eqT]
  by_cases c4 : a.who = b.who
  rotate_left
  · have hne : ¬ a = b := fun q => c4 (by rw [q])
    simp [exB, impl_sameBox.m, impl_sameBox.b, List.range_succ, c1, c2, c3, c4, hne, eqL, eqT]
  by_cases c5 : a.next = b.next
  rotate_left
  · have hne : ¬ a = b := fun q => c5 (by rw [q])
    simp [exB, impl_sameBox.m, impl_sameBox.b, List.range_succ, c1, c2, c3, c4, c5, hne, eqL, eqT]
  by_cases c6 : a.mails = b.mails
  rotate_left
  · have hne : ¬ a = b := fun q => c6 (by rw [q])
    simp only [c6, decide_false] at h2
    simp [exB, impl_sameBox.m, impl_sameBox.b, List.range_succ, c1, c2, c3, c4, c5, h2, hne, eqL, eqT]
  simp only [c6, decide_true] at h2
  by_cases c7 : a.gone = b.gone
  · have he : a = b := box_ext c1 c2 c3 c4 c5 c6 c7
    subst he
    simp at h1
    simp [exB, impl_sameBox.m, impl_sameBox.b, List.range_succ, h1, h2, eqL, eqT]
  · have hne : ¬ a = b := fun q => c7 (by rw [q])
    simp only [c7, decide_false] at h1
    simp [exB, impl_sameBox.m, impl_sameBox.b, List.range_succ, c1, c2, c3, c4, c5, c6, h1, h2, hne, eqL, eqT]

def sbS (a b : Box) (i : Nat) (x : Nat × Nat × Nat) : St := { t := [(2, .c (.ptr 2 x.1 0 0)), (3, .c (.ptr 3 x.2.1 0 0)), (5, .c (I i))], o := [(2, ⟨x.1, 7, true, true, [encBox a]⟩), (3, ⟨x.2.1, 7, true, true, [encBox b]⟩)], n := x.2.2 }
def sbE (a b : Box) (x : Nat × Nat × Nat) : St := { t := [(2, .c (.ptr 2 x.1 0 0)), (3, .c (.ptr 3 x.2.1 0 0)), (5, .c (I a.mails.length)), (55, .c (.bool false))], o := [(2, ⟨x.1, 7, true, true, [encBox a]⟩), (3, ⟨x.2.1, 7, true, true, [encBox b]⟩)], n := x.2.2 }
def sb2S (a b : Box) (i : Nat) (x : Nat × Nat × Nat) : St := { t := [(2, .c (.ptr 2 x.1 0 0)), (3, .c (.ptr 3 x.2.1 0 0)), (6, .c (I i))], o := [(2, ⟨x.1, 7, true, true, [encBox a]⟩), (3, ⟨x.2.1, 7, true, true, [encBox b]⟩)], n := x.2.2 }
def sb2E (a b : Box) (x : Nat × Nat × Nat) : St := { t := [(2, .c (.ptr 2 x.1 0 0)), (3, .c (.ptr 3 x.2.1 0 0)), (6, .c (I a.gone.length)), (74, .c (.bool false))], o := [(2, ⟨x.1, 7, true, true, [encBox a]⟩), (3, ⟨x.2.1, 7, true, true, [encBox b]⟩)], n := x.2.2 }
theorem loopN_more {f : St → Option (Out × St)} : ∀ {n m : Nat} {s : St} {r : Out × St}, loopN f n s = some r → n ≤ m → loopN f m s = some r
  | 0, m, s, r, h, _ => by simp [loopN] at h
  | n + 1, 0, s, r, h, hm => by omega
  | n + 1, m + 1, s, r, h, hm => by
    simp only [loopN] at h ⊢
    split at h
    · exact loopN_more h (by omega)
    · exact h
theorem spec_l09Box.says (h : spec_l09Box.k M) (a b : Box) (ha : wBox a ≤ 1048576) : run M 116 [.a (encBox a), .a (encBox b)] [] = some (.c (.bool (decide (a = b))), []) := by
  obtain ⟨h0, k1⟩ := h
  refine run_code (b := spec_l09Box.m) h0 ⟨a.mails.length + a.gone.length + 1, ?_⟩
  by_cases c1 : a.gid = b.gid
  rotate_left
  · have hne : ¬ a = b := fun q => c1 (by rw [q])
    simp [exB, spec_l09Box.m, spec_l09Box.b, List.range_succ, c1, hne]
  by_cases c2 : a.name = b.name
  rotate_left
  · have hne : ¬ a = b := fun q => c2 (by rw [q])
    simp [exB, spec_l09Box.m, spec_l09Box.b, List.range_succ, c1, c2, hne]
  by_cases c3 : a.time = b.time
  rotate_left
  · have hne : ¬ a = b := fun q => c3 (by rw [q])
    simp [exB, spec_l09Box.m, spec_l09Box.b, List.range_succ, c1, c2, c3, hne, eqL, eqT]
  by_cases c4 : a.who = b.who
  rotate_left
  · have hne : ¬ a = b := fun q => c4 (by rw [q])
    simp [exB, spec_l09Box.m, spec_l09Box.b, List.range_succ, c1, c2, c3, c4, hne, eqL, eqT]
  by_cases c5 : a.next = b.next
  rotate_left
  · have hne : ¬ a = b := fun q => c5 (by rw [q])
    simp [exB, spec_l09Box.m, spec_l09Box.b, List.range_succ, c1, c2, c3, c4, c5, hne, eqL, eqT]
  by_cases c6 : a.mails.length = b.mails.length
  rotate_left
  · have hne : ¬ a = b := fun q => c6 (by rw [q])
    have c6' : ¬ (a.mails.length : Int) = b.mails.length := by omega
    simp [exB, spec_l09Box.m, spec_l09Box.b, List.range_succ, c1, c2, c3, c4, c5, c6, c6', hne, eqL, eqT]
  by_cases c7 : a.gone.length = b.gone.length
  rotate_left
  · have hne : ¬ a = b := fun q => c7 (by rw [q])
    have c7' : ¬ (a.gone.length : Int) = b.gone.length := by omega
    simp [exB, spec_l09Box.m, spec_l09Box.b, List.range_succ, c1, c2, c3, c4, c5, c6, c7, c7', hne, eqL, eqT]
  obtain ⟨K, hK⟩ : ∃ K, K = a.mails.length + a.gone.length + 1 := ⟨_, rfl⟩
  rw [← hK]
  have hml : a.mails.length ≤ 1048576 := by unfold wBox wMails at ha; omega
  have hgl : a.gone.length ≤ 1048576 := by unfold wBox at ha; omega
  have hfl := flags_le (l := a.mails) (n := 1048576) (by unfold wBox at ha; omega)
  obtain ⟨g, hr⟩ := eq_loop a.mails b.mails c6 (f := exC (run M) K spec_l09Box.l0) (sbS a b) 4 0 (sbE a b)
    (fun i hi hi' x c => by
      obtain ⟨v, w, x⟩ := x
      have e5 : IntKind.i64.wrap ((i : Int) + 1) = (i : Int) + 1 := wrap_i64 (by omega) (by omega)
      have hm := spec_SameMail.says k1 a.mails[i] b.mails[i] (hfl _ (List.getElem_mem hi))
      rw [decide_eq_true c] at hm
      simp only [encMail] at hm
      simp only [Prod.exists]
      simp [sbS, spec_l09Box.l0, hi, hi', e5, encMail, hm])
    (fun i hi hi' x c => by
      obtain ⟨v, w, x⟩ := x
      have hm := spec_SameMail.says k1 a.mails[i] b.mails[i] (hfl _ (List.getElem_mem hi))
      rw [decide_eq_false c] at hm
      simp only [encMail] at hm
      simp [sbS, spec_l09Box.l0, hi, hi', encMail, hm])
    (fun x => by
      obtain ⟨v, w, x⟩ := x
      simp only [Prod.exists]
      simp [sbS, sbE, spec_l09Box.l0])
  have hr' := fun x => loopN_more (hr x) (show a.mails.length + 1 ≤ K by omega)
  by_cases c8 : a.mails = b.mails
  rotate_left
  · have hne : ¬ a = b := fun q => c8 (by rw [q])
    simp only [c8, if_false] at hr'
    simp [sbS, encBox, c1, c2, c3, c4, c5] at hr'
    simp [exB, spec_l09Box.m, spec_l09Box.b, List.range_succ, encBox, c1, c2, c3, c4, c5, c6, c7, hne, eqL, eqT, hr']
  obtain ⟨g2, hr2⟩ := eq_loop a.gone b.gone c7 (f := exC (run M) K spec_l09Box.l1) (sb2S a b) 4 2 (sb2E a b)
    (fun i hi hi' x c => by
      obtain ⟨v, w, x⟩ := x
      have e5 : IntKind.i64.wrap ((i : Int) + 1) = (i : Int) + 1 := wrap_i64 (by omega) (by omega)
      simp only [Prod.exists]
      simp [sb2S, spec_l09Box.l1, hi, hi', e5, c])
    (fun i hi hi' x c => by
      obtain ⟨v, w, x⟩ := x
      simp [sb2S, spec_l09Box.l1, hi, hi', c])
    (fun x => by
      obtain ⟨v, w, x⟩ := x
      simp only [Prod.exists]
      simp [sb2S, sb2E, spec_l09Box.l1])
  have hr2' := fun x => loopN_more (hr2 x) (show a.gone.length + 1 ≤ K by omega)
  simp only [c8, if_true] at hr'
  by_cases c9 : a.gone = b.gone
  · have he : a = b := box_ext c1 c2 c3 c4 c5 c8 c9
    subst he
    simp only [if_true] at hr2'
    simp [sbS, sbE, encBox] at hr'
    simp [sb2S, sb2E, encBox] at hr2'
    simp [exB, spec_l09Box.m, spec_l09Box.b, List.range_succ, encBox, eqL, eqT, hr', hr2']
  · have hne : ¬ a = b := fun q => c9 (by rw [q])
    simp only [c9, if_false] at hr2'
    simp [sbS, sbE, encBox, c1, c2, c3, c4, c5, c8] at hr'
    simp [sb2S, sb2E, encBox, c1, c2, c3, c4, c5, c8] at hr2'
    simp [exB, spec_l09Box.m, spec_l09Box.b, List.range_succ, encBox, c1, c2, c3, c4, c5, c7, c8, hne, eqL, eqT, hr', hr2']

def ebS (a b : List Box) (i : Nat) (x : Nat) : St := { t := [(1, .c (boxes b)), (2, .c (.fn 119 [])), (15, .c (boxes a)), (16, .c (I a.length)), (17, .c (I i))], o := [], n := x }
def ebE (a b : List Box) (x : Nat) : St := { t := [(1, .c (boxes b)), (2, .c (.fn 119 [])), (15, .c (boxes a)), (16, .c (I a.length)), (17, .c (I a.length)), (18, .c (.bool false))], o := [], n := x }
theorem slices_EqualFunc_boxes (h : slices_EqualFunc_impl_Box_impl_Box_impl_Box_impl_Box.k M) (h2 : impl_sameBox.k M) (a b : List Box) (ha : wBoxes a ≤ 1048576) :
    run M 118 [.c (boxes a), .c (boxes b), .c (.fn 119 [])] [] = some (.c (.bool (decide (a = b))), []) := by
  have hal : a.length ≤ 1048576 := by unfold wBoxes at ha; omega
  refine run_code (b := slices_EqualFunc_impl_Box_impl_Box_impl_Box_impl_Box.m) h ⟨a.length + 1, ?_⟩
  by_cases c4 : a.length = b.length
  rotate_left
  · have hne : ¬ a = b := fun q => c4 (by rw [q])
    have c4' : ¬ (a.length : Int) = b.length := by omega
    simp [exB, slices_EqualFunc_impl_Box_impl_Box_impl_Box_impl_Box.m, slices_EqualFunc_impl_Box_impl_Box_impl_Box_impl_Box.b, List.range_succ, c4, c4', hne]
  obtain ⟨g, hr⟩ := eq_loop a b c4 (f := exC (run M) (a.length + 1) slices_EqualFunc_impl_Box_impl_Box_impl_Box_impl_Box.l0) (ebS a b) 6 0 (ebE a b)
    (fun i hi hi' x c => by
      have e5 : IntKind.i64.wrap ((i : Int) + 1) = (i : Int) + 1 := wrap_i64 (by omega) (by omega)
      have hm := impl_sameBox.says h2 a[i] b[i] (Nat.le_trans (wBox_le (List.getElem_mem hi)) ha)
      rw [decide_eq_true c] at hm
      simp only [encBox] at hm
      simp [ebS, slices_EqualFunc_impl_Box_impl_Box_impl_Box_impl_Box.l0, hi, hi', e5, encBox, hm, setAt])
    (fun i hi hi' x c => by
      have hm := impl_sameBox.says h2 a[i] b[i] (Nat.le_trans (wBox_le (List.getElem_mem hi)) ha)
      rw [decide_eq_false c] at hm
      simp only [encBox] at hm
      simp [ebS, slices_EqualFunc_impl_Box_impl_Box_impl_Box_impl_Box.l0, hi, hi', encBox, hm, setAt])
    (fun x => by simp [ebS, ebE, slices_EqualFunc_impl_Box_impl_Box_impl_Box_impl_Box.l0])
  by_cases c5 : a = b
  · subst c5
    simp [ebS, ebE] at hr
    simp [exB, slices_EqualFunc_impl_Box_impl_Box_impl_Box_impl_Box.m, slices_EqualFunc_impl_Box_impl_Box_impl_Box_impl_Box.b, List.range_succ, hr]
  · simp [ebS, ebE, c5] at hr
    simp only [c4] at hr
    simp [exB, slices_EqualFunc_impl_Box_impl_Box_impl_Box_impl_Box.m, slices_EqualFunc_impl_Box_impl_Box_impl_Box_impl_Box.b, List.range_succ, hr, c4, c5]
def alike (a b : Store) : Bool := decide (a.boxes = b.boxes) && decide (a.gone = b.gone)
theorem impl_Alike.says (h : impl_Alike.k M) (a b : Store) (ha : wStore a ≤ 1048576) : run M 32 [.a (encStore a), .a (encStore b)] [] = some (.c (.bool (alike a b)), []) := by
  obtain ⟨h0, k1, k2, k3⟩ := h
  have h1 := slices_EqualFunc_boxes k1 k2 a.boxes b.boxes (by unfold wStore at ha; omega)
  have h2 := slices_Equal_int_int.says k3 a.gone b.gone (by unfold wStore at ha; omega)
  refine run_code (b := impl_Alike.m) h0 ⟨0, ?_⟩
  unfold alike
  by_cases c : a.boxes = b.boxes
  · simp only [c, decide_true] at h1
    simp [exB, impl_Alike.m, impl_Alike.b, List.range_succ, h1, h2, c]
  · simp only [c, decide_false] at h1
    simp [exB, impl_Alike.m, impl_Alike.b, List.range_succ, h1, c]
def saS (a b : Store) (i : Nat) (x : Nat × Nat × Nat) : St := { t := [(2, .c (.ptr 2 x.1 0 0)), (3, .c (.ptr 3 x.2.1 0 0)), (5, .c (I i))], o := [(2, ⟨x.1, 4, true, true, [encStore a]⟩), (3, ⟨x.2.1, 4, true, true, [encStore b]⟩)], n := x.2.2 }
def saE (a b : Store) (x : Nat × Nat × Nat) : St := { t := [(2, .c (.ptr 2 x.1 0 0)), (3, .c (.ptr 3 x.2.1 0 0)), (5, .c (I a.boxes.length)), (27, .c (.bool false))], o := [(2, ⟨x.1, 4, true, true, [encStore a]⟩), (3, ⟨x.2.1, 4, true, true, [encStore b]⟩)], n := x.2.2 }
def sa2S (a b : Store) (i : Nat) (x : Nat × Nat × Nat) : St := { t := [(2, .c (.ptr 2 x.1 0 0)), (3, .c (.ptr 3 x.2.1 0 0)), (6, .c (I i))], o := [(2, ⟨x.1, 4, true, true, [encStore a]⟩), (3, ⟨x.2.1, 4, true, true, [encStore b]⟩)], n := x.2.2 }
def sa2E (a b : Store) (x : Nat × Nat × Nat) : St := { t := [(2, .c (.ptr 2 x.1 0 0)), (3, .c (.ptr 3 x.2.1 0 0)), (6, .c (I a.gone.length)), (46, .c (.bool false))], o := [(2, ⟨x.1, 4, true, true, [encStore a]⟩), (3, ⟨x.2.1, 4, true, true, [encStore b]⟩)], n := x.2.2 }
theorem spec_Alike.says (h : spec_Alike.k M) (a b : Store) (ha : wStore a ≤ 1048576) : run M 31 [.a (encStore a), .a (encStore b)] [] = some (.c (.bool (alike a b)), []) := by
  obtain ⟨h0, k1⟩ := h
  refine run_code (b := spec_Alike.m) h0 ⟨a.boxes.length + a.gone.length + 1, ?_⟩
  unfold alike
  by_cases c6 : a.boxes.length = b.boxes.length
  rotate_left
  · have hne : ¬ a.boxes = b.boxes := fun q => c6 (by rw [q])
    have c6' : ¬ (a.boxes.length : Int) = b.boxes.length := by omega
    simp [exB, spec_Alike.m, spec_Alike.b, List.range_succ, c6, c6', hne]
  by_cases c7 : a.gone.length = b.gone.length
  rotate_left
  · have hne : ¬ a.gone = b.gone := fun q => c7 (by rw [q])
    have c7' : ¬ (a.gone.length : Int) = b.gone.length := by omega
    simp [exB, spec_Alike.m, spec_Alike.b, List.range_succ, c6, c7, c7', hne]
  obtain ⟨K, hK⟩ : ∃ K, K = a.boxes.length + a.gone.length + 1 := ⟨_, rfl⟩
  rw [← hK]
  have hbw : wBoxes a.boxes ≤ 1048576 := by unfold wStore at ha; omega
  have hbl : a.boxes.length ≤ 1048576 := by unfold wBoxes at hbw; omega
  have hgl : a.gone.length ≤ 1048576 := by unfold wStore at ha; omega
  obtain ⟨g, hr⟩ := eq_loop a.boxes b.boxes c6 (f := exC (run M) K spec_Alike.l0) (saS a b) 4 0 (saE a b)
    (fun i hi hi' x c => by
      obtain ⟨v, w, x⟩ := x
      have e5 : IntKind.i64.wrap ((i : Int) + 1) = (i : Int) + 1 := wrap_i64 (by omega) (by omega)
      have hm := spec_l09Box.says k1 a.boxes[i] b.boxes[i] (Nat.le_trans (wBox_le (List.getElem_mem hi)) hbw)
      rw [decide_eq_true c] at hm
      simp only [encBox] at hm
      simp only [Prod.exists]
      simp [saS, spec_Alike.l0, hi, hi', e5, encBox, hm])
    (fun i hi hi' x c => by
      obtain ⟨v, w, x⟩ := x
      have hm := spec_l09Box.says k1 a.boxes[i] b.boxes[i] (Nat.le_trans (wBox_le (List.getElem_mem hi)) hbw)
      rw [decide_eq_false c] at hm
      simp only [encBox] at hm
      simp [saS, spec_Alike.l0, hi, hi', encBox, hm])
    (fun x => by
      obtain ⟨v, w, x⟩ := x
      simp only [Prod.exists]
      simp [saS, saE, spec_Alike.l0])
  have hr' := fun x => loopN_more (hr x) (show a.boxes.length + 1 ≤ K by omega)
  by_cases c8 : a.boxes = b.boxes
  rotate_left
  · simp only [c8, if_false] at hr'
    simp [saS, encStore] at hr'
    simp [exB, spec_Alike.m, spec_Alike.b, List.range_succ, encStore, c6, c7, c8, hr']
  obtain ⟨g2, hr2⟩ := eq_loop a.gone b.gone c7 (f := exC (run M) K spec_Alike.l1) (sa2S a b) 4 2 (sa2E a b)
    (fun i hi hi' x c => by
      obtain ⟨v, w, x⟩ := x
      have e5 : IntKind.i64.wrap ((i : Int) + 1) = (i : Int) + 1 := wrap_i64 (by omega) (by omega)
      simp only [Prod.exists]
      simp [sa2S, spec_Alike.l1, hi, hi', e5, c])
    (fun i hi hi' x c => by
      obtain ⟨v, w, x⟩ := x
      simp [sa2S, spec_Alike.l1, hi, hi', c])
    (fun x => by
      obtain ⟨v, w, x⟩ := x
      simp only [Prod.exists]
      simp [sa2S, sa2E, spec_Alike.l1])
  have hr2' := fun x => loopN_more (hr2 x) (show a.gone.length + 1 ≤ K by omega)
  simp only [c8, if_true] at hr'
  by_cases c9 : a.gone = b.gone
  · simp only [c9, if_true] at hr2'
    simp [saS, saE, encStore, c8, c9] at hr'
    simp [sa2S, sa2E, encStore, c8, c9] at hr2'
    simp [exB, spec_Alike.m, spec_Alike.b, List.range_succ, encStore, c8, c9, hr', hr2']
  · simp only [c9, if_false] at hr2'
    simp [saS, saE, encStore, c8] at hr'
    simp [sa2S, sa2E, encStore, c8] at hr2'
    simp [exB, spec_Alike.m, spec_Alike.b, List.range_succ, encStore, c7, c8, c9, hr', hr2']
theorem laws_FnExactAlike.says (h : laws_FnExactAlike.k M) (a b : Store) (ha : StoreFits a) (hb : StoreFits b) : run M 367 [.a (encStore a), .a (encStore b)] [] = some (.c (.bool true), []) := by
  obtain ⟨h0, k1, k2, k3, k4, k5⟩ := h
  have h1 := laws_szStore.says k1 a ha 1048576 (by omega)
  refine run_code (b := laws_FnExactAlike.m) h0 ⟨0, ?_⟩
  by_cases c : 1048576 < wStore a
  · rw [if_pos c] at h1
    simp only [Int.cast_ofNat_Int] at h1
    simp [exB, laws_FnExactAlike.m, laws_FnExactAlike.b, List.range_succ, h1]
  rw [if_neg c] at h1
  simp only [Int.cast_ofNat_Int] at h1
  have hw : wStore a ≤ 1048576 := by omega
  have e1 : ¬ (1048576 : Int) - wStore a < 0 := by omega
  have h1' := laws_szStore.says k1 b hb (1048576 - wStore a) (by omega)
  rw [show ((1048576 - wStore a : Nat) : Int) = 1048576 - (wStore a : Int) by omega] at h1'
  by_cases c2 : 1048576 - wStore a < wStore b
  · rw [if_pos c2] at h1'
    simp only [encStore] at h1 h1'
    simp [exB, laws_FnExactAlike.m, laws_FnExactAlike.b, List.range_succ, h1, h1', e1]
  rw [if_neg c2] at h1'
  have hw2 : wStore b ≤ 1048576 := by omega
  have e2 : ¬ (1048576 : Int) - wStore a - wStore b < 0 := by omega
  have h2 := laws_toStore.says k2 a hw
  have h2' := laws_toStore.says k2 b hw2
  have h3 := spec_Alike.says k3 a b hw
  have h4 := impl_Alike.says k4 a b hw
  have h5 := laws_eqStore.says k5 a hw
  have h5' := laws_eqStore.says k5 b hw2
  simp only [encStore, encStoreO] at h1 h1' h2 h2' h3 h4 h5 h5'
  simp (maxSteps := 1000000) [exB, laws_FnExactAlike.m, laws_FnExactAlike.b, List.range_succ, h1, h1', h2, h2', h3, h4, h5, h5', e1, e2, setAt, List.take_of_length_le]
theorem laws_FnExactAlike.row (h : laws_FnExactAlike.k M) {as : List V} (ha : HasVs [.struct ctStore, .struct ctStore] as) : run M 367 as [] = some (.c (.bool true), []) := by
  cases ha with | cons h0 ha =>
  cases ha with | cons h1 ha =>
  cases ha
  cases h0 with | struct h0 =>
  cases h1 with | struct h1 =>
  obtain ⟨a, rfl, ha⟩ := has_store h0
  obtain ⟨b, rfl, hb⟩ := has_store h1
  exact laws_FnExactAlike.says h a b ha hb
end Mx
