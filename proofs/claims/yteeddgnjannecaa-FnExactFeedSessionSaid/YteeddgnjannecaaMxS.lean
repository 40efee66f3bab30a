/-
  Small codes: laws.eqIntS, laws.markIntS, laws.heldIntS, laws.szIntS, laws.toIntS.
-/
import Derived.Test.YteeddgnjannecaaMxB
namespace Mx
open Go
def laws_eqIntS.l0 : C := .seq (.seq (.reg [⟨some 11, .mv (.t 5), none⟩,
    ⟨some 12, .mv (.t 0), none⟩,
    ⟨some 13, .len (.t 12), none⟩,
    ⟨some 14, .bin .lss (.t 11) (.t 13), none⟩] [0, 1, 5, 14] [])
  (.cond (.t 14) (.skip) (.exit 0)))
  (.seq (.block 1 (.seq (.regd [⟨some 17, .mv (.t 0), none⟩,
    ⟨some 18, .mv (.t 5), none⟩,
    ⟨some 19, .iaddr 1 (.t 17) (.t 18), none⟩,
    ⟨some 20, .load false 1 (.t 19), none⟩,
    ⟨some 21, .mv (.t 1), none⟩,
    ⟨some 22, .mv (.t 5), none⟩,
    ⟨some 23, .iaddr 1 (.t 21) (.t 22), none⟩,
    ⟨some 24, .load false 1 (.t 23), none⟩,
    ⟨some 25, .bin .neq (.t 20) (.t 24), none⟩] [[], [], [0, 1], [0, 1, 2], [], [], [4, 5], [4, 5, 6], [0, 1, 2, 3, 4, 5, 6, 7]] [0, 1, 5, 25] [])
  (.cond (.t 25) (.seq (.reg [⟨some 4, .mv (.k (.bool false)), none⟩] [4] [])
  (.ret)) (.skip))))
  (.reg [⟨some 15, .mv (.t 5), none⟩,
    ⟨some 16, .bin .add (.t 15) (.k (.int .i64 1)), none⟩,
    ⟨some 5, .mv (.t 16), none⟩] [0, 1, 5] []))
def laws_eqIntS.b : C := .seq (.reg [⟨some 4, .mv (.k (.bool false)), none⟩] [0, 1] [])
  (.seq (.seq (.reg [⟨some 6, .mv (.t 0), none⟩,
    ⟨some 7, .len (.t 6), none⟩,
    ⟨some 8, .mv (.t 1), none⟩,
    ⟨some 9, .len (.t 8), none⟩,
    ⟨some 10, .bin .neq (.t 7) (.t 9), none⟩] [0, 1, 10] [])
  (.cond (.t 10) (.seq (.reg [⟨some 4, .mv (.k (.bool false)), none⟩] [4] [])
  (.ret)) (.skip)))
  (.seq (.seq (.reg [⟨some 5, .mv (.k (.int .i64 0)), none⟩] [0, 1, 5] [])
  (.block 0 (.loop laws_eqIntS.l0)))
  (.seq (.reg [⟨some 4, .mv (.k (.bool true)), none⟩] [4] [])
  (.ret))))
def laws_eqIntS.m : Fn := { np := 2, body := laws_eqIntS.b, res := [.tmp 4] }
def laws_eqIntS.k (M : Nat → Option Body) : Prop := M 45 = some (.code laws_eqIntS.m)
def laws_markIntS.l0 : C := .seq (.seq (.reg [⟨some 6, .mv (.t 5), none⟩,
    ⟨some 7, .mv (.t 0), none⟩,
    ⟨some 8, .len (.t 7), none⟩,
    ⟨some 9, .bin .lss (.t 6) (.t 8), none⟩] [0, 1, 5, 9] [0])
  (.cond (.t 9) (.skip) (.exit 0)))
  (.seq (.block 1 (.seq (.reg [⟨some 12, .mv (.t 0), none⟩,
    ⟨some 13, .mv (.t 5), none⟩,
    ⟨some 14, .mv (.t 1), none⟩,
    ⟨some 15, .iaddr 1 (.t 12) (.t 13), none⟩,
    ⟨none, .store 1 (.t 15) (.t 14), none⟩] [0, 1, 5] [0])
  (.reg [⟨some 16, .mv (.t 1), none⟩,
    ⟨some 17, .bin .add (.t 16) (.k (.int .i64 1)), none⟩,
    ⟨some 1, .mv (.t 17), none⟩] [0, 1, 5] [0])))
  (.reg [⟨some 10, .mv (.t 5), none⟩,
    ⟨some 11, .bin .add (.t 10) (.k (.int .i64 1)), none⟩,
    ⟨some 5, .mv (.t 11), none⟩] [0, 1, 5] [0]))
def laws_markIntS.b : C := .seq (.reg [⟨some 4, .mv (.k (.int .i64 0)), none⟩] [0, 1] [0])
  (.seq (.seq (.reg [⟨some 5, .mv (.k (.int .i64 0)), none⟩] [0, 1, 5] [0])
  (.block 0 (.loop laws_markIntS.l0)))
  (.seq (.reg [⟨some 18, .mv (.t 1), none⟩,
    ⟨some 4, .mv (.t 18), none⟩] [4] [0])
  (.ret)))
def laws_markIntS.m : Fn := { np := 2, body := laws_markIntS.b, res := [.tmp 4] }
def laws_markIntS.k (M : Nat → Option Body) : Prop := M 46 = some (.code laws_markIntS.m)
def laws_heldIntS.l0 : C := .seq (.seq (.reg [⟨some 6, .mv (.t 5), none⟩,
    ⟨some 7, .mv (.t 0), none⟩,
    ⟨some 8, .len (.t 7), none⟩,
    ⟨some 9, .bin .lss (.t 6) (.t 8), none⟩] [0, 1, 5, 9] [])
  (.cond (.t 9) (.skip) (.exit 0)))
  (.seq (.block 1 (.seq (.seq (.reg [⟨some 12, .mv (.t 0), none⟩,
    ⟨some 13, .mv (.t 5), none⟩,
    ⟨some 14, .iaddr 1 (.t 12) (.t 13), none⟩,
    ⟨some 15, .load false 1 (.t 14), none⟩,
    ⟨some 16, .mv (.t 1), none⟩,
    ⟨some 17, .bin .neq (.t 15) (.t 16), none⟩] [0, 1, 5, 17] [])
  (.cond (.t 17) (.seq (.reg [⟨some 4, .mv (.k (.int .i64 (-1))), none⟩] [4] [])
  (.ret)) (.skip)))
  (.reg [⟨some 18, .mv (.t 1), none⟩,
    ⟨some 19, .bin .add (.t 18) (.k (.int .i64 1)), none⟩,
    ⟨some 1, .mv (.t 19), none⟩] [0, 1, 5] [])))
  (.reg [⟨some 10, .mv (.t 5), none⟩,
    ⟨some 11, .bin .add (.t 10) (.k (.int .i64 1)), none⟩,
    ⟨some 5, .mv (.t 11), none⟩] [0, 1, 5] []))
def laws_heldIntS.b : C := .seq (.reg [⟨some 4, .mv (.k (.int .i64 0)), none⟩] [0, 1] [])
  (.seq (.seq (.reg [⟨some 5, .mv (.k (.int .i64 0)), none⟩] [0, 1, 5] [])
  (.block 0 (.loop laws_heldIntS.l0)))
  (.seq (.reg [⟨some 20, .mv (.t 1), none⟩,
    ⟨some 4, .mv (.t 20), none⟩] [4] [])
  (.ret)))
def laws_heldIntS.m : Fn := { np := 2, body := laws_heldIntS.b, res := [.tmp 4] }
def laws_heldIntS.k (M : Nat → Option Body) : Prop := M 47 = some (.code laws_heldIntS.m)
def laws_szIntS.b : C := .seq (.reg [⟨some 4, .mv (.k (.int .i64 0)), none⟩] [0, 1] [])
  (.seq (.reg [⟨some 5, .mv (.t 1), none⟩,
    ⟨some 6, .mv (.t 0), none⟩,
    ⟨some 7, .len (.t 6), none⟩,
    ⟨some 8, .bin .sub (.t 5) (.t 7), none⟩,
    ⟨some 1, .mv (.t 8), none⟩] [1] [])
  (.seq (.seq (.reg [⟨some 9, .mv (.t 1), none⟩,
    ⟨some 10, .bin .lss (.t 9) (.k (.int .i64 0)), none⟩] [1, 10] [])
  (.cond (.t 10) (.seq (.reg [⟨some 4, .mv (.k (.int .i64 (-1))), none⟩] [4] [])
  (.ret)) (.skip)))
  (.seq (.reg [⟨some 11, .mv (.t 1), none⟩,
    ⟨some 4, .mv (.t 11), none⟩] [4] [])
  (.ret))))
def laws_szIntS.m : Fn := { np := 2, body := laws_szIntS.b, res := [.tmp 4] }
def laws_szIntS.k (M : Nat → Option Body) : Prop := M 108 = some (.code laws_szIntS.m)
def laws_toIntS.l0 : C := .seq (.seq (.reg [⟨some 8, .mv (.t 4), none⟩,
    ⟨some 9, .mv (.t 0), none⟩,
    ⟨some 10, .len (.t 9), none⟩,
    ⟨some 11, .bin .lss (.t 8) (.t 10), none⟩] [0, 3, 4, 11] [7])
  (.cond (.t 11) (.skip) (.exit 0)))
  (.seq (.block 1 (.reg [⟨some 14, .mv (.t 3), none⟩,
    ⟨some 15, .mv (.t 4), none⟩,
    ⟨some 16, .mv (.t 0), none⟩,
    ⟨some 17, .mv (.t 4), none⟩,
    ⟨some 18, .iaddr 1 (.t 16) (.t 17), none⟩,
    ⟨some 19, .load false 1 (.t 18), none⟩,
    ⟨some 20, .iaddr 1 (.t 14) (.t 15), none⟩,
    ⟨none, .store 1 (.t 20) (.t 19), none⟩] [0, 3, 4] [7]))
  (.reg [⟨some 12, .mv (.t 4), none⟩,
    ⟨some 13, .bin .add (.t 12) (.k (.int .i64 1)), none⟩,
    ⟨some 4, .mv (.t 13), none⟩] [0, 3, 4] [7]))
def laws_toIntS.b : C := .seq (.reg [⟨some 2, .nil 1, none⟩] [0] [])
  (.seq (.reg [⟨some 5, .mv (.t 0), none⟩,
    ⟨some 6, .len (.t 5), none⟩,
    ⟨some 7, .mks 1 8 [.int .i64 0] (.t 6), none⟩,
    ⟨some 3, .mv (.t 7), none⟩] [0, 3] [7])
  (.seq (.seq (.reg [⟨some 4, .mv (.k (.int .i64 0)), none⟩] [0, 3, 4] [7])
  (.block 0 (.loop laws_toIntS.l0)))
  (.seq (.reg [⟨some 21, .mv (.t 3), none⟩,
    ⟨some 2, .mv (.t 21), none⟩] [2] [2, 7])
  (.ret))))
def laws_toIntS.m : Fn := { np := 1, body := laws_toIntS.b, res := [.tmp 2] }
def laws_toIntS.k (M : Nat → Option Body) : Prop := M 42 = some (.code laws_toIntS.m)
end Mx

/-
  The laws' plumbing at any type: slices laid over and held against each other, element by element.
-/
namespace Mx
open Go
variable {M : Nat → Option Body}

/-- a cell that all may read -/
def closedT : T → Bool
  | .int .. => true
  | .bool _ => true
  | .str _ => true
  | .sl own _ _ => !own
  | _ => false
/-- as the caller sees it -/
def frz : T → T
  | .sl _ sz rows => .sl false sz rows
  | t => t
def resT : T → Bool
  | .int .. => true
  | .bool _ => true
  | .str _ => true
  | .sl .. => true
  | _ => false
theorem im_closed {o : List (Nat × Ob)} {t : T} (h : closedT t = true) : im o t = some t ∧ wr3 o t = [] ∧ cl o t = some t := by
  cases t <;> simp [closedT] at h <;> simp [im, im1, im0, wr3, wr2, wr, cl, h]
theorem im_closedL {o : List (Nat × Ob)} {r : List T} (h : r.all closedT = true) : mapO (im o) r = some r ∧ r.flatMap (wr3 o) = [] ∧ mapO (cl o) r = some r := by
  induction r with
  | nil => exact ⟨rfl, rfl, rfl⟩
  | cons t r ih =>
    simp only [List.all_cons, Bool.and_eq_true] at h
    obtain ⟨h1, h2, h3⟩ := ih h.2
    obtain ⟨k1, k2, k3⟩ := im_closed (o := o) h.1
    simp only [mapO, h1, h3, k1, k3, k2, h2, List.flatMap_cons, List.append_nil, and_self]
theorem back_frz {n : Nat} {l : List (Nat × Nat × Nat)} {r : List T} (h : r.all resT = true) (q : Nat) : backL n l [] q r = some (r.map frz, []) := by
  induction r generalizing q with
  | nil => rfl
  | cons t r ih =>
    simp only [List.all_cons, Bool.and_eq_true] at h
    have h1 := ih h.2 (q + 1)
    cases t <;> simp [resT] at h <;> simp [backL, backT, get, h1, frz]
theorem frz_closed {t : T} (h : resT t = true) : closedT (frz t) = true := by
  cases t <;> simp [resT] at h <;> simp [frz, closedT]

/-- a call with one row, back with one row -/
theorem call_row {n : Nat} {o : List (Nat × Ob)} {f : Nat} {r r' : List T} (hr : r.all closedT = true) (hr' : r'.all resT = true) (h : run M f [.a r] [] = some (.a r', [])) :
    doCall (run M) n o f [.a r] [] [] = some (.a (r'.map frz), []) := by
  obtain ⟨h1, h2, _⟩ := im_closedL (o := o) hr
  simp [doCall, args, lendsC, V.im, V.wr, h1, h2, h, lentBack, back, backV, back_frz hr']
theorem call_rows2 {n : Nat} {o : List (Nat × Ob)} {f : Nat} {r s : List T} {b : Bool} (hr : r.all closedT = true) (hs : s.all closedT = true) (h : run M f [.a r, .a s] [] = some (.c (.bool b), [])) :
    doCall (run M) n o f [.a r, .a s] [] [] = some (.c (.bool b), []) := by
  obtain ⟨h1, h2, _⟩ := im_closedL (o := o) hr
  obtain ⟨k1, k2, _⟩ := im_closedL (o := o) hs
  simp [doCall, args, lendsC, V.im, V.wr, h1, h2, k1, k2, h, lentBack, back, backV, backT]

theorem set_row {α : Type} (a : List α) (x : α) (b : List α) (n : Nat) (h : a.length = n) (y : α) : (a ++ x :: b).set n y = a ++ y :: b := by
  subst h; simp
theorem get_row {α : Type} (a : List α) (x : α) (b : List α) (n : Nat) (h : a.length = n) : (a ++ x :: b)[n]? = some x := by
  subst h; simp

/-! ## out := make([]X, len(a)); out[i] = toX(a[i]) -/
theorem keep_any (ks : List Nat) : keep ks ([] : List (Nat × Ob)) = [] := by
  induction ks with
  | nil => rfl
  | cons k ks ih => simp [keep_cons, get, ih]
def toSl (n f : Nat) : C := .seq (.seq (.reg [⟨some 8, .mv (.t 4), none⟩,
    ⟨some 9, .mv (.t 0), none⟩,
    ⟨some 10, .len (.t 9), none⟩,
    ⟨some 11, .bin .lss (.t 8) (.t 10), none⟩] [0, 3, 4, 11] [7])
  (.cond (.t 11) (.skip) (.exit 0)))
  (.seq (.block 1 (.reg [⟨some 14, .mv (.t 3), none⟩,
    ⟨some 15, .mv (.t 4), none⟩,
    ⟨some 16, .mv (.t 0), none⟩,
    ⟨some 17, .mv (.t 4), none⟩,
    ⟨some 18, .iaddr n (.t 16) (.t 17), none⟩,
    ⟨some 19, .load true n (.t 18), none⟩,
    ⟨some 20, .call f [.t 19] [] [], none⟩,
    ⟨some 21, .iaddr n (.t 14) (.t 15), none⟩,
    ⟨none, .store n (.t 21) (.t 20), none⟩] [0, 3, 4] [7]))
  (.reg [⟨some 12, .mv (.t 4), none⟩,
    ⟨some 13, .bin .add (.t 12) (.k (.int .i64 1)), none⟩,
    ⟨some 4, .mv (.t 13), none⟩] [0, 3, 4] [7]))
def toSb (n by' : Nat) (z : List T) (f : Nat) : C := .seq (.reg [⟨some 2, .nil n, none⟩] [0] [])
  (.seq (.reg [⟨some 5, .mv (.t 0), none⟩,
    ⟨some 6, .len (.t 5), none⟩,
    ⟨some 7, .mks n by' z (.t 6), none⟩,
    ⟨some 3, .mv (.t 7), none⟩] [0, 3] [7])
  (.seq (.seq (.reg [⟨some 4, .mv (.k (.int .i64 0)), none⟩] [0, 3, 4] [7])
  (.block 0 (.loop (toSl n f))))
  (.seq (.reg [⟨some 22, .mv (.t 3), none⟩,
    ⟨some 2, .mv (.t 22), none⟩] [2] [2, 7])
  (.ret))))
def toSm (n by' : Nat) (z : List T) (f : Nat) : Fn := { np := 1, body := toSb n by' z f, res := [.tmp 2] }
def toSst (n : Nat) (z : List T) (rows : List (List T)) (i : Nat) (x : Nat × Nat) : St :=
  { t := [(0, .c (.sl false n rows)), (3, .c (.row 7 x.1 0 rows.length)), (4, .c (I i))], o := [(7, ⟨x.1, n, true, false, rows.take i ++ List.replicate (rows.length - i) z⟩)], n := x.2 }
theorem toS_says {F n by' : Nat} {z : List T} {f : Nat} (h : M F = some (.code (toSm n by' z f))) (hz : z.length = n) {rows : List (List T)} (hl : rows.length ≤ 1048576) (hby : by' ≤ 4096) 
    (he : ∀ r ∈ rows, r.length = n ∧ r.all closedT = true ∧ ∃ r', run M f [.a r] [] = some (.a r', []) ∧ r'.all resT = true ∧ r'.map frz = r) :
    run M F [.c (.sl false n rows)] [] = some (.c (.sl true n rows), []) := by
  refine run_code (b := toSm n by' z f) h ⟨rows.length + 1, ?_⟩
  obtain ⟨g, hr⟩ := loop_all (f := exC (run M) (rows.length + 1) (toSl n f)) (toSst n z rows) (fun i => i ≤ rows.length) (fun i => rows.length - i) (fun _ => ())
    (fun _ (m : Nat × Nat) => (.exit 0, { t := [(0, .c (.sl false n rows)), (3, .c (.row 7 m.1 0 rows.length)), (4, .c (I rows.length)), (11, .c (.bool false))], o := [(7, ⟨m.1, n, true, false, rows⟩)], n := m.2 }))
    (by
      rintro i ⟨v, x⟩ hi
      by_cases hlt : i < rows.length
      · have e5 : IntKind.i64.wrap ((i : Int) + 1) = (i : Int) + 1 := wrap_i64 (by omega) (by omega)
        obtain ⟨k1, k2, r', k3, k4, k5⟩ := he rows[i] (List.getElem_mem hlt)
        have hc := fun nn => call_row (n := nn) (o := [(7, (⟨v, n, true, false, rows.take i ++ List.replicate (rows.length - i) z⟩ : Ob))]) k2 k4 k3
        rw [k5] at hc
        have hti : (rows.take i).length = i := by simp; omega
        have hrep : List.replicate (rows.length - i) z = z :: List.replicate (rows.length - (i + 1)) z := by
          rw [show rows.length - i = (rows.length - (i + 1)) + 1 by omega, List.replicate_succ]
        have h3 : (rows.take i ++ List.replicate (rows.length - i) z)[i]? = some z := by
          rw [hrep]; exact get_row _ _ _ _ hti
        have h3' : ∀ h, (rows.take i ++ List.replicate (rows.length - i) z)[i]'h = z := fun h => by rw [List.getElem?_eq_getElem h] at h3; exact Option.some.inj h3
        have h4 : (rows.take i ++ List.replicate (rows.length - i) z).set i rows[i] = rows.take (i + 1) ++ List.replicate (rows.length - (i + 1)) z := by
          rw [hrep, set_row _ _ _ _ hti, List.take_succ_eq_append_getElem hlt, List.append_assoc]; rfl
        have h5 : i < (rows.take i ++ List.replicate (rows.length - i) z).length := by simp; omega
        have h6 : (List.take n rows[i]) = rows[i] := List.take_of_length_le (by omega)
        have h7 : setAt z 0 rows[i] = rows[i] := by
          simp only [setAt, List.take_zero, List.nil_append, Nat.zero_add]
          rw [List.drop_eq_nil_of_le (by omega), List.append_nil]
        have h8 := (im_closedL (o := [(7, (⟨v, n, true, false, rows.take i ++ List.replicate (rows.length - i) z⟩ : Ob))]) k2).2.2
        have h9 : n ≤ z.length := by omega
        obtain ⟨y, hy⟩ : ∃ y, exC (run M) (rows.length + 1) (toSl n f) (toSst n z rows i (v, x)) = some (.normal, toSst n z rows (i + 1) y) := by
          simp only [Prod.exists]
          simp [toSst, toSl, hlt, e5, k1, hc, h3, h3', h4, h5, h6, h7, h8, h9, -doCall, -setAt]
        exact .inl ⟨i + 1, y, hy, hlt, by omega, rfl⟩
      · have : i = rows.length := by omega
        subst this
        exact .inr ⟨(v, x + 64), by simp [toSst, toSl], by simp⟩)
    (rows.length + 1) 0 (Nat.zero_le _) (by omega)
  have c1 : rows.length ≤ 4294967296 := by omega
  have c2 : by' * rows.length ≤ 140737488355328 := Nat.le_trans (Nat.mul_le_mul hby hl) (by decide)
  simp [toSst] at hr
  simp [exB, toSm, toSb, List.range_succ, hr, c1, c2, List.take_of_length_le]

/-! ## the same, with elements of one cell -/
def toS1l : C := .seq (.seq (.reg [⟨some 8, .mv (.t 4), none⟩,
    ⟨some 9, .mv (.t 0), none⟩,
    ⟨some 10, .len (.t 9), none⟩,
    ⟨some 11, .bin .lss (.t 8) (.t 10), none⟩] [0, 3, 4, 11] [7])
  (.cond (.t 11) (.skip) (.exit 0)))
  (.seq (.block 1 (.reg [⟨some 14, .mv (.t 3), none⟩,
    ⟨some 15, .mv (.t 4), none⟩,
    ⟨some 16, .mv (.t 0), none⟩,
    ⟨some 17, .mv (.t 4), none⟩,
    ⟨some 18, .iaddr 1 (.t 16) (.t 17), none⟩,
    ⟨some 19, .load false 1 (.t 18), none⟩,
    ⟨some 20, .iaddr 1 (.t 14) (.t 15), none⟩,
    ⟨none, .store 1 (.t 20) (.t 19), none⟩] [0, 3, 4] [7]))
  (.reg [⟨some 12, .mv (.t 4), none⟩,
    ⟨some 13, .bin .add (.t 12) (.k (.int .i64 1)), none⟩,
    ⟨some 4, .mv (.t 13), none⟩] [0, 3, 4] [7]))
def toS1b (by' : Nat) (z : T) : C := .seq (.reg [⟨some 2, .nil 1, none⟩] [0] [])
  (.seq (.reg [⟨some 5, .mv (.t 0), none⟩,
    ⟨some 6, .len (.t 5), none⟩,
    ⟨some 7, .mks 1 by' [z] (.t 6), none⟩,
    ⟨some 3, .mv (.t 7), none⟩] [0, 3] [7])
  (.seq (.seq (.reg [⟨some 4, .mv (.k (.int .i64 0)), none⟩] [0, 3, 4] [7])
  (.block 0 (.loop toS1l)))
  (.seq (.reg [⟨some 21, .mv (.t 3), none⟩,
    ⟨some 2, .mv (.t 21), none⟩] [2] [2, 7])
  (.ret))))
def toS1m (by' : Nat) (z : T) : Fn := { np := 1, body := toS1b by' z, res := [.tmp 2] }
theorem toS1_says {F by' : Nat} {z : T} (h : M F = some (.code (toS1m by' z))) {l : List T} (hl : l.length ≤ 1048576) (hby : by' ≤ 4096) (he : ∀ t ∈ l, closedT t = true) :
    run M F [.c (.sl false 1 (l.map fun t => [t]))] [] = some (.c (.sl true 1 (l.map fun t => [t])), []) := by
  refine run_code (b := toS1m by' z) h ⟨l.length + 1, ?_⟩
  obtain ⟨rows, hrows⟩ : ∃ rows, rows = l.map fun t => [t] := ⟨_, rfl⟩
  have hlen : rows.length = l.length := by rw [hrows]; simp
  rw [← hrows]
  obtain ⟨g, hr⟩ := loop_all (f := exC (run M) (l.length + 1) toS1l) (toSst 1 [z] rows) (fun i => i ≤ rows.length) (fun i => rows.length - i) (fun _ => ())
    (fun _ (m : Nat × Nat) => (.exit 0, { t := [(0, .c (.sl false 1 rows)), (3, .c (.row 7 m.1 0 rows.length)), (4, .c (I rows.length)), (11, .c (.bool false))], o := [(7, ⟨m.1, 1, true, false, rows⟩)], n := m.2 }))
    (by
      rintro i ⟨v, x⟩ hi
      by_cases hlt : i < rows.length
      · have e5 : IntKind.i64.wrap ((i : Int) + 1) = (i : Int) + 1 := wrap_i64 (by omega) (by omega)
        have hlt' : i < l.length := by omega
        have k0 : rows[i] = [l[i]] := by simp [hrows]
        have h8 := (im_closed (o := [(7, (⟨v, 1, true, false, rows.take i ++ List.replicate (rows.length - i) [z]⟩ : Ob))]) (he l[i] (List.getElem_mem hlt'))).2.2
        have hti : (rows.take i).length = i := by simp; omega
        have hrep : List.replicate (rows.length - i) [z] = [z] :: List.replicate (rows.length - (i + 1)) [z] := by
          rw [show rows.length - i = (rows.length - (i + 1)) + 1 by omega, List.replicate_succ]
        have h3 : (rows.take i ++ List.replicate (rows.length - i) [z])[i]? = some [z] := by
          rw [hrep]; exact get_row _ _ _ _ hti
        have h3' : ∀ h, (rows.take i ++ List.replicate (rows.length - i) [z])[i]'h = [z] := fun h => by rw [List.getElem?_eq_getElem h] at h3; exact Option.some.inj h3
        have h4 : (rows.take i ++ List.replicate (rows.length - i) [z]).set i [l[i]] = rows.take (i + 1) ++ List.replicate (rows.length - (i + 1)) [z] := by
          rw [hrep, set_row _ _ _ _ hti, List.take_succ_eq_append_getElem hlt, List.append_assoc, k0]; rfl
        have h5 : i < (rows.take i ++ List.replicate (rows.length - i) [z]).length := by simp; omega
        obtain ⟨y, hy⟩ : ∃ y, exC (run M) (l.length + 1) toS1l (toSst 1 [z] rows i (v, x)) = some (.normal, toSst 1 [z] rows (i + 1) y) := by
          simp only [Prod.exists]
          simp [toSst, toS1l, hlt, e5, k0, h3, h3', h4, h5, h8, setAt, -cl]
        exact .inl ⟨i + 1, y, hy, hlt, by omega, rfl⟩
      · have : i = rows.length := by omega
        subst this
        exact .inr ⟨(v, x + 64), by simp [toSst, toS1l], by simp⟩)
    (l.length + 1) 0 (Nat.zero_le _) (by omega)
  have c1 : rows.length ≤ 4294967296 := by omega
  have c2 : by' * rows.length ≤ 140737488355328 := Nat.le_trans (Nat.mul_le_mul hby (by omega : rows.length ≤ 1048576)) (by decide)
  simp [toSst] at hr
  simp [exB, toS1m, toS1b, List.range_succ, hr, c1, c2, List.take_of_length_le]

/-! ## one by one the same -/
def eqSl (n f : Nat) : C := .seq (.seq (.reg [⟨some 11, .mv (.t 5), none⟩,
    ⟨some 12, .mv (.t 0), none⟩,
    ⟨some 13, .len (.t 12), none⟩,
    ⟨some 14, .bin .lss (.t 11) (.t 13), none⟩] [0, 1, 5, 14] [])
  (.cond (.t 14) (.skip) (.exit 0)))
  (.seq (.block 1 (.seq (.regd [⟨some 17, .mv (.t 0), none⟩,
    ⟨some 18, .mv (.t 5), none⟩,
    ⟨some 19, .iaddr n (.t 17) (.t 18), none⟩,
    ⟨some 20, .load true n (.t 19), none⟩,
    ⟨some 21, .mv (.t 1), none⟩,
    ⟨some 22, .mv (.t 5), none⟩,
    ⟨some 23, .iaddr n (.t 21) (.t 22), none⟩,
    ⟨some 24, .load true n (.t 23), none⟩,
    ⟨some 25, .call f [.t 20, .t 24] [] [], none⟩,
    ⟨some 26, .not (.t 25), none⟩] [[], [], [0, 1], [0, 1, 2], [], [], [4, 5], [4, 5, 6], [0, 1, 2, 3, 4, 5, 6, 7], [0, 1, 2, 3, 4, 5, 6, 7, 8]] [0, 1, 5, 26] [])
  (.cond (.t 26) (.seq (.reg [⟨some 4, .mv (.k (.bool false)), none⟩] [4] [])
  (.ret)) (.skip))))
  (.reg [⟨some 15, .mv (.t 5), none⟩,
    ⟨some 16, .bin .add (.t 15) (.k (.int .i64 1)), none⟩,
    ⟨some 5, .mv (.t 16), none⟩] [0, 1, 5] []))
def eqSb (n f : Nat) : C := .seq (.reg [⟨some 4, .mv (.k (.bool false)), none⟩] [0, 1] [])
  (.seq (.seq (.reg [⟨some 6, .mv (.t 0), none⟩,
    ⟨some 7, .len (.t 6), none⟩,
    ⟨some 8, .mv (.t 1), none⟩,
    ⟨some 9, .len (.t 8), none⟩,
    ⟨some 10, .bin .neq (.t 7) (.t 9), none⟩] [0, 1, 10] [])
  (.cond (.t 10) (.seq (.reg [⟨some 4, .mv (.k (.bool false)), none⟩] [4] [])
  (.ret)) (.skip)))
  (.seq (.seq (.reg [⟨some 5, .mv (.k (.int .i64 0)), none⟩] [0, 1, 5] [])
  (.block 0 (.loop (eqSl n f))))
  (.seq (.reg [⟨some 4, .mv (.k (.bool true)), none⟩] [4] [])
  (.ret))))
def eqSm (n f : Nat) : Fn := { np := 2, body := eqSb n f, res := [.tmp 4] }
def eqSst (n : Nat) (rows : List (List T)) (i : Nat) (x : Nat) : St := { t := [(0, .c (.sl false n rows)), (1, .c (.sl false n rows)), (5, .c (I i))], o := [], n := x }
theorem eqS_says {F n f : Nat} (h : M F = some (.code (eqSm n f))) {rows : List (List T)} (hl : rows.length ≤ 4611686018427387904)
    (he : ∀ r ∈ rows, r.length = n ∧ r.all closedT = true ∧ run M f [.a r, .a r] [] = some (.c (.bool true), [])) :
    run M F [.c (.sl false n rows), .c (.sl false n rows)] [] = some (.c (.bool true), []) := by
  refine run_code (b := eqSm n f) h ⟨rows.length + 1, ?_⟩
  obtain ⟨g, hr⟩ := loop_all (f := exC (run M) (rows.length + 1) (eqSl n f)) (eqSst n rows) (fun i => i ≤ rows.length) (fun i => rows.length - i) (fun _ => ())
    (fun _ m => (.exit 0, { t := [(0, .c (.sl false n rows)), (1, .c (.sl false n rows)), (5, .c (I rows.length)), (14, .c (.bool false))], o := [], n := m }))
    (by
      intro i x hi
      by_cases hlt : i < rows.length
      · have e5 : IntKind.i64.wrap ((i : Int) + 1) = (i : Int) + 1 := wrap_i64 (by omega) (by omega)
        obtain ⟨k1, k2, k3⟩ := he rows[i] (List.getElem_mem hlt)
        have hc := fun nn => call_rows2 (n := nn) (o := []) k2 k2 k3
        have h6 : (List.take n rows[i]) = rows[i] := List.take_of_length_le (by omega)
        obtain ⟨y, hy⟩ : ∃ y, exC (run M) (rows.length + 1) (eqSl n f) (eqSst n rows i x) = some (.normal, eqSst n rows (i + 1) y) := by
          simp [eqSst, eqSl, hlt, e5, k1, hc, h6, keep_any, -doCall]
        exact .inl ⟨i + 1, y, hy, hlt, by omega, rfl⟩
      · have : i = rows.length := by omega
        subst this
        exact .inr ⟨x + 64, by simp [eqSst, eqSl], by simp⟩)
    (rows.length + 1) 0 (Nat.zero_le _) (by omega)
  simp [eqSst] at hr
  simp [exB, eqSm, eqSb, List.range_succ, hr]
end Mx

/-
  Numbers: what is laid over, held against, weighed, marked.
-/
namespace Mx
open Go
variable {M : Nat → Option Body}
def irow (l : List Int) : List (List T) := l.map fun n => [I n]
abbrev ints (l : List Int) : T := .sl false 1 (irow l)
theorem irow_len (l : List Int) : (irow l).length = l.length := by simp [irow]
theorem irow_at (l : List Int) (i : Nat) (h : i < (irow l).length) : (irow l)[i] = [I (l[i]'(by simpa [irow] using h))] := by simp [irow]
theorem irow_append (a b : List Int) : irow a ++ irow b = irow (a ++ b) := by simp [irow]
theorem irow_nil : irow [] = [] := rfl
theorem irow_take (l : List Int) (n : Nat) : (irow l).take n = irow (l.take n) := by simp [irow]
attribute [simp] irow_len irow_at irow_append irow_nil irow_take
/-- k, k+1, .. -/
def upto (k : Int) : Nat → List Int
  | 0 => []
  | n + 1 => upto k n ++ [k + n]
theorem upto_len (k : Int) (n : Nat) : (upto k n).length = n := by
  induction n with
  | zero => rfl
  | succ n ih => simp [upto, ih]
attribute [simp] upto_len
theorem upto_at (k : Int) (n i : Nat) (h : i < n) (h' : i < (upto k n).length) : (upto k n)[i] = k + i := by
  induction n with
  | zero => omega
  | succ n ih =>
    simp only [upto]
    by_cases e : i < n
    · rw [List.getElem_append_left (by simpa using e)]; exact ih e _
    · have : i = n := by omega
      subst this
      rw [List.getElem_append_right (by simp)]; simp

def eqI (l : List Int) (i : Nat) (x : Nat) : St := { t := [(0, .c (ints l)), (1, .c (ints l)), (5, .c (I i))], o := [], n := x }
theorem laws_eqIntS.says (h : laws_eqIntS.k M) (l : List Int) (hl : l.length ≤ 4611686018427387904) : run M 45 [.c (ints l), .c (ints l)] [] = some (.c (.bool true), []) := by
  refine run_code (b := laws_eqIntS.m) h ⟨l.length + 1, ?_⟩
  obtain ⟨g, hr⟩ := loop_all (f := exC (run M) (l.length + 1) laws_eqIntS.l0) (eqI l) (fun i => i ≤ l.length) (fun i => l.length - i) (fun _ => ())
    (fun _ m => (.exit 0, { t := [(0, .c (ints l)), (1, .c (ints l)), (5, .c (I l.length)), (14, .c (.bool false))], o := [], n := m }))
    (by
      intro i x hi
      by_cases hlt : i < l.length
      · have e5 : IntKind.i64.wrap ((i : Int) + 1) = (i : Int) + 1 := wrap_i64 (by omega) (by omega)
        obtain ⟨y, hy⟩ : ∃ y, exC (run M) (l.length + 1) laws_eqIntS.l0 (eqI l i x) = some (.normal, eqI l (i + 1) y) := by simp [eqI, laws_eqIntS.l0, hlt, e5]
        exact .inl ⟨i + 1, y, hy, hlt, by omega, rfl⟩
      · have : i = l.length := by omega
        subst this
        exact .inr ⟨x + 64, by simp [eqI, laws_eqIntS.l0], by simp⟩)
    (l.length + 1) 0 (Nat.zero_le _) (by omega)
  simp [eqI] at hr
  simp [exB, laws_eqIntS.m, laws_eqIntS.b, List.range_succ, hr]

theorem set_mid {α : Type} (a : List α) (x : α) (b : List α) (n : Nat) (h : a.length = n) (y : α) : (a ++ x :: b).set n y = a ++ y :: b := by
  subst h; simp
theorem at_mid {α : Type} (a : List α) (x : α) (b : List α) (n : Nat) (h : a.length = n) : (a ++ x :: b)[n]? = some x := by
  subst h; simp
def mkI (k : Int) (l : List Int) (i : Nat) (x : Nat) : St := { t := [(0, .c (.row 0 0 0 l.length)), (1, .c (I (k + i))), (5, .c (I i))], o := [(0, ⟨0, 1, true, false, irow (upto k i ++ l.drop i)⟩)], n := x }
theorem laws_markIntS.says (h : laws_markIntS.k M) (l : List Int) (k : Int) (hk : -9223372036854775808 ≤ k) (hl : k + l.length ≤ 9223372036854775807) (hl2 : l.length ≤ 4611686018427387904) :
    run M 46 [.c (.row 0 0 0 l.length), .c (I k)] [(0, ⟨0, 1, true, false, irow l⟩)] = some (.c (I (k + l.length)), [(0, ⟨0, 1, true, false, irow (upto k l.length)⟩)]) := by
  refine run_code (b := laws_markIntS.m) h ⟨l.length + 1, ?_⟩
  obtain ⟨g, hr⟩ := loop_all (f := exC (run M) (l.length + 1) laws_markIntS.l0) (mkI k l) (fun i => i ≤ l.length) (fun i => l.length - i) (fun _ => ())
    (fun _ m => (.exit 0, { t := [(0, .c (.row 0 0 0 l.length)), (1, .c (I (k + l.length))), (5, .c (I l.length)), (9, .c (.bool false))], o := [(0, ⟨0, 1, true, false, irow (upto k l.length)⟩)], n := m }))
    (by
      intro i x hi
      by_cases hlt : i < l.length
      · have e5 : IntKind.i64.wrap ((i : Int) + 1) = (i : Int) + 1 := wrap_i64 (by omega) (by omega)
        have e6 : IntKind.i64.wrap (k + (i : Int) + 1) = k + (i : Int) + 1 := wrap_i64 (by omega) (by omega)
        have e7 : k + ((i : Int) + 1) = k + (i : Int) + 1 := by omega
        have e8 : i + (l.length - i) = l.length := by omega
        have hd := List.drop_eq_getElem_cons hlt
        have h3 : (irow (upto k i ++ l.drop i))[i]? = some [I l[i]] := by
          rw [hd]; simp only [irow, List.map_append, List.map_cons]; exact at_mid _ _ _ _ (by simp)
        have h3' : ∀ h, (irow (upto k i ++ l.drop i))[i]'h = [I l[i]] := fun h => by rw [List.getElem?_eq_getElem h] at h3; exact Option.some.inj h3
        have h4 : (irow (upto k i ++ l.drop i)).set i [I (k + i)] = irow (upto k (i + 1) ++ l.drop (i + 1)) := by
          rw [hd]; simp only [irow, List.map_append, List.map_cons, upto, List.append_assoc, List.cons_append, List.nil_append, List.map_nil]; exact set_mid _ _ _ _ (by simp) _
        obtain ⟨y, hy⟩ : ∃ y, exC (run M) (l.length + 1) laws_markIntS.l0 (mkI k l i x) = some (.normal, mkI k l (i + 1) y) := by
          simp [mkI, laws_markIntS.l0, hlt, e5, e6, e7, e8, h3', h4, setAt, -irow_at]
        exact .inl ⟨i + 1, y, hy, hlt, by omega, rfl⟩
      · have : i = l.length := by omega
        subst this
        exact .inr ⟨x + 64, by simp [mkI, laws_markIntS.l0], by simp⟩)
    (l.length + 1) 0 (Nat.zero_le _) (by omega)
  simp [mkI, upto] at hr
  simp [exB, laws_markIntS.m, laws_markIntS.b, List.range_succ, hr]

def heI (k : Int) (n : Nat) (i : Nat) (x : Nat) : St := { t := [(0, .c (ints (upto k n))), (1, .c (I (k + i))), (5, .c (I i))], o := [], n := x }
theorem laws_heldIntS.says (h : laws_heldIntS.k M) (n : Nat) (k : Int) (hk : -9223372036854775808 ≤ k) (hl : k + n ≤ 9223372036854775807) (hl2 : n ≤ 4611686018427387904) :
    run M 47 [.c (ints (upto k n)), .c (I k)] [] = some (.c (I (k + n)), []) := by
  refine run_code (b := laws_heldIntS.m) h ⟨n + 1, ?_⟩
  obtain ⟨g, hr⟩ := loop_all (f := exC (run M) (n + 1) laws_heldIntS.l0) (heI k n) (fun i => i ≤ n) (fun i => n - i) (fun _ => ())
    (fun _ m => (.exit 0, { t := [(0, .c (ints (upto k n))), (1, .c (I (k + n))), (5, .c (I n)), (9, .c (.bool false))], o := [], n := m }))
    (by
      intro i x hi
      by_cases hlt : i < n
      · have e5 : IntKind.i64.wrap ((i : Int) + 1) = (i : Int) + 1 := wrap_i64 (by omega) (by omega)
        have e6 : IntKind.i64.wrap (k + (i : Int) + 1) = k + (i : Int) + 1 := wrap_i64 (by omega) (by omega)
        have e7 : k + ((i : Int) + 1) = k + (i : Int) + 1 := by omega
        have e8 := upto_at k n i hlt (by simpa using hlt)
        obtain ⟨y, hy⟩ : ∃ y, exC (run M) (n + 1) laws_heldIntS.l0 (heI k n i x) = some (.normal, heI k n (i + 1) y) := by
          simp [heI, laws_heldIntS.l0, hlt, e5, e6, e7, e8]
        exact .inl ⟨i + 1, y, hy, hlt, by omega, rfl⟩
      · have : i = n := by omega
        subst this
        exact .inr ⟨x + 64, by simp [heI, laws_heldIntS.l0], by simp⟩)
    (n + 1) 0 (Nat.zero_le _) (by omega)
  simp [heI] at hr
  simp [exB, laws_heldIntS.m, laws_heldIntS.b, List.range_succ, hr]
theorem irow_flat (l : List Int) : (irow l).all (fun r => r.all T.scalar) = true := by
  simp only [irow, List.all_map, List.all_eq_true]
  intro n _; rfl
attribute [simp] irow_flat

theorem laws_toIntS.says (h : laws_toIntS.k M) (l : List Int) (hl : l.length ≤ 1048576) : run M 42 [.c (ints l)] [] = some (.c (.sl true 1 (irow l)), []) := by
  have := toS1_says (M := M) (F := 42) (by' := 8) (z := .int .i64 0) h (l := l.map I) (by simpa using hl) (by omega) (fun t ht => by obtain ⟨n, _, rfl⟩ := List.mem_map.1 ht; rfl)
  rw [List.map_map] at this
  exact this
theorem laws_szIntS.says (h : laws_szIntS.k M) (l : List Int) (hl : l.length ≤ 9223372036854775807) (n : Int) (hn : 0 ≤ n) (hn' : n ≤ 9223372036854775807) : run M 108 [.c (ints l), .c (I n)] [] = some (.c (I (if n < l.length then -1 else n - l.length)), []) := by
  refine run_code (b := laws_szIntS.m) h ⟨0, ?_⟩
  have e5 : IntKind.i64.wrap (n - (l.length : Int)) = n - (l.length : Int) := wrap_i64 (by omega) (by omega)
  by_cases hc : n < l.length
  · have h1 : n - (l.length : Int) < 0 := by omega
    simp [exB, laws_szIntS.m, laws_szIntS.b, List.range_succ, e5, h1, hc]
  · have h1 : ¬ n - (l.length : Int) < 0 := by omega
    simp [exB, laws_szIntS.m, laws_szIntS.b, List.range_succ, e5, h1, hc]
end Mx

/-
  Small codes: laws.eqSession, laws.markSession, laws.heldSession, spec.SessionNew, impl.SessionNew, laws.FnExactSessionNew.
-/
namespace Mx
open Go
def laws_eqSession.b : C := .seq (.reg [⟨some 2, .box (.t 0), none⟩,
    ⟨some 3, .box (.t 1), none⟩,
    ⟨some 4, .mv (.k (.bool false)), none⟩] [2, 3] [2, 3])
  (.seq (.seq (.reg [⟨some 5, .faddr 0 (.t 2), none⟩,
    ⟨some 6, .load false 1 (.t 5), none⟩,
    ⟨some 7, .faddr 0 (.t 3), none⟩,
    ⟨some 8, .load false 1 (.t 7), none⟩,
    ⟨some 9, .bin .neq (.t 6) (.t 8), none⟩] [2, 3, 9] [2, 3])
  (.cond (.t 9) (.seq (.reg [⟨some 4, .mv (.k (.bool false)), none⟩] [4] [])
  (.ret)) (.skip)))
  (.seq (.seq (.reg [⟨some 10, .faddr 1 (.t 2), none⟩,
    ⟨some 11, .load false 1 (.t 10), none⟩,
    ⟨some 12, .faddr 1 (.t 3), none⟩,
    ⟨some 13, .load false 1 (.t 12), none⟩,
    ⟨some 14, .bin .neq (.t 11) (.t 13), none⟩] [2, 3, 14] [2, 3])
  (.cond (.t 14) (.seq (.reg [⟨some 4, .mv (.k (.bool false)), none⟩] [4] [])
  (.ret)) (.skip)))
  (.seq (.seq (.reg [⟨some 15, .faddr 2 (.t 2), none⟩,
    ⟨some 16, .load false 1 (.t 15), none⟩,
    ⟨some 17, .faddr 2 (.t 3), none⟩,
    ⟨some 18, .load false 1 (.t 17), none⟩,
    ⟨some 19, .beq true (.t 16) (.t 18), none⟩] [2, 3, 19] [2, 3])
  (.cond (.t 19) (.seq (.reg [⟨some 4, .mv (.k (.bool false)), none⟩] [4] [])
  (.ret)) (.skip)))
  (.seq (.seq (.reg [⟨some 20, .faddr 3 (.t 2), none⟩,
    ⟨some 21, .load false 1 (.t 20), none⟩,
    ⟨some 22, .faddr 3 (.t 3), none⟩,
    ⟨some 23, .load false 1 (.t 22), none⟩,
    ⟨some 24, .beq true (.t 21) (.t 23), none⟩] [2, 3, 24] [2, 3])
  (.cond (.t 24) (.seq (.reg [⟨some 4, .mv (.k (.bool false)), none⟩] [4] [])
  (.ret)) (.skip)))
  (.seq (.seq (.reg [⟨some 25, .faddr 4 (.t 2), none⟩,
    ⟨some 26, .load false 1 (.t 25), none⟩,
    ⟨some 27, .faddr 4 (.t 3), none⟩,
    ⟨some 28, .load false 1 (.t 27), none⟩,
    ⟨some 29, .bin .neq (.t 26) (.t 28), none⟩] [2, 3, 29] [2, 3])
  (.cond (.t 29) (.seq (.reg [⟨some 4, .mv (.k (.bool false)), none⟩] [4] [])
  (.ret)) (.skip)))
  (.seq (.seq (.reg [⟨some 30, .faddr 5 (.t 2), none⟩,
    ⟨some 31, .load false 1 (.t 30), none⟩,
    ⟨some 32, .faddr 5 (.t 3), none⟩,
    ⟨some 33, .load false 1 (.t 32), none⟩,
    ⟨some 34, .call 45 [.t 31, .t 33] [] [], none⟩,
    ⟨some 35, .not (.t 34), none⟩] [35] [])
  (.cond (.t 35) (.seq (.reg [⟨some 4, .mv (.k (.bool false)), none⟩] [4] [])
  (.ret)) (.skip)))
  (.seq (.reg [⟨some 4, .mv (.k (.bool true)), none⟩] [4] [])
  (.ret))))))))
def laws_eqSession.m : Fn := { np := 2, body := laws_eqSession.b, res := [.tmp 4] }
def laws_eqSession.k (M : Nat → Option Body) : Prop := M 330 = some (.code laws_eqSession.m) ∧ laws_eqIntS.k M
def laws_markSession.b : C := .seq (.reg [⟨some 2, .box (.t 0), none⟩,
    ⟨some 4, .mv (.k (.int .i64 0)), none⟩] [1, 2] [2, 1000005])
  (.seq (.reg [⟨some 5, .faddr 5 (.t 2), none⟩,
    ⟨some 6, .load false 1 (.t 5), none⟩,
    ⟨some 7, .mv (.t 1), none⟩,
    ⟨some 8, .call 46 [.t 6, .t 7] [0] [], none⟩,
    ⟨some 1, .mv (.t 8), none⟩] [1] [1000005])
  (.seq (.reg [⟨some 9, .mv (.t 1), none⟩,
    ⟨some 4, .mv (.t 9), none⟩] [4] [1000005])
  (.ret)))
def laws_markSession.m : Fn := { np := 2, body := laws_markSession.b, res := [.tmp 4] }
def laws_markSession.k (M : Nat → Option Body) : Prop := M 331 = some (.code laws_markSession.m) ∧ laws_markIntS.k M
def laws_heldSession.b : C := .seq (.reg [⟨some 2, .box (.t 0), none⟩,
    ⟨some 4, .mv (.k (.int .i64 0)), none⟩] [1, 2] [2])
  (.seq (.reg [⟨some 5, .faddr 5 (.t 2), none⟩,
    ⟨some 6, .load false 1 (.t 5), none⟩,
    ⟨some 7, .mv (.t 1), none⟩,
    ⟨some 8, .call 47 [.t 6, .t 7] [] [], none⟩,
    ⟨some 1, .mv (.t 8), none⟩] [1] [])
  (.seq (.seq (.reg [⟨some 9, .mv (.t 1), none⟩,
    ⟨some 10, .bin .lss (.t 9) (.k (.int .i64 0)), none⟩] [1, 10] [])
  (.cond (.t 10) (.seq (.reg [⟨some 4, .mv (.k (.int .i64 (-1))), none⟩] [4] [])
  (.ret)) (.skip)))
  (.seq (.reg [⟨some 11, .mv (.t 1), none⟩,
    ⟨some 4, .mv (.t 11), none⟩] [4] [])
  (.ret))))
def laws_heldSession.m : Fn := { np := 2, body := laws_heldSession.b, res := [.tmp 4] }
def laws_heldSession.k (M : Nat → Option Body) : Prop := M 332 = some (.code laws_heldSession.m) ∧ laws_heldIntS.k M
def spec_SessionNew.b : C := .seq (.reg [⟨some 0, .alloc [.str ⟨#[]⟩, .str ⟨#[]⟩, .bool false, .bool false, .int .i64 0, .nils 1], none⟩] [0] [0])
  (.seq (.reg [⟨some 1, .build [.str ⟨#[]⟩, .str ⟨#[]⟩, .bool false, .bool false, .int .i64 0, .nils 1] [(1, 1, .k (.str ⟨#[42, 32, 79, 75, 13, 10]⟩))], none⟩,
    ⟨none, .store 6 (.t 0) (.t 1), none⟩] [0] [0])
  (.ret))
def spec_SessionNew.m : Fn := { np := 0, body := spec_SessionNew.b, res := [.cell 0 true 6] }
def spec_SessionNew.k (M : Nat → Option Body) : Prop := M 284 = some (.code spec_SessionNew.m)
def impl_SessionNew.b : C := .seq (.reg [⟨some 0, .alloc [.str ⟨#[]⟩, .str ⟨#[]⟩, .bool false, .bool false, .int .i64 0, .nils 1], none⟩] [0] [0])
  (.seq (.reg [⟨some 1, .build [.str ⟨#[]⟩, .str ⟨#[]⟩, .bool false, .bool false, .int .i64 0, .nils 1] [(1, 1, .k (.str ⟨#[42, 32, 79, 75, 13, 10]⟩))], none⟩,
    ⟨none, .store 6 (.t 0) (.t 1), none⟩] [0] [0])
  (.ret))
def impl_SessionNew.m : Fn := { np := 0, body := impl_SessionNew.b, res := [.cell 0 true 6] }
def impl_SessionNew.k (M : Nat → Option Body) : Prop := M 97 = some (.code impl_SessionNew.m)
def laws_FnExactSessionNew.b : C := .seq (.reg [⟨some 0, .mv (.k (.bool false)), none⟩] [] [])
  (.seq (.reg [⟨some 6, .call 284 [] [] [], none⟩,
    ⟨some 1, .alloc [.str ⟨#[]⟩, .str ⟨#[]⟩, .bool false, .bool false, .int .i64 0, .nils 1], none⟩,
    ⟨none, .store 6 (.t 1) (.t 6), none⟩] [1] [1])
  (.seq (.reg [⟨some 7, .call 97 [] [] [(5, 10705)], none⟩,
    ⟨some 2, .alloc [.str ⟨#[]⟩, .str ⟨#[]⟩, .bool false, .bool false, .int .i64 0, .nils 1], none⟩,
    ⟨none, .store 6 (.t 2) (.t 7), none⟩] [1, 2] [1, 2, 10705])
  (.seq (.seq (.reg [⟨some 8, .load true 6 (.t 2), none⟩,
    ⟨some 9, .load true 6 (.t 1), none⟩,
    ⟨some 10, .call 330 [.t 8, .t 9] [] [], none⟩,
    ⟨some 11, .not (.t 10), none⟩] [1, 2, 11] [1, 2, 10705])
  (.cond (.t 11) (.seq (.reg [⟨some 0, .mv (.k (.bool false)), none⟩] [0] [])
  (.ret)) (.skip)))
  (.seq (.reg [⟨some 3, .mv (.k (.int .i64 1)), none⟩] [1, 2, 3] [1, 2, 10705])
  (.seq (.reg [⟨some 12, .load true 6 (.t 2), none⟩,
    ⟨some 13, .mv (.t 3), none⟩,
    ⟨some 14, .call 331 [.t 12, .t 13] [1000005] [], none⟩,
    ⟨some 3, .mv (.t 14), none⟩] [1, 2, 3] [1, 2, 10705])
  (.seq (.reg [⟨some 4, .mv (.k (.int .i64 1)), none⟩] [1, 2, 3, 4] [1, 2, 10705])
  (.seq (.reg [⟨some 15, .load true 6 (.t 2), none⟩,
    ⟨some 16, .mv (.t 4), none⟩,
    ⟨some 17, .call 332 [.t 15, .t 16] [] [], none⟩,
    ⟨some 4, .mv (.t 17), none⟩] [1, 2, 3, 4] [1, 2, 10705])
  (.seq (.seq (.reg [⟨some 18, .mv (.t 4), none⟩,
    ⟨some 19, .bin .lss (.t 18) (.k (.int .i64 0)), none⟩] [1, 2, 3, 4, 19] [1, 2, 10705])
  (.cond (.t 19) (.seq (.reg [⟨some 0, .mv (.k (.bool false)), none⟩] [0] [])
  (.ret)) (.skip)))
  (.seq (.seq (.reg [⟨some 20, .mv (.t 4), none⟩,
    ⟨some 21, .mv (.t 3), none⟩,
    ⟨some 22, .bin .neq (.t 20) (.t 21), none⟩] [1, 2, 3, 22] [1, 2, 10705])
  (.cond (.t 22) (.seq (.reg [⟨some 0, .mv (.k (.bool false)), none⟩] [0] [])
  (.ret)) (.skip)))
  (.seq (.reg [⟨some 23, .call 97 [] [] [], none⟩,
    ⟨some 5, .alloc [.str ⟨#[]⟩, .str ⟨#[]⟩, .bool false, .bool false, .int .i64 0, .nils 1], none⟩,
    ⟨none, .store 6 (.t 5) (.t 23), none⟩] [1, 2, 3, 5] [1, 2, 5, 10705])
  (.seq (.seq (.reg [⟨some 24, .load true 6 (.t 5), none⟩,
    ⟨some 25, .load true 6 (.t 1), none⟩,
    ⟨some 26, .call 330 [.t 24, .t 25] [] [], none⟩,
    ⟨some 27, .not (.t 26), none⟩] [2, 3, 27] [2, 10705])
  (.cond (.t 27) (.seq (.reg [⟨some 0, .mv (.k (.bool false)), none⟩] [0] [])
  (.ret)) (.skip)))
  (.seq (.reg [⟨some 4, .mv (.k (.int .i64 1)), none⟩] [2, 3, 4] [2, 10705])
  (.seq (.reg [⟨some 28, .load true 6 (.t 2), none⟩,
    ⟨some 29, .mv (.t 4), none⟩,
    ⟨some 30, .call 332 [.t 28, .t 29] [] [], none⟩,
    ⟨some 4, .mv (.t 30), none⟩] [3, 4] [])
  (.seq (.seq (.reg [⟨some 31, .mv (.t 4), none⟩,
    ⟨some 32, .bin .lss (.t 31) (.k (.int .i64 0)), none⟩] [3, 4, 32] [])
  (.cond (.t 32) (.seq (.reg [⟨some 0, .mv (.k (.bool false)), none⟩] [0] [])
  (.ret)) (.skip)))
  (.seq (.seq (.reg [⟨some 33, .mv (.t 4), none⟩,
    ⟨some 34, .mv (.t 3), none⟩,
    ⟨some 35, .bin .neq (.t 33) (.t 34), none⟩] [35] [])
  (.cond (.t 35) (.seq (.reg [⟨some 0, .mv (.k (.bool false)), none⟩] [0] [])
  (.ret)) (.skip)))
  (.seq (.reg [⟨some 0, .mv (.k (.bool true)), none⟩] [0] [])
  (.ret)))))))))))))))))
def laws_FnExactSessionNew.m : Fn := { np := 0, body := laws_FnExactSessionNew.b, res := [.tmp 0] }
def laws_FnExactSessionNew.k (M : Nat → Option Body) : Prop := M 352 = some (.code laws_FnExactSessionNew.m) ∧ impl_SessionNew.k M ∧ spec_SessionNew.k M ∧ laws_eqSession.k M ∧ laws_markSession.k M ∧ laws_heldSession.k M
end Mx

/-
  Sessions: what is held against and marked; SessionNew and its law.
-/
namespace Mx
open Go
variable {M : Nat → Option Body}
structure Session where
  inb : List UInt8
  out : List UInt8
  on : Bool
  over : Bool
  box : Int
  view : List Int
abbrev encS (x : Session) : List T := [S x.inb, S x.out, .bool x.on, .bool x.over, I x.box, ints x.view]
abbrev encSo (x : Session) : List T := [S x.inb, S x.out, .bool x.on, .bool x.over, I x.box, .sl true 1 (irow x.view)]
theorem has_ints {u : T} (h : Has (.sl [.int .i64]) u) : ∃ l : List Int, u = ints l ∧ l.length ≤ maxLen := by
  cases h with | sl _ rows hl h1 h2 =>
  have : ∀ rows : List (List T), (∀ r ∈ rows, HasL [.int .i64] r) → ∃ l : List Int, rows = irow l := by
    intro rows
    induction rows with
    | nil => intro _; exact ⟨[], rfl⟩
    | cons r rs ih =>
      intro hr
      obtain ⟨l, rfl⟩ := ih fun r h => hr r (List.mem_cons_of_mem _ h)
      have h0 := hr r (List.mem_cons_self ..)
      match r, h0 with
      | [a], h0 =>
        have := h0.2 0 _ a rfl rfl
        cases this
        exact ⟨_ :: l, rfl⟩
  obtain ⟨l, rfl⟩ := this rows fun r hr => by
    obtain ⟨i, hi⟩ := List.getElem?_of_mem hr
    exact ⟨h1 i r hi, fun j c t e1 e2 => h2 i j r c t hi e1 e2⟩
  exact ⟨l, rfl, by simpa using hl⟩
theorem has_session {r : List T} (h : HasL [.str, .str, .bool, .bool, .int .i64, .sl [.int .i64]] r) : ∃ x : Session, r = encS x ∧ x.inb.length ≤ maxLen ∧ x.out.length ≤ maxLen ∧ x.view.length ≤ maxLen := by
  match r, h with
  | [a, b, c, d, e, f], h =>
    have h1 := h.2 0 _ a rfl rfl
    have h2 := h.2 1 _ b rfl rfl
    have h3 := h.2 2 _ c rfl rfl
    have h4 := h.2 3 _ d rfl rfl
    have h5 := h.2 4 _ e rfl rfl
    have h6 := h.2 5 _ f rfl rfl
    cases h1 with | str s hs =>
    cases h2 with | str s' hs' =>
    cases h3; cases h4; cases h5
    obtain ⟨l, rfl, hl⟩ := has_ints h6
    obtain ⟨p, rfl⟩ := of_bytes s
    obtain ⟨q, rfl⟩ := of_bytes s'
    exact ⟨⟨p, q, _, _, _, l⟩, rfl, by simpa using hs, by simpa using hs', hl⟩
theorem laws_eqSession.says (h : laws_eqSession.k M) (x : Session) (hl : x.view.length ≤ 4611686018427387904) : run M 330 [.a (encS x), .a (encS x)] [] = some (.c (.bool true), []) := by
  have h1 := laws_eqIntS.says h.2 x.view hl
  refine run_code (b := laws_eqSession.m) h.1 ⟨0, ?_⟩
  simp [exB, laws_eqSession.m, laws_eqSession.b, List.range_succ, h1]
theorem laws_markSession.says (h : laws_markSession.k M) (x : Session) (k : Int) (hk : -9223372036854775808 ≤ k) (hl : k + x.view.length ≤ 9223372036854775807) (hl2 : x.view.length ≤ 4611686018427387904) :
    run M 331 [.a [S x.inb, S x.out, .bool x.on, .bool x.over, I x.box, .row 1000005 1000005 0 x.view.length], .c (I k)] [(1000005, ⟨1000005, 1, true, false, irow x.view⟩)] =
      some (.c (I (k + x.view.length)), [(1000005, ⟨1000005, 1, true, false, irow (upto k x.view.length)⟩)]) := by
  have h1 := laws_markIntS.says h.2 x.view k hk hl hl2
  refine run_code (b := laws_markSession.m) h.1 ⟨0, ?_⟩
  simp [exB, laws_markSession.m, laws_markSession.b, List.range_succ, h1]
theorem laws_heldSession.says (h : laws_heldSession.k M) (x : Session) (n : Nat) (k : Int) (hk : 0 ≤ k) (hl : k + n ≤ 9223372036854775807) (hl2 : n ≤ 4611686018427387904) :
    run M 332 [.a (encS { x with view := upto k n }), .c (I k)] [] = some (.c (I (k + n)), []) := by
  have h1 := laws_heldIntS.says h.2 n k (by omega) hl hl2
  have h2 : ¬ k + (n : Int) < 0 := by omega
  refine run_code (b := laws_heldSession.m) h.1 ⟨0, ?_⟩
  simp [exB, laws_heldSession.m, laws_heldSession.b, List.range_succ, h1, h2]

def sessionNew : Session := ⟨[], [42, 32, 79, 75, 13, 10], false, false, 0, []⟩
theorem spec_SessionNew.says (h : spec_SessionNew.k M) : run M 284 [] [] = some (.a (encSo sessionNew), []) := by
  refine run_code (b := spec_SessionNew.m) h ⟨0, ?_⟩
  simp [exB, spec_SessionNew.m, spec_SessionNew.b, setAll, setAt, sessionNew]
theorem impl_SessionNew.says (h : impl_SessionNew.k M) : run M 97 [] [] = some (.a (encSo sessionNew), []) := by
  refine run_code (b := impl_SessionNew.m) h ⟨0, ?_⟩
  simp [exB, impl_SessionNew.m, impl_SessionNew.b, setAll, setAt, sessionNew]
theorem laws_FnExactSessionNew.says (h : laws_FnExactSessionNew.k M) : run M 352 [] [] = some (.c (.bool true), []) := by
  obtain ⟨h0, k1, k2, k3, k4, k5⟩ := h
  have h1 := impl_SessionNew.says k1
  have h2 := spec_SessionNew.says k2
  have h3 := laws_eqSession.says k3 sessionNew (by simp [sessionNew])
  have h4 := laws_markSession.says k4 sessionNew 1 (by omega) (by simp [sessionNew]) (by simp [sessionNew])
  have h5 := laws_heldSession.says k5 sessionNew 0 1 (by omega) (by simp) (by simp)
  simp [sessionNew, upto, encS, encSo, ints, irow] at h1 h2 h3 h4 h5
  refine run_code (b := laws_FnExactSessionNew.m) h0 ⟨0, ?_⟩
  simp [exB, laws_FnExactSessionNew.m, laws_FnExactSessionNew.b, h1, h2, h3, h4, h5, setAt]
theorem laws_FnExactSessionNew.row (h : laws_FnExactSessionNew.k M) {as : List V} (ha : HasVs [] as) : run M 352 as [] = some (.c (.bool true), []) := by
  cases ha
  exact laws_FnExactSessionNew.says h
end Mx

/-
  Small codes: laws.szSession, laws.toSession, spec.l15Copy, impl.copyInts, impl.copySession, spec.FeedSession, impl.FeedSession, laws.FnExactFeedSession.
-/
namespace Mx
open Go
def laws_szSession.b : C := .seq (.reg [⟨some 2, .box (.t 0), none⟩,
    ⟨some 4, .mv (.k (.int .i64 0)), none⟩] [1, 2] [2])
  (.seq (.reg [⟨some 5, .mv (.t 1), none⟩,
    ⟨some 6, .faddr 0 (.t 2), none⟩,
    ⟨some 7, .load false 1 (.t 6), none⟩,
    ⟨some 8, .slen (.t 7), none⟩,
    ⟨some 9, .bin .sub (.t 5) (.t 8), none⟩,
    ⟨some 1, .mv (.t 9), none⟩] [1, 2] [2])
  (.seq (.seq (.reg [⟨some 10, .mv (.t 1), none⟩,
    ⟨some 11, .bin .lss (.t 10) (.k (.int .i64 0)), none⟩] [1, 2, 11] [2])
  (.cond (.t 11) (.seq (.reg [⟨some 4, .mv (.k (.int .i64 (-1))), none⟩] [4] [])
  (.ret)) (.skip)))
  (.seq (.reg [⟨some 12, .mv (.t 1), none⟩,
    ⟨some 13, .faddr 1 (.t 2), none⟩,
    ⟨some 14, .load false 1 (.t 13), none⟩,
    ⟨some 15, .slen (.t 14), none⟩,
    ⟨some 16, .bin .sub (.t 12) (.t 15), none⟩,
    ⟨some 1, .mv (.t 16), none⟩] [1, 2] [2])
  (.seq (.seq (.reg [⟨some 17, .mv (.t 1), none⟩,
    ⟨some 18, .bin .lss (.t 17) (.k (.int .i64 0)), none⟩] [1, 2, 18] [2])
  (.cond (.t 18) (.seq (.reg [⟨some 4, .mv (.k (.int .i64 (-1))), none⟩] [4] [])
  (.ret)) (.skip)))
  (.seq (.reg [⟨some 19, .faddr 5 (.t 2), none⟩,
    ⟨some 20, .load false 1 (.t 19), none⟩,
    ⟨some 21, .mv (.t 1), none⟩,
    ⟨some 22, .call 108 [.t 20, .t 21] [] [], none⟩,
    ⟨some 1, .mv (.t 22), none⟩] [1] [])
  (.seq (.seq (.reg [⟨some 23, .mv (.t 1), none⟩,
    ⟨some 24, .bin .lss (.t 23) (.k (.int .i64 0)), none⟩] [1, 24] [])
  (.cond (.t 24) (.seq (.reg [⟨some 4, .mv (.k (.int .i64 (-1))), none⟩] [4] [])
  (.ret)) (.skip)))
  (.seq (.reg [⟨some 25, .mv (.t 1), none⟩,
    ⟨some 4, .mv (.t 25), none⟩] [4] [])
  (.ret))))))))
def laws_szSession.m : Fn := { np := 2, body := laws_szSession.b, res := [.tmp 4] }
def laws_szSession.k (M : Nat → Option Body) : Prop := M 340 = some (.code laws_szSession.m) ∧ laws_szIntS.k M
def laws_toSession.b : C := .seq (.reg [⟨some 1, .box (.t 0), none⟩,
    ⟨some 2, .alloc [.str ⟨#[]⟩, .str ⟨#[]⟩, .bool false, .bool false, .int .i64 0, .nils 1], none⟩] [1, 2] [1, 2, 12100])
  (.seq (.reg [⟨some 3, .alloc [.str ⟨#[]⟩, .str ⟨#[]⟩, .bool false, .bool false, .int .i64 0, .nils 1], none⟩] [1, 2, 3] [1, 2, 3, 12100])
  (.seq (.reg [⟨some 4, .faddr 0 (.t 1), none⟩,
    ⟨some 5, .load false 1 (.t 4), none⟩,
    ⟨some 6, .faddr 0 (.t 3), none⟩,
    ⟨none, .store 1 (.t 6) (.t 5), none⟩] [1, 2, 3] [1, 2, 3, 12100])
  (.seq (.reg [⟨some 7, .faddr 1 (.t 1), none⟩,
    ⟨some 8, .load false 1 (.t 7), none⟩,
    ⟨some 9, .faddr 1 (.t 3), none⟩,
    ⟨none, .store 1 (.t 9) (.t 8), none⟩] [1, 2, 3] [1, 2, 3, 12100])
  (.seq (.reg [⟨some 10, .faddr 2 (.t 1), none⟩,
    ⟨some 11, .load false 1 (.t 10), none⟩,
    ⟨some 12, .faddr 2 (.t 3), none⟩,
    ⟨none, .store 1 (.t 12) (.t 11), none⟩] [1, 2, 3] [1, 2, 3, 12100])
  (.seq (.reg [⟨some 13, .faddr 3 (.t 1), none⟩,
    ⟨some 14, .load false 1 (.t 13), none⟩,
    ⟨some 15, .faddr 3 (.t 3), none⟩,
    ⟨none, .store 1 (.t 15) (.t 14), none⟩] [1, 2, 3] [1, 2, 3, 12100])
  (.seq (.reg [⟨some 16, .faddr 4 (.t 1), none⟩,
    ⟨some 17, .load false 1 (.t 16), none⟩,
    ⟨some 18, .faddr 4 (.t 3), none⟩,
    ⟨none, .store 1 (.t 18) (.t 17), none⟩] [1, 2, 3] [1, 2, 3, 12100])
  (.seq (.reg [⟨some 19, .faddr 5 (.t 1), none⟩,
    ⟨some 20, .load false 1 (.t 19), none⟩,
    ⟨some 21, .call 42 [.t 20] [] [(0, 12100)], none⟩,
    ⟨some 22, .faddr 5 (.t 3), none⟩,
    ⟨none, .store 1 (.t 22) (.t 21), none⟩] [2, 3] [2, 3, 12100])
  (.seq (.reg [⟨some 23, .load true 6 (.t 3), none⟩,
    ⟨none, .store 6 (.t 2) (.t 23), none⟩] [2] [2, 12100])
  (.ret)))))))))
def laws_toSession.m : Fn := { np := 1, body := laws_toSession.b, res := [.cell 2 true 6] }
def laws_toSession.k (M : Nat → Option Body) : Prop := M 341 = some (.code laws_toSession.m) ∧ laws_toIntS.k M
def spec_l15Copy.b : C := .seq (.reg [⟨some 1, .box (.t 0), none⟩,
    ⟨some 2, .alloc [.str ⟨#[]⟩, .str ⟨#[]⟩, .bool false, .bool false, .int .i64 0, .nils 1], none⟩] [1, 2] [1, 2, 5, 8])
  (.seq (.reg [⟨some 4, .load true 6 (.t 1), none⟩,
    ⟨some 3, .alloc [.str ⟨#[]⟩, .str ⟨#[]⟩, .bool false, .bool false, .int .i64 0, .nils 1], none⟩,
    ⟨none, .store 6 (.t 3) (.t 4), none⟩] [1, 2, 3] [1, 2, 3, 5, 8])
  (.seq (.reg [⟨some 5, .bslice 1 0 [.int .i64 0] [], none⟩,
    ⟨some 6, .faddr 5 (.t 1), none⟩,
    ⟨some 7, .load false 1 (.t 6), none⟩,
    ⟨some 8, .app 1 8 (.t 5) (.t 7), none⟩,
    ⟨some 9, .faddr 5 (.t 3), none⟩,
    ⟨none, .store 1 (.t 9) (.t 8), none⟩] [2, 3] [2, 3, 5, 8])
  (.seq (.reg [⟨some 10, .load true 6 (.t 3), none⟩,
    ⟨none, .store 6 (.t 2) (.t 10), none⟩] [2] [2, 5, 8])
  (.ret))))
def spec_l15Copy.m : Fn := { np := 1, body := spec_l15Copy.b, res := [.cell 2 true 6] }
def spec_l15Copy.k (M : Nat → Option Body) : Prop := M 195 = some (.code spec_l15Copy.m)
def impl_copyInts.b : C := .seq (.reg [⟨some 2, .nil 1, none⟩] [0] [])
  (.seq (.reg [⟨some 3, .bslice 1 0 [.int .i64 0] [], none⟩,
    ⟨some 4, .mv (.t 0), none⟩,
    ⟨some 5, .app 1 8 (.t 3) (.t 4), none⟩,
    ⟨some 2, .mv (.t 5), none⟩] [2] [2, 3, 5])
  (.ret))
def impl_copyInts.m : Fn := { np := 1, body := impl_copyInts.b, res := [.tmp 2] }
def impl_copyInts.k (M : Nat → Option Body) : Prop := M 134 = some (.code impl_copyInts.m)
def impl_copySession.b : C := .seq (.reg [⟨some 1, .box (.t 0), none⟩,
    ⟨some 2, .alloc [.str ⟨#[]⟩, .str ⟨#[]⟩, .bool false, .bool false, .int .i64 0, .nils 1], none⟩] [1, 2] [1, 2, 10500])
  (.seq (.reg [⟨some 3, .faddr 5 (.t 1), none⟩,
    ⟨some 4, .load false 1 (.t 3), none⟩,
    ⟨some 5, .call 134 [.t 4] [] [(0, 10500)], none⟩,
    ⟨some 6, .faddr 5 (.t 1), none⟩,
    ⟨none, .store 1 (.t 6) (.t 5), none⟩] [1, 2] [1, 2, 10500])
  (.seq (.reg [⟨some 7, .load true 6 (.t 1), none⟩,
    ⟨none, .store 6 (.t 2) (.t 7), none⟩] [2] [2, 10500])
  (.ret)))
def impl_copySession.m : Fn := { np := 1, body := impl_copySession.b, res := [.cell 2 true 6] }
def impl_copySession.k (M : Nat → Option Body) : Prop := M 190 = some (.code impl_copySession.m) ∧ impl_copyInts.k M
def spec_FeedSession.b : C := .seq (.reg [⟨some 2, .box (.t 0), none⟩,
    ⟨some 4, .alloc [.str ⟨#[]⟩, .str ⟨#[]⟩, .bool false, .bool false, .int .i64 0, .nils 1], none⟩,
    ⟨some 5, .mv (.k (.bool false)), none⟩] [1, 2, 4] [2, 4, 10805])
  (.seq (.reg [⟨some 7, .load true 6 (.t 2), none⟩,
    ⟨some 8, .call 195 [.t 7] [] [(5, 10805)], none⟩,
    ⟨some 6, .alloc [.str ⟨#[]⟩, .str ⟨#[]⟩, .bool false, .bool false, .int .i64 0, .nils 1], none⟩,
    ⟨none, .store 6 (.t 6) (.t 8), none⟩] [1, 2, 4, 6] [2, 4, 6, 10805])
  (.seq (.seq (.reg [⟨some 9, .faddr 3 (.t 2), none⟩,
    ⟨some 10, .load false 1 (.t 9), none⟩,
    ⟨some 11, .mv (.t 10), none⟩,
    ⟨some 12, .mv (.t 1), some (11, false)⟩,
    ⟨some 13, .slen (.t 12), some (11, false)⟩,
    ⟨some 14, .bin .gtr (.t 13) (.k (.int .i64 400)), some (11, false)⟩,
    ⟨some 15, .pick (.t 11) (.k (.bool true)) (.t 14), none⟩,
    ⟨some 16, .mv (.t 15), none⟩,
    ⟨some 17, .faddr 0 (.t 2), some (16, false)⟩,
    ⟨some 18, .load false 1 (.t 17), some (16, false)⟩,
    ⟨some 19, .slen (.t 18), some (16, false)⟩,
    ⟨some 20, .mv (.t 1), some (16, false)⟩,
    ⟨some 21, .slen (.t 20), some (16, false)⟩,
    ⟨some 22, .bin .add (.t 19) (.t 21), some (16, false)⟩,
    ⟨some 23, .bin .gtr (.t 22) (.k (.int .i64 400)), some (16, false)⟩,
    ⟨some 24, .pick (.t 16) (.k (.bool true)) (.t 23), none⟩] [1, 2, 4, 6, 24] [2, 4, 6, 10805])
  (.cond (.t 24) (.seq (.reg [⟨some 25, .load true 6 (.t 6), none⟩,
    ⟨none, .store 6 (.t 4) (.t 25), none⟩,
    ⟨some 5, .mv (.k (.bool false)), none⟩] [4, 5] [4, 10805])
  (.ret)) (.skip)))
  (.seq (.reg [⟨some 26, .faddr 0 (.t 2), none⟩,
    ⟨some 27, .load false 1 (.t 26), none⟩,
    ⟨some 28, .mv (.t 1), none⟩,
    ⟨some 29, .bin .add (.t 27) (.t 28), none⟩,
    ⟨some 30, .faddr 0 (.t 6), none⟩,
    ⟨none, .store 1 (.t 30) (.t 29), none⟩] [4, 6] [4, 6, 10805])
  (.seq (.reg [⟨some 31, .load true 6 (.t 6), none⟩,
    ⟨none, .store 6 (.t 4) (.t 31), none⟩,
    ⟨some 5, .mv (.k (.bool true)), none⟩] [4, 5] [4, 10805])
  (.ret)))))
def spec_FeedSession.m : Fn := { np := 2, body := spec_FeedSession.b, res := [.cell 4 true 6, .tmp 5] }
def spec_FeedSession.k (M : Nat → Option Body) : Prop := M 342 = some (.code spec_FeedSession.m) ∧ spec_l15Copy.k M
def impl_FeedSession.b : C := .seq (.reg [⟨some 2, .box (.t 0), none⟩,
    ⟨some 4, .alloc [.str ⟨#[]⟩, .str ⟨#[]⟩, .bool false, .bool false, .int .i64 0, .nils 1], none⟩,
    ⟨some 5, .mv (.k (.bool false)), none⟩] [1, 2, 4] [2, 4, 10805])
  (.seq (.reg [⟨some 7, .load true 6 (.t 2), none⟩,
    ⟨some 8, .call 190 [.t 7] [] [(5, 10805)], none⟩,
    ⟨some 6, .alloc [.str ⟨#[]⟩, .str ⟨#[]⟩, .bool false, .bool false, .int .i64 0, .nils 1], none⟩,
    ⟨none, .store 6 (.t 6) (.t 8), none⟩] [1, 2, 4, 6] [2, 4, 6, 10805])
  (.seq (.seq (.reg [⟨some 9, .faddr 3 (.t 2), none⟩,
    ⟨some 10, .load false 1 (.t 9), none⟩,
    ⟨some 11, .mv (.t 10), none⟩,
    ⟨some 12, .faddr 0 (.t 2), some (11, false)⟩,
    ⟨some 13, .load false 1 (.t 12), some (11, false)⟩,
    ⟨some 14, .slen (.t 13), some (11, false)⟩,
    ⟨some 15, .mv (.t 1), some (11, false)⟩,
    ⟨some 16, .slen (.t 15), some (11, false)⟩,
    ⟨some 17, .bin .add (.t 14) (.t 16), some (11, false)⟩,
    ⟨some 18, .bin .gtr (.t 17) (.k (.int .i64 400)), some (11, false)⟩,
    ⟨some 19, .pick (.t 11) (.k (.bool true)) (.t 18), none⟩] [1, 2, 4, 6, 19] [2, 4, 6, 10805])
  (.cond (.t 19) (.seq (.reg [⟨some 20, .load true 6 (.t 6), none⟩,
    ⟨none, .store 6 (.t 4) (.t 20), none⟩,
    ⟨some 5, .mv (.k (.bool false)), none⟩] [4, 5] [4, 10805])
  (.ret)) (.skip)))
  (.seq (.reg [⟨some 21, .faddr 0 (.t 2), none⟩,
    ⟨some 22, .load false 1 (.t 21), none⟩,
    ⟨some 23, .mv (.t 1), none⟩,
    ⟨some 24, .bin .add (.t 22) (.t 23), none⟩,
    ⟨some 25, .faddr 0 (.t 6), none⟩,
    ⟨none, .store 1 (.t 25) (.t 24), none⟩] [4, 6] [4, 6, 10805])
  (.seq (.reg [⟨some 26, .load true 6 (.t 6), none⟩,
    ⟨none, .store 6 (.t 4) (.t 26), none⟩,
    ⟨some 5, .mv (.k (.bool true)), none⟩] [4, 5] [4, 10805])
  (.ret)))))
def impl_FeedSession.m : Fn := { np := 2, body := impl_FeedSession.b, res := [.cell 4 true 6, .tmp 5] }
def impl_FeedSession.k (M : Nat → Option Body) : Prop := M 343 = some (.code impl_FeedSession.m) ∧ impl_copySession.k M
def laws_FnExactFeedSession.b : C := .seq (.reg [⟨some 2, .box (.t 0), none⟩,
    ⟨some 4, .mv (.k (.bool false)), none⟩] [1, 2] [2])
  (.seq (.seq (.reg [⟨some 16, .mv (.t 1), none⟩,
    ⟨some 17, .slen (.t 16), none⟩,
    ⟨some 18, .bin .gtr (.t 17) (.k (.int .i64 1048576)), none⟩] [1, 2, 18] [2])
  (.cond (.t 18) (.seq (.reg [⟨some 4, .mv (.k (.bool true)), none⟩] [4] [])
  (.ret)) (.skip)))
  (.seq (.reg [⟨some 5, .mv (.k (.int .i64 1048576)), none⟩] [1, 2, 5] [2])
  (.seq (.reg [⟨some 19, .load true 6 (.t 2), none⟩,
    ⟨some 20, .mv (.t 5), none⟩,
    ⟨some 21, .call 340 [.t 19, .t 20] [] [], none⟩,
    ⟨some 5, .mv (.t 21), none⟩] [1, 2, 5] [2])
  (.seq (.seq (.reg [⟨some 22, .mv (.t 5), none⟩,
    ⟨some 23, .bin .lss (.t 22) (.k (.int .i64 0)), none⟩] [1, 2, 23] [2])
  (.cond (.t 23) (.seq (.reg [⟨some 4, .mv (.k (.bool true)), none⟩] [4] [])
  (.ret)) (.skip)))
  (.seq (.reg [⟨some 25, .load true 6 (.t 2), none⟩,
    ⟨some 26, .call 341 [.t 25] [] [], none⟩,
    ⟨some 27, .mv (.t 1), none⟩,
    ⟨some 28, .call 342 [.t 26, .t 27] [] [], none⟩,
    ⟨some 24, .mv (.t 28), none⟩,
    ⟨some 29, .ext 0 (.t 24), none⟩,
    ⟨some 30, .ext 1 (.t 24), none⟩,
    ⟨some 6, .alloc [.str ⟨#[]⟩, .str ⟨#[]⟩, .bool false, .bool false, .int .i64 0, .nils 1], none⟩,
    ⟨none, .store 6 (.t 6) (.t 29), none⟩,
    ⟨some 7, .mv (.t 30), none⟩] [1, 2, 6, 7] [2, 6])
  (.seq (.reg [⟨some 31, .load true 6 (.t 2), none⟩,
    ⟨some 32, .call 341 [.t 31] [] [(5, 13205)], none⟩,
    ⟨some 8, .alloc [.str ⟨#[]⟩, .str ⟨#[]⟩, .bool false, .bool false, .int .i64 0, .nils 1], none⟩,
    ⟨none, .store 6 (.t 8) (.t 32), none⟩] [1, 2, 6, 7, 8] [2, 6, 8, 13205])
  (.seq (.reg [⟨some 34, .load true 6 (.t 8), none⟩,
    ⟨some 35, .mv (.t 1), none⟩,
    ⟨some 36, .call 343 [.t 34, .t 35] [] [(5, 13605)], none⟩,
    ⟨some 33, .mv (.t 36), none⟩,
    ⟨some 37, .ext 0 (.t 33), none⟩,
    ⟨some 38, .ext 1 (.t 33), none⟩,
    ⟨some 9, .alloc [.str ⟨#[]⟩, .str ⟨#[]⟩, .bool false, .bool false, .int .i64 0, .nils 1], none⟩,
    ⟨none, .store 6 (.t 9) (.t 37), none⟩,
    ⟨some 10, .mv (.t 38), none⟩] [1, 2, 6, 7, 8, 9, 10] [2, 6, 8, 9, 13205, 13605])
  (.seq (.seq (.reg [⟨some 39, .load true 6 (.t 9), none⟩,
    ⟨some 40, .load true 6 (.t 6), none⟩,
    ⟨some 41, .call 330 [.t 39, .t 40] [] [], none⟩,
    ⟨some 42, .not (.t 41), none⟩,
    ⟨some 43, .mv (.t 42), none⟩,
    ⟨some 44, .mv (.t 10), some (43, false)⟩,
    ⟨some 45, .mv (.t 7), some (43, false)⟩,
    ⟨some 46, .beq true (.t 44) (.t 45), some (43, false)⟩,
    ⟨some 47, .pick (.t 43) (.k (.bool true)) (.t 46), none⟩] [1, 2, 6, 7, 8, 9, 10, 47] [2, 6, 8, 9, 13205, 13605])
  (.cond (.t 47) (.seq (.reg [⟨some 4, .mv (.k (.bool false)), none⟩] [4] [])
  (.ret)) (.skip)))
  (.seq (.seq (.regd [⟨some 48, .load true 6 (.t 8), none⟩,
    ⟨some 49, .load true 6 (.t 2), none⟩,
    ⟨some 50, .call 341 [.t 49] [] [], none⟩,
    ⟨some 51, .call 330 [.t 48, .t 50] [] [], none⟩,
    ⟨some 52, .not (.t 51), none⟩] [[], [], [1], [0, 1, 2], [0, 1, 2, 3]] [1, 2, 6, 7, 8, 9, 10, 52] [2, 6, 8, 9, 13205, 13605])
  (.cond (.t 52) (.seq (.reg [⟨some 4, .mv (.k (.bool false)), none⟩] [4] [])
  (.ret)) (.skip)))
  (.seq (.reg [⟨some 11, .mv (.k (.int .i64 1)), none⟩] [1, 2, 6, 7, 8, 9, 10, 11] [2, 6, 8, 9, 13205, 13605])
  (.seq (.reg [⟨some 53, .load true 6 (.t 8), none⟩,
    ⟨some 54, .mv (.t 11), none⟩,
    ⟨some 55, .call 331 [.t 53, .t 54] [1000005] [], none⟩,
    ⟨some 11, .mv (.t 55), none⟩] [1, 2, 6, 7, 9, 10, 11] [2, 6, 9, 13605])
  (.seq (.seq (.reg [⟨some 56, .mv (.t 11), none⟩,
    ⟨some 57, .bin .lss (.t 56) (.k (.int .i64 0)), none⟩,
    ⟨some 58, .mv (.t 57), none⟩,
    ⟨some 59, .load true 6 (.t 9), some (58, false)⟩,
    ⟨some 60, .load true 6 (.t 6), some (58, false)⟩,
    ⟨some 61, .call 330 [.t 59, .t 60] [] [], some (58, false)⟩,
    ⟨some 62, .not (.t 61), some (58, false)⟩,
    ⟨some 63, .pick (.t 58) (.k (.bool true)) (.t 62), none⟩,
    ⟨some 64, .mv (.t 63), none⟩,
    ⟨some 65, .mv (.t 10), some (64, false)⟩,
    ⟨some 66, .mv (.t 7), some (64, false)⟩,
    ⟨some 67, .beq true (.t 65) (.t 66), some (64, false)⟩,
    ⟨some 68, .pick (.t 64) (.k (.bool true)) (.t 67), none⟩] [1, 2, 6, 7, 9, 68] [2, 6, 9, 13605])
  (.cond (.t 68) (.seq (.reg [⟨some 4, .mv (.k (.bool false)), none⟩] [4] [])
  (.ret)) (.skip)))
  (.seq (.reg [⟨some 12, .mv (.k (.int .i64 1)), none⟩] [1, 2, 6, 7, 9, 12] [2, 6, 9, 13605])
  (.seq (.reg [⟨some 69, .load true 6 (.t 9), none⟩,
    ⟨some 70, .mv (.t 12), none⟩,
    ⟨some 71, .call 331 [.t 69, .t 70] [1000005] [], none⟩,
    ⟨some 12, .mv (.t 71), none⟩] [1, 2, 6, 7, 9, 12] [2, 6, 9, 13605])
  (.seq (.reg [⟨some 13, .mv (.k (.int .i64 1)), none⟩] [1, 2, 6, 7, 9, 12, 13] [2, 6, 9, 13605])
  (.seq (.reg [⟨some 72, .load true 6 (.t 9), none⟩,
    ⟨some 73, .mv (.t 13), none⟩,
    ⟨some 74, .call 332 [.t 72, .t 73] [] [], none⟩,
    ⟨some 13, .mv (.t 74), none⟩] [1, 2, 6, 7, 9, 12, 13] [2, 6, 9, 13605])
  (.seq (.seq (.reg [⟨some 75, .mv (.t 13), none⟩,
    ⟨some 76, .bin .lss (.t 75) (.k (.int .i64 0)), none⟩] [1, 2, 6, 7, 9, 12, 13, 76] [2, 6, 9, 13605])
  (.cond (.t 76) (.seq (.reg [⟨some 4, .mv (.k (.bool false)), none⟩] [4] [])
  (.ret)) (.skip)))
  (.seq (.seq (.reg [⟨some 77, .mv (.t 13), none⟩,
    ⟨some 78, .mv (.t 12), none⟩,
    ⟨some 79, .bin .neq (.t 77) (.t 78), none⟩] [1, 2, 6, 7, 9, 12, 79] [2, 6, 9, 13605])
  (.cond (.t 79) (.seq (.reg [⟨some 4, .mv (.k (.bool false)), none⟩] [4] [])
  (.ret)) (.skip)))
  (.seq (.reg [⟨some 81, .load true 6 (.t 2), none⟩,
    ⟨some 82, .call 341 [.t 81] [] [], none⟩,
    ⟨some 83, .mv (.t 1), none⟩,
    ⟨some 84, .call 343 [.t 82, .t 83] [] [], none⟩,
    ⟨some 80, .mv (.t 84), none⟩,
    ⟨some 85, .ext 0 (.t 80), none⟩,
    ⟨some 86, .ext 1 (.t 80), none⟩,
    ⟨some 14, .alloc [.str ⟨#[]⟩, .str ⟨#[]⟩, .bool false, .bool false, .int .i64 0, .nils 1], none⟩,
    ⟨none, .store 6 (.t 14) (.t 85), none⟩,
    ⟨some 15, .mv (.t 86), none⟩] [6, 7, 9, 12, 14, 15] [6, 9, 14, 13605])
  (.seq (.seq (.reg [⟨some 87, .load true 6 (.t 14), none⟩,
    ⟨some 88, .load true 6 (.t 6), none⟩,
    ⟨some 89, .call 330 [.t 87, .t 88] [] [], none⟩,
    ⟨some 90, .not (.t 89), none⟩,
    ⟨some 91, .mv (.t 90), none⟩,
    ⟨some 92, .mv (.t 15), some (91, false)⟩,
    ⟨some 93, .mv (.t 7), some (91, false)⟩,
    ⟨some 94, .beq true (.t 92) (.t 93), some (91, false)⟩,
    ⟨some 95, .pick (.t 91) (.k (.bool true)) (.t 94), none⟩] [9, 12, 95] [9, 13605])
  (.cond (.t 95) (.seq (.reg [⟨some 4, .mv (.k (.bool false)), none⟩] [4] [])
  (.ret)) (.skip)))
  (.seq (.reg [⟨some 13, .mv (.k (.int .i64 1)), none⟩] [9, 12, 13] [9, 13605])
  (.seq (.reg [⟨some 96, .load true 6 (.t 9), none⟩,
    ⟨some 97, .mv (.t 13), none⟩,
    ⟨some 98, .call 332 [.t 96, .t 97] [] [], none⟩,
    ⟨some 13, .mv (.t 98), none⟩] [12, 13] [])
  (.seq (.seq (.reg [⟨some 99, .mv (.t 13), none⟩,
    ⟨some 100, .bin .lss (.t 99) (.k (.int .i64 0)), none⟩] [12, 13, 100] [])
  (.cond (.t 100) (.seq (.reg [⟨some 4, .mv (.k (.bool false)), none⟩] [4] [])
  (.ret)) (.skip)))
  (.seq (.seq (.reg [⟨some 101, .mv (.t 13), none⟩,
    ⟨some 102, .mv (.t 12), none⟩,
    ⟨some 103, .bin .neq (.t 101) (.t 102), none⟩] [103] [])
  (.cond (.t 103) (.seq (.reg [⟨some 4, .mv (.k (.bool false)), none⟩] [4] [])
  (.ret)) (.skip)))
  (.seq (.reg [⟨some 4, .mv (.k (.bool true)), none⟩] [4] [])
  (.ret))))))))))))))))))))))))))
def laws_FnExactFeedSession.m : Fn := { np := 2, body := laws_FnExactFeedSession.b, res := [.tmp 4] }
def laws_FnExactFeedSession.k (M : Nat → Option Body) : Prop := M 355 = some (.code laws_FnExactFeedSession.m) ∧ laws_eqSession.k M ∧ laws_markSession.k M ∧ laws_heldSession.k M ∧ laws_szSession.k M ∧ laws_toSession.k M ∧ spec_FeedSession.k M ∧ impl_FeedSession.k M
end Mx

/-
  What the two FeedSession answer, and their law.
-/
namespace Mx
open Go
variable {M : Nat → Option Body}
theorem laws_szSession.says (h : laws_szSession.k M) (x : Session) (hx : x.inb.length ≤ maxLen) (hy : x.out.length ≤ maxLen) (hz : x.view.length ≤ maxLen) :
    ∃ n : Int, run M 340 [.a (encS x), .c (I 1048576)] [] = some (.c (I n), []) ∧ (n < 0 ∨ x.inb.length + x.out.length + x.view.length ≤ 1048576) := by
  have hm : maxLen = 9223372036854775807 := rfl
  have e1 : IntKind.i64.wrap (1048576 - (x.inb.length : Int)) = 1048576 - (x.inb.length : Int) := wrap_i64 (by omega) (by omega)
  by_cases c1 : 1048576 - (x.inb.length : Int) < 0
  · refine ⟨-1, run_code (b := laws_szSession.m) h.1 ⟨0, ?_⟩, .inl (by omega)⟩
    simp [exB, laws_szSession.m, laws_szSession.b, List.range_succ, e1, c1]
  have e2 : IntKind.i64.wrap (1048576 - (x.inb.length : Int) - x.out.length) = 1048576 - (x.inb.length : Int) - x.out.length := wrap_i64 (by omega) (by omega)
  by_cases c2 : 1048576 - (x.inb.length : Int) - x.out.length < 0
  · refine ⟨-1, run_code (b := laws_szSession.m) h.1 ⟨0, ?_⟩, .inl (by omega)⟩
    simp [exB, laws_szSession.m, laws_szSession.b, List.range_succ, e1, c1, e2, c2]
  have h1 := laws_szIntS.says h.2 x.view (by omega) (1048576 - (x.inb.length : Int) - x.out.length) (by omega) (by omega)
  by_cases c3 : 1048576 - (x.inb.length : Int) - x.out.length < x.view.length
  · rw [if_pos c3] at h1
    refine ⟨-1, run_code (b := laws_szSession.m) h.1 ⟨0, ?_⟩, .inl (by omega)⟩
    simp [exB, laws_szSession.m, laws_szSession.b, List.range_succ, e1, c1, e2, c2, h1]
  · rw [if_neg c3] at h1
    have c4 : ¬ 1048576 - (x.inb.length : Int) - x.out.length - x.view.length < 0 := by omega
    refine ⟨1048576 - (x.inb.length : Int) - x.out.length - x.view.length, run_code (b := laws_szSession.m) h.1 ⟨0, ?_⟩, .inr (by omega)⟩
    simp [exB, laws_szSession.m, laws_szSession.b, List.range_succ, e1, c1, e2, c2, h1, c4]
theorem laws_toSession.says (h : laws_toSession.k M) (x : Session) (hx : x.view.length ≤ 1048576) : run M 341 [.a (encS x)] [] = some (.a (encSo x), []) := by
  have h1 := laws_toIntS.says h.2 x.view hx
  refine run_code (b := laws_toSession.m) h.1 ⟨0, ?_⟩
  simp [exB, laws_toSession.m, laws_toSession.b, List.range_succ, h1, setAt, List.take_of_length_le]
theorem spec_l15Copy.says (h : spec_l15Copy.k M) (x : Session) (hx : x.view.length ≤ 1048576) : run M 195 [.a (encS x)] [] = some (.a (encSo x), []) := by
  have h1 : x.view.length ≤ 4294967296 := by omega
  refine run_code (b := spec_l15Copy.m) h ⟨0, ?_⟩
  simp [exB, spec_l15Copy.m, spec_l15Copy.b, List.range_succ, setAt, List.take_of_length_le, h1]
theorem impl_copyInts.says (h : impl_copyInts.k M) (l : List Int) (hx : l.length ≤ 1048576) : run M 134 [.c (ints l)] [] = some (.c (.sl true 1 (irow l)), []) := by
  have h1 : l.length ≤ 4294967296 := by omega
  refine run_code (b := impl_copyInts.m) h ⟨0, ?_⟩
  simp [exB, impl_copyInts.m, impl_copyInts.b, List.range_succ, List.take_of_length_le, h1]
theorem impl_copySession.says (h : impl_copySession.k M) (x : Session) (hx : x.view.length ≤ 1048576) : run M 190 [.a (encS x)] [] = some (.a (encSo x), []) := by
  have h1 := impl_copyInts.says h.2 x.view hx
  refine run_code (b := impl_copySession.m) h.1 ⟨0, ?_⟩
  simp [exB, impl_copySession.m, impl_copySession.b, List.range_succ, setAt, List.take_of_length_le, h1]

def feed (x : Session) (t : List UInt8) : Session × Bool := if x.over = true ∨ 400 < x.inb.length + t.length then (x, false) else ({ x with inb := x.inb ++ t }, true)
theorem feed_view (x : Session) (t : List UInt8) : (feed x t).1.view = x.view := by
  unfold feed; split <;> rfl
theorem spec_FeedSession.says (h : spec_FeedSession.k M) (x : Session) (t : List UInt8) (hx : x.view.length ≤ 1048576) (hi : x.inb.length ≤ 1048576) (ht : t.length ≤ 1048576) :
    run M 342 [.a (encS x), .c (S t)] [] = some (.tup [.a (encSo (feed x t).1), .c (.bool (feed x t).2)], []) := by
  have h1 := spec_l15Copy.says h.2 x hx
  have e1 : IntKind.i64.wrap ((x.inb.length : Int) + t.length) = (x.inb.length : Int) + t.length := wrap_i64 (by omega) (by omega)
  refine run_code (b := spec_FeedSession.m) h.1 ⟨0, ?_⟩
  cases ho : x.over with
  | true =>
    simp only [encS, encSo, ho] at h1
    simp [exB, spec_FeedSession.m, spec_FeedSession.b, List.range_succ, setAt, List.take_of_length_le, h1, ho, feed]
  | false =>
    simp only [encS, encSo, ho] at h1
    by_cases c1 : 400 < (t.length : Int)
    · have c2 : 400 < x.inb.length + t.length := by omega
      simp [exB, spec_FeedSession.m, spec_FeedSession.b, List.range_succ, setAt, List.take_of_length_le, h1, ho, feed, c1, c2]
    · by_cases c2 : 400 < (x.inb.length : Int) + t.length
      · have c3 : 400 < x.inb.length + t.length := by omega
        simp [exB, spec_FeedSession.m, spec_FeedSession.b, List.range_succ, setAt, List.take_of_length_le, h1, ho, feed, c1, c2, c3, e1]
      · have c3 : ¬ 400 < x.inb.length + t.length := by omega
        have c4 : x.inb.length + t.length ≤ 4611686018427387904 := by omega
        simp (disch := (first | omega | (simp; done) | (simp; omega))) [exB, spec_FeedSession.m, spec_FeedSession.b, List.range_succ, setAt, List.take_of_length_le, h1, ho, feed, c1, c2, c3, e1]
theorem impl_FeedSession.says (h : impl_FeedSession.k M) (x : Session) (t : List UInt8) (hx : x.view.length ≤ 1048576) (hi : x.inb.length ≤ 1048576) (ht : t.length ≤ 1048576) :
    run M 343 [.a (encS x), .c (S t)] [] = some (.tup [.a (encSo (feed x t).1), .c (.bool (feed x t).2)], []) := by
  have h1 := impl_copySession.says h.2 x hx
  have e1 : IntKind.i64.wrap ((x.inb.length : Int) + t.length) = (x.inb.length : Int) + t.length := wrap_i64 (by omega) (by omega)
  refine run_code (b := impl_FeedSession.m) h.1 ⟨0, ?_⟩
  cases ho : x.over with
  | true =>
    simp only [encS, encSo, ho] at h1
    simp [exB, impl_FeedSession.m, impl_FeedSession.b, List.range_succ, setAt, List.take_of_length_le, h1, ho, feed]
  | false =>
    simp only [encS, encSo, ho] at h1
    by_cases c2 : 400 < (x.inb.length : Int) + t.length
    · have c3 : 400 < x.inb.length + t.length := by omega
      simp [exB, impl_FeedSession.m, impl_FeedSession.b, List.range_succ, setAt, List.take_of_length_le, h1, ho, feed, c2, c3, e1]
    · have c3 : ¬ 400 < x.inb.length + t.length := by omega
      have c4 : x.inb.length + t.length ≤ 4611686018427387904 := by omega
      simp (disch := (first | omega | (simp; done) | (simp; omega))) [exB, impl_FeedSession.m, impl_FeedSession.b, List.range_succ, setAt, List.take_of_length_le, h1, ho, feed, c2, c3, e1]

set_option maxHeartbeats 2000000 in
theorem laws_FnExactFeedSession.says (h : laws_FnExactFeedSession.k M) (x : Session) (t : List UInt8) (hx : x.inb.length ≤ maxLen) (hy : x.out.length ≤ maxLen) (hz : x.view.length ≤ maxLen) :
    run M 355 [.a (encS x), .c (S t)] [] = some (.c (.bool true), []) := by
  obtain ⟨h0, k1, k2, k3, k4, k5, k6, k7⟩ := h
  obtain ⟨n, hn, hs⟩ := laws_szSession.says k4 x hx hy hz
  refine run_code (b := laws_FnExactFeedSession.m) h0 ⟨0, ?_⟩
  by_cases c0 : (1048576 : Int) < t.length
  · simp [exB, laws_FnExactFeedSession.m, laws_FnExactFeedSession.b, List.range_succ, c0]
  by_cases c1 : n < 0
  · simp [exB, laws_FnExactFeedSession.m, laws_FnExactFeedSession.b, List.range_succ, c0, hn, c1, List.take_of_length_le]
  have hs' : x.inb.length + x.out.length + x.view.length ≤ 1048576 := by omega
  have h1 := laws_toSession.says k5 x (by omega)
  have h2 := spec_FeedSession.says k6 x t (by omega) (by omega) (by omega)
  have h3 := impl_FeedSession.says k7 x t (by omega) (by omega) (by omega)
  have hv := feed_view x t
  have h4 := laws_eqSession.says k1 (feed x t).1 (by rw [hv]; omega)
  have h5 := laws_eqSession.says k1 x (by omega)
  have h6 := laws_markSession.says k2 x 1 (by omega) (by omega) (by omega)
  have h7 := laws_markSession.says k2 (feed x t).1 1 (by omega) (by rw [hv]; omega) (by rw [hv]; omega)
  have h8 := laws_heldSession.says k3 (feed x t).1 x.view.length 1 (by omega) (by omega) (by omega)
  generalize (feed x t).2 = b at *
  generalize (feed x t).1 = y at *
  have e2 : ¬ 1 + (x.view.length : Int) < 0 := by omega
  simp only [encS, encSo, ints, hv] at hn h1 h2 h3 h4 h5 h7 h8
  simp (maxSteps := 2000000) [exB, laws_FnExactFeedSession.m, laws_FnExactFeedSession.b, List.range_succ, c0, hn, c1, h1, h2, h3, h4, h5, h6, h7, h8, hv, e2, setAt, List.take_of_length_le]
theorem laws_FnExactFeedSession.row (h : laws_FnExactFeedSession.k M) {as : List V} (ha : HasVs [.struct [.str, .str, .bool, .bool, .int .i64, .sl [.int .i64]], .cell .str] as) : run M 355 as [] = some (.c (.bool true), []) := by
  cases ha with | cons h0 ha =>
  cases ha with | cons h1 ha =>
  cases ha
  cases h0 with | struct h0 =>
  cases h1 with | cell h1 =>
  cases h1 with | str s _ =>
  obtain ⟨t, rfl⟩ := of_bytes s
  obtain ⟨x, rfl, hx, hy, hz⟩ := has_session h0
  exact laws_FnExactFeedSession.says h x t hx hy hz
end Mx
