/-
  JoinGone on both sides, and its law.
-/
import Derived.Test.YtpocolhpkkkmeaaMxTo
import Derived.Test.YtpocolhpkkkmeaaMxTob
set_option linter.unusedSimpArgs false
set_option linter.unusedVariables false
namespace Mx
open Go
variable {M : Nat → Option Body}
def guS (l : List Int) (x : Int) (i : Nat) (s : List Int) (m : Nat × Nat) : St := { t := [(0, .c (ints l)), (1, .c (I x)), (5, .c (.row 8 m.1 0 s.length)), (6, .c (I i))], o := [(8, ⟨m.1, 1, true, false, irow s⟩)], n := m.2 }
def guE (l : List Int) (x : Int) (s : List Int) (m : Nat × Nat) : St := { t := [(0, .c (ints l)), (1, .c (I x)), (5, .c (.row 8 m.1 0 s.length)), (6, .c (I l.length)), (12, .c (.bool false))], o := [(8, ⟨m.1, 1, true, false, irow s⟩)], n := m.2 }
def gvS (l : List Int) (x : Int) (i : Nat) (s : List Int) (m : Nat × Nat) : St := { t := [(0, .c (ints l)), (1, .c (I x)), (5, .c (.row 8 m.1 0 s.length)), (7, .c (I i))], o := [(8, ⟨m.1, 1, true, false, irow s⟩)], n := m.2 }
def gvE (l : List Int) (x : Int) (s : List Int) (m : Nat × Nat) : St := { t := [(0, .c (ints l)), (1, .c (I x)), (5, .c (.row 8 m.1 0 s.length)), (7, .c (I l.length)), (35, .c (.bool false))], o := [(8, ⟨m.1, 1, true, false, irow s⟩)], n := m.2 }
theorem filter_fold (p : Int → Bool) : ∀ (l s : List Int), l.foldl (fun s a => if p a = true then s ++ [a] else s) s = s ++ l.filter p
  | [], s => by simp
  | a :: l, s => by
    rw [List.foldl_cons, filter_fold p l, List.filter_cons]
    by_cases h : p a = true <;> simp [h]
theorem irow_snoc (s : List Int) (a : Int) : irow (s ++ [a]) = irow s ++ [[I a]] := by simp [irow]
theorem irow_length (s : List Int) : (irow s).length = s.length := by simp [irow]
theorem spec_l06Put.says (h : spec_l06Put.k M) (l : List Int) (x : Int) (hl : l.length ≤ 16777216) : run M 133 [.c (ints l), .c (I x)] [] = some (.c (.sl true 1 (irow (gput l x))), []) := by
  refine run_code (b := spec_l06Put.m) h ⟨l.length + 1, ?_⟩
  obtain ⟨g, hr⟩ := fold_loop (f := exC (run M) (l.length + 1) spec_l06Put.l0) l (fun s a => if decide (a < x) = true then s ++ [a] else s) (fun i s => s.length ≤ i) (guS l x) 0 (guE l x)
    (fun i h s hs => by split <;> (try simp) <;> omega)
    (fun i hi s m hs => by
      obtain ⟨v, m⟩ := m
      have e5 : IntKind.i64.wrap ((i : Int) + 1) = (i : Int) + 1 := wrap_i64 (by omega) (by omega)
      have e6 : s.length + 1 ≤ 4294967296 := by omega
      have e9 := irow_length s
      simp only [Prod.exists]
      by_cases c : l[i] < x
      · simp only [c, decide_true, if_true, guS, irow_snoc]
        generalize irow s = rr at *
        simp (maxSteps := 1000000) [spec_l06Put.l0, List.range_succ, bs_get, setAt, hi, c, e5, e6, e9, List.take_of_length_le]
      · simp only [c, decide_false, Bool.false_eq_true, if_false]
        simp (maxSteps := 1000000) [spec_l06Put.l0, List.range_succ, bs_get, setAt, guS, hi, c, e5])
    (fun s m hs => by
      obtain ⟨v, m⟩ := m
      simp only [Prod.exists]
      simp (maxSteps := 1000000) [spec_l06Put.l0, List.range_succ, bs_get, setAt, guS, guE]) [] (by simp)
  obtain ⟨g', hr'⟩ := fold_loop (f := exC (run M) (l.length + 1) spec_l06Put.l1) l (fun s a => if decide (x < a) = true then s ++ [a] else s) (fun i s => s.length ≤ l.length + 1 + i) (gvS l x) 2 (gvE l x)
    (fun i h s hs => by split <;> (try simp) <;> omega)
    (fun i hi s m hs => by
      obtain ⟨v, m⟩ := m
      have e5 : IntKind.i64.wrap ((i : Int) + 1) = (i : Int) + 1 := wrap_i64 (by omega) (by omega)
      have e6 : s.length + 1 ≤ 4294967296 := by omega
      have e9 := irow_length s
      simp only [Prod.exists]
      by_cases c : x < l[i]
      · simp only [c, decide_true, if_true, gvS, irow_snoc]
        generalize irow s = rr at *
        simp (maxSteps := 1000000) [spec_l06Put.l1, List.range_succ, bs_get, setAt, hi, c, e5, e6, e9, List.take_of_length_le]
      · simp only [c, decide_false, Bool.false_eq_true, if_false]
        simp (maxSteps := 1000000) [spec_l06Put.l1, List.range_succ, bs_get, setAt, gvS, hi, c, e5])
    (fun s m hs => by
      obtain ⟨v, m⟩ := m
      simp only [Prod.exists]
      simp (maxSteps := 1000000) [spec_l06Put.l1, List.range_succ, bs_get, setAt, gvS, gvE]) (l.filter (fun y => decide (y < x)) ++ [x]) (by have := List.length_filter_le (fun y => decide (y < x)) l; simp; omega)
  rw [filter_fold] at hr hr'
  have hfl := List.length_filter_le (fun y => decide (y < x)) l
  have e6 : (l.filter (fun y => decide (y < x))).length + 1 ≤ 4294967296 := by omega
  have e9 := irow_length (l.filter (fun y => decide (y < x)))
  have e10 := irow_length (l.filter (fun y => decide (y < x)) ++ [x] ++ l.filter (fun y => decide (x < y)))
  have e11 : (l.filter (fun y => decide (y < x)) ++ [x] ++ l.filter (fun y => decide (x < y))).length = (l.filter (fun y => decide (y < x))).length + ((l.filter (fun y => decide (x < y))).length + 1) := by simp only [List.length_append, List.length_singleton]; omega
  rw [e11] at e10
  have e12 := irow_snoc (l.filter (fun y => decide (y < x))) x
  unfold gput
  simp only [List.nil_append] at hr
  simp only [guS, guE, List.length_nil, e11] at hr
  simp only [gvS, gvE, e12, e11, List.length_append, List.length_singleton] at hr'
  generalize irow (l.filter (fun y => decide (y < x)) ++ [x] ++ l.filter (fun y => decide (x < y))) = r2 at *
  generalize irow (l.filter (fun y => decide (y < x))) = r1 at *
  simp [irow] at hr
  simp at hr'
  simp (maxSteps := 1000000) [exB, spec_l06Put.m, spec_l06Put.b, List.range_succ, bs_get, setAt, hr, hr', e6, e9, e10, List.take_of_length_le, irow]
/-! ## one list after the other -/
structure GX where
  w : Nat
  v8 : Nat
  v1 : Nat
  v2 : Nat
  r8 : List (List T)
  r1 : List (List T)
  n : Nat
def gO0 (s : List Int) (x : GX) : List (Nat × Ob) := match x.w with
  | 0 => [(8, ⟨x.v8, 1, true, false, irow s⟩)]
  | _ => [(8, ⟨x.v8, 1, true, false, x.r8⟩), (12700, ⟨x.v1, 1, true, false, irow s⟩)]
def gR0 (s : List Int) (x : GX) : T := match x.w with
  | 0 => .row 8 x.v8 0 s.length
  | _ => .row 12700 x.v1 0 s.length
def gO (s : List Int) (x : GX) : List (Nat × Ob) := match x.w with
  | 0 => [(8, ⟨x.v8, 1, true, false, irow s⟩)]
  | 1 => [(8, ⟨x.v8, 1, true, false, x.r8⟩), (12700, ⟨x.v1, 1, true, false, irow s⟩)]
  | 2 => [(8, ⟨x.v8, 1, true, false, x.r8⟩), (14600, ⟨x.v2, 1, true, false, irow s⟩)]
  | _ => [(8, ⟨x.v8, 1, true, false, x.r8⟩), (12700, ⟨x.v1, 1, true, false, x.r1⟩), (14600, ⟨x.v2, 1, true, false, irow s⟩)]
def gR (s : List Int) (x : GX) : T := match x.w with
  | 0 => .row 8 x.v8 0 s.length
  | 1 => .row 12700 x.v1 0 s.length
  | _ => .row 14600 x.v2 0 s.length
theorem GX.of {p : GX → Prop} (w r8 r1) (h : ∃ v8 v1 v2 n, p ⟨w, v8, v1, v2, r8, r1, n⟩) : ∃ x, p x := by
  obtain ⟨v8, v1, v2, n, h⟩ := h; exact ⟨_, h⟩
def gjS (a b : List Int) (i : Nat) (s : List Int) (x : GX) : St := { t := [(0, .c (ints a)), (1, .c (ints b)), (5, .c (gR0 s x)), (6, .c (I i))], o := gO0 s x, n := x.n }
def gjE (a b : List Int) (s : List Int) (x : GX) : St := { t := [(0, .c (ints a)), (1, .c (ints b)), (5, .c (gR0 s x)), (6, .c (I a.length)), (12, .c (.bool false))], o := gO0 s x, n := x.n }
def gkS (b : List Int) (i : Nat) (s : List Int) (x : GX) : St := { t := [(1, .c (ints b)), (5, .c (gR s x)), (7, .c (I i))], o := gO s x, n := x.n }
def gkE (b : List Int) (s : List Int) (x : GX) : St := { t := [(1, .c (ints b)), (5, .c (gR s x)), (7, .c (I b.length)), (31, .c (.bool false))], o := gO s x, n := x.n }
theorem irow_scalar (l : List Int) : (irow l).all (fun r => r.all T.scalar) = true := by simp [irow, T.scalar]
theorem spec_JoinGone.turn0 (k1 : spec_l06In.k M) (k2 : spec_l06Put.k M) (a b : List Int) (K i : Nat) (hi : i < a.length) (ha : a.length ≤ 1048576) (s : List Int) (hs : s.length ≤ i) (x : GX) :
    ∃ y, exC (run M) K spec_JoinGone.l0 (gjS a b i s x) = some (.normal, gjS a b (i + 1) (gadd s a[i]) y) := by
  have h1 := spec_l06In.says k1 s a[i] (by omega)
  have h2 := spec_l06Put.says k2 s a[i] (by omega)
  have e5 : IntKind.i64.wrap ((i : Int) + 1) = (i : Int) + 1 := wrap_i64 (by omega) (by omega)
  have e9 := irow_length s
  have e10 := irow_length (gput s a[i])
  have hfl := irow_scalar (gput s a[i])
  simp only [ints] at h1 h2
  obtain ⟨w, v8, v1, v2, r8, r1, n⟩ := x
  unfold gadd
  by_cases c : a[i] ∈ s
  · rw [if_pos c]
    rw [decide_eq_true c] at h1
    refine GX.of w r8 r1 ?_
    match w with
    | 0 => simp only [gjS, gO0, gR0]; generalize irow s = rr at *; simp (maxSteps := 1000000) [spec_JoinGone.l0, List.range_succ, bs_get, setAt, hi, h1, e5, e9, List.take_of_length_le]
    | w + 1 => simp only [gjS, gO0, gR0]; generalize irow s = rr at *; simp (maxSteps := 1000000) [spec_JoinGone.l0, List.range_succ, bs_get, setAt, hi, h1, e5, e9, List.take_of_length_le]
  · rw [if_neg c]
    rw [decide_eq_false c] at h1
    match w with
    | 0 =>
      refine GX.of 1 (irow s) r1 ?_
      simp only [gjS, gO0, gR0]; generalize irow (gput s a[i]) = r2 at *; generalize irow s = rr at *; simp (maxSteps := 1000000) [spec_JoinGone.l0, List.range_succ, bs_get, setAt, hi, h1, h2, e5, e9, e10, hfl, List.take_of_length_le]
    | w + 1 =>
      refine GX.of 1 r8 r1 ?_
      simp only [gjS, gO0, gR0]; generalize irow (gput s a[i]) = r2 at *; generalize irow s = rr at *; simp (maxSteps := 1000000) [spec_JoinGone.l0, List.range_succ, bs_get, setAt, hi, h1, h2, e5, e9, e10, hfl, List.take_of_length_le]
theorem spec_JoinGone.turn1 (k1 : spec_l06In.k M) (k2 : spec_l06Put.k M) (b : List Int) (K i : Nat) (hi : i < b.length) (hb : b.length ≤ 1048576) (s : List Int) (hs : s.length ≤ 1048576 + i) (x : GX) :
    ∃ y, exC (run M) K spec_JoinGone.l1 (gkS b i s x) = some (.normal, gkS b (i + 1) (gadd s b[i]) y) := by
  have h1 := spec_l06In.says k1 s b[i] (by omega)
  have h2 := spec_l06Put.says k2 s b[i] (by omega)
  have e5 : IntKind.i64.wrap ((i : Int) + 1) = (i : Int) + 1 := wrap_i64 (by omega) (by omega)
  have e9 := irow_length s
  have e10 := irow_length (gput s b[i])
  have hfl := irow_scalar (gput s b[i])
  simp only [ints] at h1 h2
  obtain ⟨w, v8, v1, v2, r8, r1, n⟩ := x
  unfold gadd
  by_cases c : b[i] ∈ s
  · rw [if_pos c]
    rw [decide_eq_true c] at h1
    refine GX.of w r8 r1 ?_
    match w with
    | 0 => simp only [gkS, gO, gR]; generalize irow s = rr at *; simp (maxSteps := 1000000) [spec_JoinGone.l1, List.range_succ, bs_get, setAt, hi, h1, e5, e9, List.take_of_length_le]
    | 1 => simp only [gkS, gO, gR]; generalize irow s = rr at *; simp (maxSteps := 1000000) [spec_JoinGone.l1, List.range_succ, bs_get, setAt, hi, h1, e5, e9, List.take_of_length_le]
    | 2 => simp only [gkS, gO, gR]; generalize irow s = rr at *; simp (maxSteps := 1000000) [spec_JoinGone.l1, List.range_succ, bs_get, setAt, hi, h1, e5, e9, List.take_of_length_le]
    | w + 3 => simp only [gkS, gO, gR]; generalize irow s = rr at *; simp (maxSteps := 1000000) [spec_JoinGone.l1, List.range_succ, bs_get, setAt, hi, h1, e5, e9, List.take_of_length_le]
  · rw [if_neg c]
    rw [decide_eq_false c] at h1
    match w with
    | 0 =>
      refine GX.of 2 (irow s) r1 ?_
      simp only [gkS, gO, gR]; generalize irow (gput s b[i]) = r2 at *; generalize irow s = rr at *; simp (maxSteps := 1000000) [spec_JoinGone.l1, List.range_succ, bs_get, setAt, hi, h1, h2, e5, e9, e10, hfl, List.take_of_length_le]
    | 1 =>
      refine GX.of 3 r8 (irow s) ?_
      simp only [gkS, gO, gR]; generalize irow (gput s b[i]) = r2 at *; generalize irow s = rr at *; simp (maxSteps := 1000000) [spec_JoinGone.l1, List.range_succ, bs_get, setAt, hi, h1, h2, e5, e9, e10, hfl, List.take_of_length_le]
    | 2 =>
      refine GX.of 2 r8 r1 ?_
      simp only [gkS, gO, gR]; generalize irow (gput s b[i]) = r2 at *; generalize irow s = rr at *; simp (maxSteps := 1000000) [spec_JoinGone.l1, List.range_succ, bs_get, setAt, hi, h1, h2, e5, e9, e10, hfl, List.take_of_length_le]
    | w + 3 =>
      refine GX.of 3 r8 r1 ?_
      simp only [gkS, gO, gR]; generalize irow (gput s b[i]) = r2 at *; generalize irow s = rr at *; simp (maxSteps := 1000000) [spec_JoinGone.l1, List.range_succ, bs_get, setAt, hi, h1, h2, e5, e9, e10, hfl, List.take_of_length_le]
theorem spec_JoinGone.says (h : spec_JoinGone.k M) (a b : List Int) (ha : a.length ≤ 1048576) (hb : b.length ≤ 1048576) : run M 43 [.c (ints a), .c (ints b)] [] = some (.c (.sl true 1 (irow (joinGone a b))), []) := by
  obtain ⟨h0, k1, k2⟩ := h
  refine run_code (b := spec_JoinGone.m) h0 ⟨a.length + b.length + 1, ?_⟩
  obtain ⟨g, hr⟩ := fold_loop (f := exC (run M) (a.length + b.length + 1) spec_JoinGone.l0) a gadd (fun i s => s.length ≤ i) (gjS a b) 0 (gjE a b)
    (fun i h s hs => by have := gadd_len s a[i]; omega)
    (fun i hi s x hs => spec_JoinGone.turn0 k1 k2 a b _ i hi ha s hs x)
    (fun s x hs => by
      obtain ⟨w, v8, v1, v2, r8, r1, n⟩ := x
      refine GX.of w r8 r1 ?_
      match w with
      | 0 => simp only [gjS, gjE, gO0, gR0]; simp (maxSteps := 1000000) [spec_JoinGone.l0, List.range_succ, bs_get, setAt]
      | w + 1 => simp only [gjS, gjE, gO0, gR0]; simp (maxSteps := 1000000) [spec_JoinGone.l0, List.range_succ, bs_get, setAt]) [] (by simp)
  have hla := gfold_len a []
  obtain ⟨g', hr'⟩ := fold_loop (f := exC (run M) (a.length + b.length + 1) spec_JoinGone.l1) b gadd (fun i s => s.length ≤ 1048576 + i) (gkS b) 2 (gkE b)
    (fun i h s hs => by have := gadd_len s b[i]; omega)
    (fun i hi s x hs => spec_JoinGone.turn1 k1 k2 b _ i hi hb s hs x)
    (fun s x hs => by
      obtain ⟨w, v8, v1, v2, r8, r1, n⟩ := x
      refine GX.of w r8 r1 ?_
      match w with
      | 0 => simp only [gkS, gkE, gO, gR]; simp (maxSteps := 1000000) [spec_JoinGone.l1, List.range_succ, bs_get, setAt]
      | 1 => simp only [gkS, gkE, gO, gR]; simp (maxSteps := 1000000) [spec_JoinGone.l1, List.range_succ, bs_get, setAt]
      | 2 => simp only [gkS, gkE, gO, gR]; simp (maxSteps := 1000000) [spec_JoinGone.l1, List.range_succ, bs_get, setAt]
      | w + 3 => simp only [gkS, gkE, gO, gR]; simp (maxSteps := 1000000) [spec_JoinGone.l1, List.range_succ, bs_get, setAt]) (a.foldl gadd []) (by simp at hla ⊢; omega)
  have hr2 := fun x => loopN_le (hr x) (show a.length + 1 ≤ a.length + b.length + 1 by omega)
  have hr3 := fun x => loopN_le (hr' x) (show b.length + 1 ≤ a.length + b.length + 1 by omega)
  have hj : b.foldl gadd (a.foldl gadd []) = joinGone a b := by rw [joinGone, List.foldl_append]
  rw [hj] at hr3
  have e9 := irow_length (joinGone a b)
  generalize joinGone a b = j at *
  generalize a.foldl gadd [] = s at *
  have hr4 : ∀ y : GX, ∃ z : GX, loopN (exC (run M) (a.length + b.length + 1) spec_JoinGone.l1) (a.length + b.length + 1) (gkS b 0 s y) = some (.exit 2, gkE b j z) := fun y => ⟨_, hr3 y⟩
  have hq := hr2 ⟨0, 2000016, 0, 0, [], [], 2000064⟩
  generalize g ⟨0, 2000016, 0, 0, [], [], 2000064⟩ = y at hq
  clear hr hr2 hr' hr3
  obtain ⟨w, v8, v1, v2, r8, r1, n⟩ := y
  match w with
  | 0 =>
    obtain ⟨⟨w', u8, u1, u2, q8, q1, m⟩, hz⟩ := hr4 ⟨0, v8, v1, v2, r8, r1, n + 16⟩
    simp [gjS, gjE, gO0, gR0, irow] at hq
    match w' with
    | 0 => simp [gkS, gkE, gO, gR, irow] at hz; simp only [irow] at e9 ⊢; simp (maxSteps := 1000000) [exB, spec_JoinGone.m, spec_JoinGone.b, List.range_succ, bs_get, setAt, hq, hz, e9, List.take_of_length_le]
    | 1 => simp [gkS, gkE, gO, gR, irow] at hz; simp only [irow] at e9 ⊢; simp (maxSteps := 1000000) [exB, spec_JoinGone.m, spec_JoinGone.b, List.range_succ, bs_get, setAt, hq, hz, e9, List.take_of_length_le]
    | 2 => simp [gkS, gkE, gO, gR, irow] at hz; simp only [irow] at e9 ⊢; simp (maxSteps := 1000000) [exB, spec_JoinGone.m, spec_JoinGone.b, List.range_succ, bs_get, setAt, hq, hz, e9, List.take_of_length_le]
    | w' + 3 => simp [gkS, gkE, gO, gR, irow] at hz; simp only [irow] at e9 ⊢; simp (maxSteps := 1000000) [exB, spec_JoinGone.m, spec_JoinGone.b, List.range_succ, bs_get, setAt, hq, hz, e9, List.take_of_length_le]
  | w + 1 =>
    obtain ⟨⟨w', u8, u1, u2, q8, q1, m⟩, hz⟩ := hr4 ⟨1, v8, v1, v2, r8, r1, n + 16⟩
    simp [gjS, gjE, gO0, gR0, irow] at hq
    match w' with
    | 0 => simp [gkS, gkE, gO, gR, irow] at hz; simp only [irow] at e9 ⊢; simp (maxSteps := 1000000) [exB, spec_JoinGone.m, spec_JoinGone.b, List.range_succ, bs_get, setAt, hq, hz, e9, List.take_of_length_le]
    | 1 => simp [gkS, gkE, gO, gR, irow] at hz; simp only [irow] at e9 ⊢; simp (maxSteps := 1000000) [exB, spec_JoinGone.m, spec_JoinGone.b, List.range_succ, bs_get, setAt, hq, hz, e9, List.take_of_length_le]
    | 2 => simp [gkS, gkE, gO, gR, irow] at hz; simp only [irow] at e9 ⊢; simp (maxSteps := 1000000) [exB, spec_JoinGone.m, spec_JoinGone.b, List.range_succ, bs_get, setAt, hq, hz, e9, List.take_of_length_le]
    | w' + 3 => simp [gkS, gkE, gO, gR, irow] at hz; simp only [irow] at e9 ⊢; simp (maxSteps := 1000000) [exB, spec_JoinGone.m, spec_JoinGone.b, List.range_succ, bs_get, setAt, hq, hz, e9, List.take_of_length_le]
theorem run_sort (h : M 135 = some (.ext sortG)) (zs : List Int) (hz : zs.length ≤ 4294967296) : run M 135 [.c (.row 0 0 0 zs.length)] [(0, ⟨0, 1, true, false, irow zs⟩)] = some (.tup [], [(0, ⟨0, 1, true, false, irow (sortI zs)⟩)]) := by
  refine run_ext h ?_
  simp [sortG, lentInts, rowsInts_irow, hz]
theorem run_compact (h : M 136 = some (.ext compactG)) (zs : List Int) (hz : zs.length ≤ 4294967296) :
    run M 136 [.c (.row 0 0 0 zs.length)] [(0, ⟨0, 1, true, false, irow zs⟩)] = some (.c (.row 0 0 0 (Lib.compact zs).length), [(0, ⟨0, 1, true, false, irow (Lib.compact zs ++ List.replicate (zs.length - (Lib.compact zs).length) 0)⟩)]) := by
  refine run_ext h ?_
  simp [compactG, lentInts, rowsInts_irow, hz]
theorem impl_JoinGone.says (h : impl_JoinGone.k M) (a b : List Int) (ha : a.length ≤ 1048576) (hb : b.length ≤ 1048576) : run M 44 [.c (ints a), .c (ints b)] [] = some (.c (.sl true 1 (irow (joinGone a b))), []) := by
  obtain ⟨h0, k1, k2, k3⟩ := h
  have h1 := impl_copyInts.says k1 a ha
  have hab : (a ++ b).length ≤ 4294967296 := by simp; omega
  have h2 := run_sort k2 (a ++ b) hab
  have hsl : (sortI (a ++ b)).length = (a ++ b).length := by simp [sortI]
  have h3 := run_compact k3 (sortI (a ++ b)) (by rw [hsl]; exact hab)
  rw [joinGone_sort] at h3
  have hjl : (joinGone a b).length ≤ (a ++ b).length := by
    have := gfold_len (a ++ b) []; simp only [joinGone]; simpa using this
  refine run_code (b := impl_JoinGone.m) h0 ⟨0, ?_⟩
  rw [hsl] at h3
  have e1 : irow (a ++ b) = irow a ++ irow b := by simp [irow]
  have e2 : irow (joinGone a b ++ List.replicate ((a ++ b).length - (joinGone a b).length) 0) = irow (joinGone a b) ++ irow (List.replicate ((a ++ b).length - (joinGone a b).length) 0) := by simp [irow]
  rw [e1] at h2
  rw [e2] at h3
  simp only [List.length_append] at h2 h3 hab hjl
  have l1 := irow_length a
  have l2 := irow_length b
  have l3 := irow_length (joinGone a b)
  have l4 : (irow (List.replicate (a.length + b.length - (joinGone a b).length) 0)).length = a.length + b.length - (joinGone a b).length := by simp [irow]
  have s1 := irow_scalar (sortI (a ++ b))
  have s2 := irow_scalar (joinGone a b)
  have l5 := irow_length (sortI (a ++ b))
  rw [hsl] at l5
  simp only [List.length_append] at l5
  simp only [ints] at h1 ⊢
  generalize irow (List.replicate (a.length + b.length - (joinGone a b).length) 0) = rz at *
  generalize irow (sortI (a ++ b)) = rs at *
  generalize joinGone a b = j at *
  generalize irow j = rj at *
  have e5 : a.length ≤ 4294967296 := by omega
  have e6 : j.length ≤ rj.length + rz.length := by omega
  generalize irow a = ra at *
  generalize irow b = rb at *
  simp (maxSteps := 1000000) [exB, impl_JoinGone.m, impl_JoinGone.b, List.range_succ, bs_get, setAt, h1, h2, h3, hab, l1, l2, l3, l4, l5, e5, List.take_of_length_le]
set_option maxHeartbeats 1000000 in
theorem laws_FnExactJoinGone.says (h : laws_FnExactJoinGone.k M) (a b : List Int) (ha : a.length ≤ maxLen) (hb : b.length ≤ maxLen) : run M 369 [.c (ints a), .c (ints b)] [] = some (.c (.bool true), []) := by
  obtain ⟨h0, k1, k2, k3, k4, k5, k6⟩ := h
  refine run_code (b := laws_FnExactJoinGone.m) h0 ⟨0, ?_⟩
  have hm : maxLen = 9223372036854775807 := rfl
  by_cases c1 : (1048576 : Int) < a.length
  · simp (maxSteps := 1000000) [exB, laws_FnExactJoinGone.m, laws_FnExactJoinGone.b, List.range_succ, bs_get, setAt, c1]
  by_cases c2 : (1048576 : Int) < b.length
  · simp (maxSteps := 1000000) [exB, laws_FnExactJoinGone.m, laws_FnExactJoinGone.b, List.range_succ, bs_get, setAt, c1, c2]
  have hjl : (joinGone a b).length ≤ a.length + b.length := by
    have := gfold_len (a ++ b) []; simp only [joinGone]; simpa using this
  have h1 := laws_toIntS.says k1 a (by omega)
  have h2 := laws_toIntS.says k1 b (by omega)
  have h3 := spec_JoinGone.says k2 a b (by omega) (by omega)
  have h4 := impl_JoinGone.says k3 a b (by omega) (by omega)
  generalize joinGone a b = j at *
  have h5 := laws_eqIntS.says k4 a (by omega)
  have h6 := laws_eqIntS.says k4 b (by omega)
  have h7 := laws_eqIntS.says k4 j (by omega)
  have h8 := laws_markIntS.says k5 a 1 (by omega) (by omega) (by omega)
  have h9 := laws_markIntS.says k5 b (1 + a.length) (by omega) (by omega) (by omega)
  have h10 := laws_markIntS.says k5 j 1 (by omega) (by omega) (by omega)
  have h11 := laws_heldIntS.says k6 j.length 1 (by omega) (by omega) (by omega)
  have e1 : ¬ 1 + (a.length : Int) + b.length < 0 := by omega
  have e2 : ¬ 1 + (j.length : Int) < 0 := by omega
  have l1 := irow_length a
  have l2 := irow_length b
  have l3 := irow_length j
  have s1 := irow_scalar a
  have s2 := irow_scalar b
  have s3 := irow_scalar j
  have l4 : (irow (upto 1 j.length)).length = j.length := by rw [irow_length]; simp [upto]
  simp only [ints] at *
  simp (maxSteps := 1000000) [exB, laws_FnExactJoinGone.m, laws_FnExactJoinGone.b, List.range_succ, bs_get, setAt, c1, c2, h1, h2, h3, h4, h5, h6, h7, h8, h9, h10, h11, e1, e2, l1, l2, l3, l4, s1, s2, s3, List.take_of_length_le]
theorem laws_FnExactJoinGone.row (h : laws_FnExactJoinGone.k M) {as : List V} (ha : HasVs [.cell (.sl [.int .i64]), .cell (.sl [.int .i64])] as) : run M 369 as [] = some (.c (.bool true), []) := by
  cases ha with | cons h0 ha =>
  cases ha with | cons h1 ha =>
  cases ha
  cases h0 with | cell h0 =>
  cases h1 with | cell h1 =>
  have key : ∀ {t : T}, Has (.sl [.int .i64]) t → ∃ l : List Int, t = ints l ∧ l.length ≤ maxLen := by
    intro t ht
    obtain ⟨l, rfl, hl, _⟩ := has_list (fun n : Int => [I n]) (fun _ => True) (fun r hr => by
      match r, hr with
      | [a], hr => obtain ⟨n, rfl⟩ := has_int (hr.2 0 _ a rfl rfl); exact ⟨n, rfl, trivial⟩) ht
    exact ⟨l, rfl, hl⟩
  obtain ⟨a, rfl, ha⟩ := key h0
  obtain ⟨b, rfl, hb⟩ := key h1
  exact laws_FnExactJoinGone.says h a b ha hb
end Mx

/-
  What are flags.
-/
namespace Mx
open Go
variable {M : Nat → Option Body}
theorem impl_isFlags.says (h : impl_isFlags.k M) (n : Int) : run M 148 [.c (I n)] [] = some (.c (.bool (inR 0 n 7)), []) := by
  have h1 := impl_within.inR h.2 n 0 7
  refine run_code (b := impl_isFlags.m) h.1 ⟨0, ?_⟩
  simp (maxSteps := 1000000) [exB, impl_isFlags.m, impl_isFlags.b, List.range_succ, bs_get, setAt, h1]
end Mx

/-
  Small codes: slices.IndexFunc[[]impl.Box,impl.Box], impl.BoxNamed$1, impl.BoxNamed, impl.isLate, impl.StoreOk, spec.BoxNamed, spec.l07Times, spec.StoreOk.
-/
namespace Mx
open Go
def slices_IndexFunc_impl_Box_impl_Box.l0 : C := .seq (.reg [⟨some 9, .bin .lss (.t 8) (.t 7), none⟩] [0, 1, 7, 8, 9] [])
  (.seq (.cond (.t 9) (.skip) (.exit 0))
  (.seq (.block 1 (.seq (.reg [⟨some 10, .mv (.t 8), none⟩,
    ⟨some 5, .mv (.t 10), none⟩] [0, 1, 5, 7, 8] [])
  (.seq (.reg [⟨some 11, .mv (.t 1), none⟩,
    ⟨some 12, .mv (.t 0), none⟩,
    ⟨some 13, .mv (.t 5), none⟩,
    ⟨some 14, .iaddr 7 (.t 12) (.t 13), none⟩,
    ⟨some 15, .load true 7 (.t 14), none⟩,
    ⟨some 16, .callv (.t 11) [.t 15], none⟩] [0, 1, 5, 7, 8, 16] [])
  (.cond (.t 16) (.seq (.reg [⟨some 17, .mv (.t 5), none⟩,
    ⟨some 4, .mv (.t 17), none⟩] [4] [])
  (.ret)) (.skip)))))
  (.reg [⟨some 18, .bin .add (.t 8) (.k (.int .i64 1)), none⟩,
    ⟨some 8, .mv (.t 18), none⟩] [0, 1, 7, 8] [])))
def slices_IndexFunc_impl_Box_impl_Box.b : C := .seq (.reg [⟨some 4, .mv (.k (.int .i64 0)), none⟩] [0, 1] [])
  (.seq (.seq (.reg [⟨some 6, .mv (.t 0), none⟩,
    ⟨some 7, .len (.t 6), none⟩,
    ⟨some 8, .mv (.k (.int .i64 0)), none⟩] [0, 1, 7, 8] [])
  (.block 0 (.loop slices_IndexFunc_impl_Box_impl_Box.l0)))
  (.seq (.reg [⟨some 4, .mv (.k (.int .i64 (-1))), none⟩] [4] [])
  (.ret)))
def slices_IndexFunc_impl_Box_impl_Box.m : Fn := { np := 2, body := slices_IndexFunc_impl_Box_impl_Box.b, res := [.tmp 4] }
def slices_IndexFunc_impl_Box_impl_Box.k (M : Nat → Option Body) : Prop := M 200 = some (.code slices_IndexFunc_impl_Box_impl_Box.m)
def impl_BoxNamed_1.b : C := .seq (.reg [⟨some 2, .box (.t 0), none⟩,
    ⟨some 3, .mv (.k (.bool false)), none⟩] [1, 2] [2])
  (.seq (.reg [⟨some 4, .faddr 1 (.t 2), none⟩,
    ⟨some 5, .load false 1 (.t 4), none⟩,
    ⟨some 6, .load false 1 (.t 1), none⟩,
    ⟨some 7, .bin .eql (.t 5) (.t 6), none⟩,
    ⟨some 3, .mv (.t 7), none⟩] [3] [])
  (.ret))
def impl_BoxNamed_1.m : Fn := { np := 2, body := impl_BoxNamed_1.b, res := [.tmp 3] }
def impl_BoxNamed_1.k (M : Nat → Option Body) : Prop := M 271 = some (.code impl_BoxNamed_1.m)
def impl_BoxNamed.b : C := .seq (.reg [⟨some 2, .box (.t 0), none⟩,
    ⟨some 3, .box (.t 1), none⟩,
    ⟨some 4, .mv (.k (.int .i64 0)), none⟩] [2, 3] [2, 3])
  (.seq (.reg [⟨some 5, .faddr 2 (.t 2), none⟩,
    ⟨some 6, .load false 1 (.t 5), none⟩,
    ⟨some 7, .mkfn 271 [.t 3], none⟩,
    ⟨some 8, .call 200 [.t 6, .t 7] [] [], none⟩,
    ⟨some 4, .mv (.t 8), none⟩] [4] [])
  (.ret))
def impl_BoxNamed.m : Fn := { np := 2, body := impl_BoxNamed.b, res := [.tmp 4] }
def impl_BoxNamed.k (M : Nat → Option Body) : Prop := M 228 = some (.code impl_BoxNamed.m) ∧ slices_IndexFunc_impl_Box_impl_Box.k M ∧ impl_BoxNamed_1.k M
def impl_isLate.l1 : C := .seq (.reg [⟨some 20, .bin .lss (.t 19) (.t 18), none⟩] [1, 2, 10, 11, 12, 17, 18, 19, 20] [2])
  (.seq (.cond (.t 20) (.skip) (.exit 2))
  (.seq (.block 3 (.seq (.reg [⟨some 21, .iaddr 3 (.t 17) (.t 19), none⟩,
    ⟨some 22, .load true 3 (.t 21), none⟩,
    ⟨some 8, .alloc [.int .i64 0, .int .i64 0, .int .i64 0], none⟩,
    ⟨none, .store 3 (.t 8) (.t 22), none⟩] [1, 2, 8, 10, 11, 12, 17, 18, 19] [2, 8])
  (.seq (.reg [⟨some 23, .faddr 1 (.t 8), none⟩,
    ⟨some 24, .faddr 0 (.t 23), none⟩,
    ⟨some 25, .load false 1 (.t 24), none⟩,
    ⟨some 26, .mv (.t 1), none⟩,
    ⟨some 27, .bin .gtr (.t 25) (.t 26), none⟩] [1, 2, 10, 11, 12, 17, 18, 19, 27] [2])
  (.cond (.t 27) (.seq (.reg [⟨some 4, .mv (.k (.bool true)), none⟩] [4] [])
  (.ret)) (.skip)))))
  (.reg [⟨some 28, .bin .add (.t 19) (.k (.int .i64 1)), none⟩,
    ⟨some 19, .mv (.t 28), none⟩] [1, 2, 10, 11, 12, 17, 18, 19] [2])))
def impl_isLate.l0 : C := .seq (.reg [⟨some 13, .bin .lss (.t 12) (.t 11), none⟩] [1, 2, 10, 11, 12, 13] [2])
  (.seq (.cond (.t 13) (.skip) (.exit 0))
  (.seq (.block 1 (.seq (.reg [⟨some 14, .iaddr 4 (.t 10) (.t 12), none⟩,
    ⟨some 15, .load true 4 (.t 14), none⟩,
    ⟨some 6, .alloc [.int .i64 0, .int .i64 0, .nils 3, .str ⟨#[]⟩], none⟩,
    ⟨none, .store 4 (.t 6) (.t 15), none⟩] [1, 2, 6, 10, 11, 12] [2, 6])
  (.seq (.reg [⟨some 16, .faddr 2 (.t 6), none⟩,
    ⟨some 17, .load false 1 (.t 16), none⟩,
    ⟨some 18, .len (.t 17), none⟩,
    ⟨some 19, .mv (.k (.int .i64 0)), none⟩] [1, 2, 10, 11, 12, 17, 18, 19] [2])
  (.block 2 (.loop impl_isLate.l1)))))
  (.reg [⟨some 29, .bin .add (.t 12) (.k (.int .i64 1)), none⟩,
    ⟨some 12, .mv (.t 29), none⟩] [1, 2, 10, 11, 12] [2])))
def impl_isLate.b : C := .seq (.reg [⟨some 2, .box (.t 0), none⟩,
    ⟨some 4, .mv (.k (.bool false)), none⟩] [1, 2] [2])
  (.seq (.seq (.reg [⟨some 9, .faddr 5 (.t 2), none⟩,
    ⟨some 10, .load false 1 (.t 9), none⟩,
    ⟨some 11, .len (.t 10), none⟩,
    ⟨some 12, .mv (.k (.int .i64 0)), none⟩] [1, 2, 10, 11, 12] [2])
  (.block 0 (.loop impl_isLate.l0)))
  (.seq (.reg [⟨some 30, .faddr 2 (.t 2), none⟩,
    ⟨some 31, .faddr 0 (.t 30), none⟩,
    ⟨some 32, .load false 1 (.t 31), none⟩,
    ⟨some 33, .mv (.t 1), none⟩,
    ⟨some 34, .bin .gtr (.t 32) (.t 33), none⟩,
    ⟨some 4, .mv (.t 34), none⟩] [4] [])
  (.ret)))
def impl_isLate.m : Fn := { np := 2, body := impl_isLate.b, res := [.tmp 4] }
def impl_isLate.k (M : Nat → Option Body) : Prop := M 229 = some (.code impl_isLate.m)
def impl_StoreOk.l1 : C := .seq (.reg [⟨some 83, .bin .lss (.t 82) (.t 81), none⟩] [1, 3, 32, 33, 34, 80, 81, 82, 83] [1, 30, 94])
  (.seq (.cond (.t 83) (.skip) (.exit 2))
  (.seq (.block 3 (.seq (.reg [⟨some 84, .iaddr 4 (.t 80) (.t 82), none⟩,
    ⟨some 85, .load true 4 (.t 84), none⟩,
    ⟨some 7, .alloc [.int .i64 0, .int .i64 0, .nils 3, .str ⟨#[]⟩], none⟩,
    ⟨none, .store 4 (.t 7) (.t 85), none⟩] [1, 3, 7, 32, 33, 34, 80, 81, 82] [1, 7, 30, 94])
  (.seq (.seq (.reg [⟨some 86, .mv (.t 3), none⟩,
    ⟨some 87, .faddr 0 (.t 7), none⟩,
    ⟨some 88, .load false 1 (.t 87), none⟩,
    ⟨some 89, .call 156 [.t 86, .t 88] [] [], none⟩] [1, 3, 7, 32, 33, 34, 80, 81, 82, 89] [1, 7, 30, 94])
  (.cond (.t 89) (.seq (.reg [⟨some 2, .mv (.k (.bool false)), none⟩] [2] [])
  (.ret)) (.skip)))
  (.reg [⟨some 90, .mv (.t 3), none⟩,
    ⟨some 91, .faddr 0 (.t 7), none⟩,
    ⟨some 92, .load false 1 (.t 91), none⟩,
    ⟨some 93, .bslice 1 1 [.int .i64 0] [(0, .t 92)], none⟩,
    ⟨some 94, .app 1 8 (.t 90) (.t 93), none⟩,
    ⟨some 3, .mv (.t 94), none⟩] [1, 3, 32, 33, 34, 80, 81, 82] [1, 30, 94]))))
  (.reg [⟨some 95, .bin .add (.t 82) (.k (.int .i64 1)), none⟩,
    ⟨some 82, .mv (.t 95), none⟩] [1, 3, 32, 33, 34, 80, 81, 82] [1, 30, 94])))
def impl_StoreOk.l0 : C := .seq (.reg [⟨some 35, .bin .lss (.t 34) (.t 33), none⟩] [1, 3, 32, 33, 34, 35] [1, 30, 94])
  (.seq (.cond (.t 35) (.skip) (.exit 0))
  (.seq (.block 1 (.seq (.reg [⟨some 36, .mv (.t 34), none⟩,
    ⟨some 37, .iaddr 7 (.t 32) (.t 34), none⟩,
    ⟨some 38, .load true 7 (.t 37), none⟩,
    ⟨some 5, .alloc [.int .i64 0, .str ⟨#[]⟩, .int .i64 0, .int .i64 0, .int .i64 0, .nils 4, .nils 1], none⟩,
    ⟨some 4, .mv (.t 36), none⟩,
    ⟨none, .store 7 (.t 5) (.t 38), none⟩] [1, 3, 4, 5, 32, 33, 34] [1, 5, 30, 94])
  (.seq (.seq (.regd [⟨some 39, .load true 7 (.t 5), none⟩,
    ⟨some 40, .call 74 [.t 39] [] [], none⟩,
    ⟨some 41, .not (.t 40), none⟩,
    ⟨some 42, .mv (.t 41), none⟩,
    ⟨some 43, .mv (.t 4), some (42, false)⟩,
    ⟨some 44, .bin .gtr (.t 43) (.k (.int .i64 0)), some (42, false)⟩,
    ⟨some 45, .mv (.t 44), some (42, false)⟩,
    ⟨some 46, .faddr 2 (.t 1), some (45, true)⟩,
    ⟨some 47, .load false 1 (.t 46), some (45, true)⟩,
    ⟨some 48, .mv (.t 4), some (45, true)⟩,
    ⟨some 49, .bin .sub (.t 48) (.k (.int .i64 1)), some (45, true)⟩,
    ⟨some 50, .iaddr 7 (.t 47) (.t 49), some (45, true)⟩,
    ⟨some 51, .faddr 0 (.t 50), some (45, true)⟩,
    ⟨some 52, .load false 1 (.t 51), some (45, true)⟩,
    ⟨some 53, .faddr 0 (.t 5), some (45, true)⟩,
    ⟨some 54, .load false 1 (.t 53), some (45, true)⟩,
    ⟨some 55, .bin .geq (.t 52) (.t 54), some (45, true)⟩,
    ⟨some 56, .pick (.t 45) (.t 55) (.k (.bool false)), some (42, false)⟩,
    ⟨some 57, .pick (.t 42) (.k (.bool true)) (.t 56), none⟩,
    ⟨some 58, .mv (.t 57), none⟩,
    ⟨some 59, .load true 4 (.t 1), some (58, false)⟩,
    ⟨some 60, .faddr 1 (.t 5), some (58, false)⟩,
    ⟨some 61, .load false 1 (.t 60), some (58, false)⟩,
    ⟨some 62, .call 228 [.t 59, .t 61] [] [], some (58, false)⟩,
    ⟨some 63, .mv (.t 4), some (58, false)⟩,
    ⟨some 64, .bin .neq (.t 62) (.t 63), some (58, false)⟩,
    ⟨some 65, .pick (.t 58) (.k (.bool true)) (.t 64), none⟩,
    ⟨some 66, .mv (.t 65), none⟩,
    ⟨some 67, .faddr 3 (.t 1), some (66, false)⟩,
    ⟨some 68, .load false 1 (.t 67), some (66, false)⟩,
    ⟨some 69, .faddr 0 (.t 5), some (66, false)⟩,
    ⟨some 70, .load false 1 (.t 69), some (66, false)⟩,
    ⟨some 71, .call 156 [.t 68, .t 70] [] [], some (66, false)⟩,
    ⟨some 72, .pick (.t 66) (.k (.bool true)) (.t 71), none⟩,
    ⟨some 73, .mv (.t 72), none⟩,
    ⟨some 74, .load true 7 (.t 5), some (73, false)⟩,
    ⟨some 75, .faddr 1 (.t 1), some (73, false)⟩,
    ⟨some 76, .load false 1 (.t 75), some (73, false)⟩,
    ⟨some 77, .call 229 [.t 74, .t 76] [] [], some (73, false)⟩,
    ⟨some 78, .pick (.t 73) (.k (.bool true)) (.t 77), none⟩] [[], [0], [0, 1], [0, 1, 2], List.range 4, List.range 5, List.range 6, List.range 7, List.range 8, List.range 7, List.range 7 ++ [9], List.range 11, List.range 12, List.range 13, List.range 7, List.range 7 ++ [14], List.range 16, List.range 17, List.range 18, List.range 19, List.range 20, List.range 20, List.range 20 ++ [21], List.range 23, List.range 20, List.range 25, List.range 26, List.range 27, List.range 28, List.range 29, List.range 28, List.range 28 ++ [30], List.range 32, List.range 33, List.range 34, List.range 35, List.range 35, List.range 35 ++ [36], List.range 38, List.range 39] [1, 3, 5, 32, 33, 34, 78] [1, 5, 30, 94])
  (.cond (.t 78) (.seq (.reg [⟨some 2, .mv (.k (.bool false)), none⟩] [2] [])
  (.ret)) (.skip)))
  (.seq (.reg [⟨some 79, .faddr 5 (.t 5), none⟩,
    ⟨some 80, .load false 1 (.t 79), none⟩,
    ⟨some 81, .len (.t 80), none⟩,
    ⟨some 82, .mv (.k (.int .i64 0)), none⟩] [1, 3, 32, 33, 34, 80, 81, 82] [1, 30, 94])
  (.block 2 (.loop impl_StoreOk.l1))))))
  (.reg [⟨some 96, .bin .add (.t 34) (.k (.int .i64 1)), none⟩,
    ⟨some 34, .mv (.t 96), none⟩] [1, 3, 32, 33, 34] [1, 30, 94])))
def impl_StoreOk.b : C := .seq (.reg [⟨some 1, .box (.t 0), none⟩,
    ⟨some 2, .mv (.k (.bool false)), none⟩] [1] [1])
  (.seq (.seq (.reg [⟨some 8, .faddr 0 (.t 1), none⟩,
    ⟨some 9, .load false 1 (.t 8), none⟩,
    ⟨some 10, .call 101 [.t 9, .k (.int .i64 1), .k (.int .i64 2)] [] [], none⟩,
    ⟨some 11, .not (.t 10), none⟩,
    ⟨some 12, .mv (.t 11), none⟩,
    ⟨some 13, .faddr 1 (.t 1), some (12, false)⟩,
    ⟨some 14, .load false 1 (.t 13), some (12, false)⟩,
    ⟨some 15, .call 101 [.t 14, .k (.int .i64 0), .k (.int .i64 100000)] [] [], some (12, false)⟩,
    ⟨some 16, .not (.t 15), some (12, false)⟩,
    ⟨some 17, .pick (.t 12) (.k (.bool true)) (.t 16), none⟩,
    ⟨some 18, .mv (.t 17), none⟩,
    ⟨some 19, .faddr 2 (.t 1), some (18, false)⟩,
    ⟨some 20, .load false 1 (.t 19), some (18, false)⟩,
    ⟨some 21, .len (.t 20), some (18, false)⟩,
    ⟨some 22, .bin .gtr (.t 21) (.k (.int .i64 5)), some (18, false)⟩,
    ⟨some 23, .pick (.t 18) (.k (.bool true)) (.t 22), none⟩,
    ⟨some 24, .mv (.t 23), none⟩,
    ⟨some 25, .faddr 3 (.t 1), some (24, false)⟩,
    ⟨some 26, .load false 1 (.t 25), some (24, false)⟩,
    ⟨some 27, .call 165 [.t 26, .k (.int .i64 20)] [] [], some (24, false)⟩,
    ⟨some 28, .not (.t 27), some (24, false)⟩,
    ⟨some 29, .pick (.t 24) (.k (.bool true)) (.t 28), none⟩] [1, 29] [1])
  (.cond (.t 29) (.seq (.reg [⟨some 2, .mv (.k (.bool false)), none⟩] [2] [])
  (.ret)) (.skip)))
  (.seq (.reg [⟨some 30, .bslice 1 0 [.int .i64 0] [], none⟩,
    ⟨some 3, .mv (.t 30), none⟩] [1, 3] [1, 30, 94])
  (.seq (.seq (.reg [⟨some 31, .faddr 2 (.t 1), none⟩,
    ⟨some 32, .load false 1 (.t 31), none⟩,
    ⟨some 33, .len (.t 32), none⟩,
    ⟨some 34, .mv (.k (.int .i64 0)), none⟩] [1, 3, 32, 33, 34] [1, 30, 94])
  (.block 0 (.loop impl_StoreOk.l0)))
  (.seq (.reg [⟨some 2, .mv (.k (.bool true)), none⟩] [2] [])
  (.ret)))))
def impl_StoreOk.m : Fn := { np := 1, body := impl_StoreOk.b, res := [.tmp 2] }
def impl_StoreOk.k (M : Nat → Option Body) : Prop := M 150 = some (.code impl_StoreOk.m) ∧ impl_BoxOk.k M ∧ impl_within.k M ∧ slices_Contains_int_int.k M ∧ impl_areGids.k M ∧ impl_BoxNamed.k M ∧ impl_isLate.k M
def spec_BoxNamed.l0 : C := .seq (.seq (.reg [⟨some 6, .mv (.t 5), none⟩,
    ⟨some 7, .faddr 2 (.t 2), none⟩,
    ⟨some 8, .load false 1 (.t 7), none⟩,
    ⟨some 9, .len (.t 8), none⟩,
    ⟨some 10, .bin .lss (.t 6) (.t 9), none⟩] [1, 2, 5, 10] [2])
  (.cond (.t 10) (.skip) (.exit 0)))
  (.seq (.block 1 (.seq (.reg [⟨some 13, .faddr 2 (.t 2), none⟩,
    ⟨some 14, .load false 1 (.t 13), none⟩,
    ⟨some 15, .mv (.t 5), none⟩,
    ⟨some 16, .iaddr 7 (.t 14) (.t 15), none⟩,
    ⟨some 17, .faddr 1 (.t 16), none⟩,
    ⟨some 18, .load false 1 (.t 17), none⟩,
    ⟨some 19, .mv (.t 1), none⟩,
    ⟨some 20, .bin .eql (.t 18) (.t 19), none⟩] [1, 2, 5, 20] [2])
  (.cond (.t 20) (.seq (.reg [⟨some 21, .mv (.t 5), none⟩,
    ⟨some 4, .mv (.t 21), none⟩] [4] [])
  (.ret)) (.skip))))
  (.reg [⟨some 11, .mv (.t 5), none⟩,
    ⟨some 12, .bin .add (.t 11) (.k (.int .i64 1)), none⟩,
    ⟨some 5, .mv (.t 12), none⟩] [1, 2, 5] [2]))
def spec_BoxNamed.b : C := .seq (.reg [⟨some 2, .box (.t 0), none⟩,
    ⟨some 4, .mv (.k (.int .i64 0)), none⟩] [1, 2] [2])
  (.seq (.seq (.reg [⟨some 5, .mv (.k (.int .i64 0)), none⟩] [1, 2, 5] [2])
  (.block 0 (.loop spec_BoxNamed.l0)))
  (.seq (.reg [⟨some 4, .mv (.k (.int .i64 (-1))), none⟩] [4] [])
  (.ret)))
def spec_BoxNamed.m : Fn := { np := 2, body := spec_BoxNamed.b, res := [.tmp 4] }
def spec_BoxNamed.k (M : Nat → Option Body) : Prop := M 226 = some (.code spec_BoxNamed.m)
def spec_l07Times.l1 : C := .seq (.seq (.reg [⟨some 19, .mv (.t 6), none⟩,
    ⟨some 20, .faddr 5 (.t 2), none⟩,
    ⟨some 21, .load false 1 (.t 20), none⟩,
    ⟨some 22, .mv (.t 5), none⟩,
    ⟨some 23, .iaddr 4 (.t 21) (.t 22), none⟩,
    ⟨some 24, .faddr 2 (.t 23), none⟩,
    ⟨some 25, .load false 1 (.t 24), none⟩,
    ⟨some 26, .len (.t 25), none⟩,
    ⟨some 27, .bin .lss (.t 19) (.t 26), none⟩] [1, 2, 5, 6, 27] [2])
  (.cond (.t 27) (.skip) (.exit 2)))
  (.seq (.block 3 (.seq (.reg [⟨some 30, .faddr 5 (.t 2), none⟩,
    ⟨some 31, .load false 1 (.t 30), none⟩,
    ⟨some 32, .mv (.t 5), none⟩,
    ⟨some 33, .iaddr 4 (.t 31) (.t 32), none⟩,
    ⟨some 34, .faddr 2 (.t 33), none⟩,
    ⟨some 35, .load false 1 (.t 34), none⟩,
    ⟨some 36, .mv (.t 6), none⟩,
    ⟨some 37, .iaddr 3 (.t 35) (.t 36), none⟩,
    ⟨some 38, .faddr 1 (.t 37), none⟩,
    ⟨some 39, .faddr 0 (.t 38), none⟩,
    ⟨some 40, .load false 1 (.t 39), none⟩,
    ⟨some 41, .mv (.t 1), none⟩,
    ⟨some 42, .bin .gtr (.t 40) (.t 41), none⟩] [1, 2, 5, 6, 42] [2])
  (.cond (.t 42) (.seq (.reg [⟨some 4, .mv (.k (.bool false)), none⟩] [4] [])
  (.ret)) (.skip))))
  (.reg [⟨some 28, .mv (.t 6), none⟩,
    ⟨some 29, .bin .add (.t 28) (.k (.int .i64 1)), none⟩,
    ⟨some 6, .mv (.t 29), none⟩] [1, 2, 5, 6] [2]))
def spec_l07Times.l0 : C := .seq (.seq (.reg [⟨some 12, .mv (.t 5), none⟩,
    ⟨some 13, .faddr 5 (.t 2), none⟩,
    ⟨some 14, .load false 1 (.t 13), none⟩,
    ⟨some 15, .len (.t 14), none⟩,
    ⟨some 16, .bin .lss (.t 12) (.t 15), none⟩] [1, 2, 5, 16] [2])
  (.cond (.t 16) (.skip) (.exit 0)))
  (.seq (.block 1 (.seq (.reg [⟨some 6, .mv (.k (.int .i64 0)), none⟩] [1, 2, 5, 6] [2])
  (.block 2 (.loop spec_l07Times.l1))))
  (.reg [⟨some 17, .mv (.t 5), none⟩,
    ⟨some 18, .bin .add (.t 17) (.k (.int .i64 1)), none⟩,
    ⟨some 5, .mv (.t 18), none⟩] [1, 2, 5] [2]))
def spec_l07Times.b : C := .seq (.reg [⟨some 2, .box (.t 0), none⟩,
    ⟨some 4, .mv (.k (.bool false)), none⟩] [1, 2] [2])
  (.seq (.seq (.reg [⟨some 7, .faddr 2 (.t 2), none⟩,
    ⟨some 8, .faddr 0 (.t 7), none⟩,
    ⟨some 9, .load false 1 (.t 8), none⟩,
    ⟨some 10, .mv (.t 1), none⟩,
    ⟨some 11, .bin .gtr (.t 9) (.t 10), none⟩] [1, 2, 11] [2])
  (.cond (.t 11) (.seq (.reg [⟨some 4, .mv (.k (.bool false)), none⟩] [4] [])
  (.ret)) (.skip)))
  (.seq (.seq (.reg [⟨some 5, .mv (.k (.int .i64 0)), none⟩] [1, 2, 5] [2])
  (.block 0 (.loop spec_l07Times.l0)))
  (.seq (.reg [⟨some 4, .mv (.k (.bool true)), none⟩] [4] [])
  (.ret))))
def spec_l07Times.m : Fn := { np := 2, body := spec_l07Times.b, res := [.tmp 4] }
def spec_l07Times.k (M : Nat → Option Body) : Prop := M 227 = some (.code spec_l07Times.m)
def spec_StoreOk.l1 : C := .seq (.seq (.reg [⟨some 83, .mv (.t 6), none⟩,
    ⟨some 84, .faddr 5 (.t 5), none⟩,
    ⟨some 85, .load false 1 (.t 84), none⟩,
    ⟨some 86, .len (.t 85), none⟩,
    ⟨some 87, .bin .lss (.t 83) (.t 86), none⟩] [1, 3, 4, 5, 6, 87] [1, 5, 29, 106])
  (.cond (.t 87) (.skip) (.exit 2)))
  (.seq (.block 3 (.seq (.seq (.reg [⟨some 90, .mv (.t 3), none⟩,
    ⟨some 91, .faddr 5 (.t 5), none⟩,
    ⟨some 92, .load false 1 (.t 91), none⟩,
    ⟨some 93, .mv (.t 6), none⟩,
    ⟨some 94, .iaddr 4 (.t 92) (.t 93), none⟩,
    ⟨some 95, .faddr 0 (.t 94), none⟩,
    ⟨some 96, .load false 1 (.t 95), none⟩,
    ⟨some 97, .call 132 [.t 90, .t 96] [] [], none⟩] [1, 3, 4, 5, 6, 97] [1, 5, 29, 106])
  (.cond (.t 97) (.seq (.reg [⟨some 2, .mv (.k (.bool false)), none⟩] [2] [])
  (.ret)) (.skip)))
  (.reg [⟨some 98, .mv (.t 3), none⟩,
    ⟨some 99, .faddr 5 (.t 5), none⟩,
    ⟨some 100, .load false 1 (.t 99), none⟩,
    ⟨some 101, .mv (.t 6), none⟩,
    ⟨some 102, .iaddr 4 (.t 100) (.t 101), none⟩,
    ⟨some 103, .faddr 0 (.t 102), none⟩,
    ⟨some 104, .load false 1 (.t 103), none⟩,
    ⟨some 105, .bslice 1 1 [.int .i64 0] [(0, .t 104)], none⟩,
    ⟨some 106, .app 1 8 (.t 98) (.t 105), none⟩,
    ⟨some 3, .mv (.t 106), none⟩] [1, 3, 4, 5, 6] [1, 5, 29, 106])))
  (.reg [⟨some 88, .mv (.t 6), none⟩,
    ⟨some 89, .bin .add (.t 88) (.k (.int .i64 1)), none⟩,
    ⟨some 6, .mv (.t 89), none⟩] [1, 3, 4, 5, 6] [1, 5, 29, 106]))
def spec_StoreOk.l0 : C := .seq (.seq (.reg [⟨some 30, .mv (.t 4), none⟩,
    ⟨some 31, .faddr 2 (.t 1), none⟩,
    ⟨some 32, .load false 1 (.t 31), none⟩,
    ⟨some 33, .len (.t 32), none⟩,
    ⟨some 34, .bin .lss (.t 30) (.t 33), none⟩] [1, 3, 4, 34] [1, 29, 106])
  (.cond (.t 34) (.skip) (.exit 0)))
  (.seq (.block 1 (.seq (.reg [⟨some 37, .faddr 2 (.t 1), none⟩,
    ⟨some 38, .load false 1 (.t 37), none⟩,
    ⟨some 39, .mv (.t 4), none⟩,
    ⟨some 40, .iaddr 7 (.t 38) (.t 39), none⟩,
    ⟨some 41, .load true 7 (.t 40), none⟩,
    ⟨some 5, .alloc [.int .i64 0, .str ⟨#[]⟩, .int .i64 0, .int .i64 0, .int .i64 0, .nils 4, .nils 1], none⟩,
    ⟨none, .store 7 (.t 5) (.t 41), none⟩] [1, 3, 4, 5] [1, 5, 29, 106])
  (.seq (.seq (.regd [⟨some 42, .load true 7 (.t 5), none⟩,
    ⟨some 43, .call 88 [.t 42] [] [], none⟩,
    ⟨some 44, .not (.t 43), none⟩,
    ⟨some 45, .mv (.t 44), none⟩,
    ⟨some 46, .mv (.t 4), some (45, false)⟩,
    ⟨some 47, .bin .gtr (.t 46) (.k (.int .i64 0)), some (45, false)⟩,
    ⟨some 48, .mv (.t 47), some (45, false)⟩,
    ⟨some 49, .faddr 2 (.t 1), some (48, true)⟩,
    ⟨some 50, .load false 1 (.t 49), some (48, true)⟩,
    ⟨some 51, .mv (.t 4), some (48, true)⟩,
    ⟨some 52, .bin .sub (.t 51) (.k (.int .i64 1)), some (48, true)⟩,
    ⟨some 53, .iaddr 7 (.t 50) (.t 52), some (48, true)⟩,
    ⟨some 54, .faddr 0 (.t 53), some (48, true)⟩,
    ⟨some 55, .load false 1 (.t 54), some (48, true)⟩,
    ⟨some 56, .faddr 0 (.t 5), some (48, true)⟩,
    ⟨some 57, .load false 1 (.t 56), some (48, true)⟩,
    ⟨some 58, .bin .geq (.t 55) (.t 57), some (48, true)⟩,
    ⟨some 59, .pick (.t 48) (.t 58) (.k (.bool false)), some (45, false)⟩,
    ⟨some 60, .pick (.t 45) (.k (.bool true)) (.t 59), none⟩,
    ⟨some 61, .mv (.t 60), none⟩,
    ⟨some 62, .load true 4 (.t 1), some (61, false)⟩,
    ⟨some 63, .faddr 1 (.t 5), some (61, false)⟩,
    ⟨some 64, .load false 1 (.t 63), some (61, false)⟩,
    ⟨some 65, .call 226 [.t 62, .t 64] [] [], some (61, false)⟩,
    ⟨some 66, .mv (.t 4), some (61, false)⟩,
    ⟨some 67, .bin .neq (.t 65) (.t 66), some (61, false)⟩,
    ⟨some 68, .pick (.t 61) (.k (.bool true)) (.t 67), none⟩,
    ⟨some 69, .mv (.t 68), none⟩,
    ⟨some 70, .faddr 3 (.t 1), some (69, false)⟩,
    ⟨some 71, .load false 1 (.t 70), some (69, false)⟩,
    ⟨some 72, .faddr 0 (.t 5), some (69, false)⟩,
    ⟨some 73, .load false 1 (.t 72), some (69, false)⟩,
    ⟨some 74, .call 132 [.t 71, .t 73] [] [], some (69, false)⟩,
    ⟨some 75, .pick (.t 69) (.k (.bool true)) (.t 74), none⟩,
    ⟨some 76, .mv (.t 75), none⟩,
    ⟨some 77, .load true 7 (.t 5), some (76, false)⟩,
    ⟨some 78, .faddr 1 (.t 1), some (76, false)⟩,
    ⟨some 79, .load false 1 (.t 78), some (76, false)⟩,
    ⟨some 80, .call 227 [.t 77, .t 79] [] [], some (76, false)⟩,
    ⟨some 81, .not (.t 80), some (76, false)⟩,
    ⟨some 82, .pick (.t 76) (.k (.bool true)) (.t 81), none⟩] [[], [0], [0, 1], [0, 1, 2], List.range 4, List.range 5, List.range 6, List.range 7, List.range 8, List.range 7, List.range 7 ++ [9], List.range 11, List.range 12, List.range 13, List.range 7, List.range 7 ++ [14], List.range 16, List.range 17, List.range 18, List.range 19, List.range 20, List.range 20, List.range 20 ++ [21], List.range 23, List.range 20, List.range 25, List.range 26, List.range 27, List.range 28, List.range 29, List.range 28, List.range 28 ++ [30], List.range 32, List.range 33, List.range 34, List.range 35, List.range 35, List.range 35 ++ [36], List.range 38, List.range 39, List.range 40] [1, 3, 4, 5, 82] [1, 5, 29, 106])
  (.cond (.t 82) (.seq (.reg [⟨some 2, .mv (.k (.bool false)), none⟩] [2] [])
  (.ret)) (.skip)))
  (.seq (.reg [⟨some 6, .mv (.k (.int .i64 0)), none⟩] [1, 3, 4, 5, 6] [1, 5, 29, 106])
  (.block 2 (.loop spec_StoreOk.l1))))))
  (.reg [⟨some 35, .mv (.t 4), none⟩,
    ⟨some 36, .bin .add (.t 35) (.k (.int .i64 1)), none⟩,
    ⟨some 4, .mv (.t 36), none⟩] [1, 3, 4] [1, 29, 106]))
def spec_StoreOk.b : C := .seq (.reg [⟨some 1, .box (.t 0), none⟩,
    ⟨some 2, .mv (.k (.bool false)), none⟩] [1] [1])
  (.seq (.seq (.reg [⟨some 7, .faddr 0 (.t 1), none⟩,
    ⟨some 8, .load false 1 (.t 7), none⟩,
    ⟨some 9, .call 98 [.t 8, .k (.int .i64 1), .k (.int .i64 2)] [] [], none⟩,
    ⟨some 10, .not (.t 9), none⟩,
    ⟨some 11, .mv (.t 10), none⟩,
    ⟨some 12, .faddr 1 (.t 1), some (11, false)⟩,
    ⟨some 13, .load false 1 (.t 12), some (11, false)⟩,
    ⟨some 14, .call 98 [.t 13, .k (.int .i64 0), .k (.int .i64 100000)] [] [], some (11, false)⟩,
    ⟨some 15, .not (.t 14), some (11, false)⟩,
    ⟨some 16, .pick (.t 11) (.k (.bool true)) (.t 15), none⟩,
    ⟨some 17, .mv (.t 16), none⟩,
    ⟨some 18, .faddr 2 (.t 1), some (17, false)⟩,
    ⟨some 19, .load false 1 (.t 18), some (17, false)⟩,
    ⟨some 20, .len (.t 19), some (17, false)⟩,
    ⟨some 21, .bin .gtr (.t 20) (.k (.int .i64 5)), some (17, false)⟩,
    ⟨some 22, .pick (.t 17) (.k (.bool true)) (.t 21), none⟩,
    ⟨some 23, .mv (.t 22), none⟩,
    ⟨some 24, .faddr 3 (.t 1), some (23, false)⟩,
    ⟨some 25, .load false 1 (.t 24), some (23, false)⟩,
    ⟨some 26, .call 186 [.t 25, .k (.int .i64 20)] [] [], some (23, false)⟩,
    ⟨some 27, .not (.t 26), some (23, false)⟩,
    ⟨some 28, .pick (.t 23) (.k (.bool true)) (.t 27), none⟩] [1, 28] [1])
  (.cond (.t 28) (.seq (.reg [⟨some 2, .mv (.k (.bool false)), none⟩] [2] [])
  (.ret)) (.skip)))
  (.seq (.reg [⟨some 29, .bslice 1 0 [.int .i64 0] [], none⟩,
    ⟨some 3, .mv (.t 29), none⟩] [1, 3] [1, 29, 106])
  (.seq (.seq (.reg [⟨some 4, .mv (.k (.int .i64 0)), none⟩] [1, 3, 4] [1, 29, 106])
  (.block 0 (.loop spec_StoreOk.l0)))
  (.seq (.reg [⟨some 2, .mv (.k (.bool true)), none⟩] [2] [])
  (.ret)))))
def spec_StoreOk.m : Fn := { np := 1, body := spec_StoreOk.b, res := [.tmp 2] }
def spec_StoreOk.k (M : Nat → Option Body) : Prop := M 149 = some (.code spec_StoreOk.m) ∧ spec_BoxOk.k M ∧ spec_l01In.k M ∧ spec_l06In.k M ∧ spec_l06Sorted.k M ∧ spec_BoxNamed.k M ∧ spec_l07Times.k M
end Mx

/-
  What is right: boxes.
-/
namespace Mx
open Go
variable {M : Nat → Option Body}
def badMail (b : Box) (i : Nat) : Bool := match b.mails[i]? with
  | some m => !mailOk m || decide (b.next ≤ m.uid) || (decide (0 < i) && match b.mails[i - 1]? with | some p => decide (m.uid ≤ p.uid) | none => false) || !decide (intO (mailO b.mails m.gid) = (i : Int)) || decide (m.gid ∈ b.gone)
  | none => false
theorem badMail_at {b : Box} {i : Nat} (h : i < b.mails.length) : badMail b i = (!mailOk b.mails[i] || decide (b.next ≤ b.mails[i].uid) || (decide (0 < i) && decide (b.mails[i].uid ≤ b.mails[i - 1].uid)) ||
    !decide (intO (mailO b.mails b.mails[i].gid) = (i : Int)) || decide (b.mails[i].gid ∈ b.gone)) := by
  simp [badMail, h, (show i - 1 < b.mails.length by omega)]
def boxOk (b : Box) : Bool := inR 1 b.gid 9999 && nameOk b.name && stampOk b.time b.who && inR 1 b.next 10000 && decide (b.mails.length ≤ 10) && gidsOk b.gone 40 && (firstN (badMail b) b.mails.length).isNone

def ibS (b : Box) (i : Nat) (x : Nat × Nat) : St := { t := [(1, .c (.ptr 1 x.1 0 0)), (40, .c (mails b.mails)), (41, .c (I b.mails.length)), (42, .c (I i))], o := [(1, ⟨x.1, 7, true, true, [encBox b]⟩)], n := x.2 }
def ibSE (b : Box) (x : Nat × Nat) : St := { t := [(1, .c (.ptr 1 x.1 0 0)), (40, .c (mails b.mails)), (41, .c (I b.mails.length)), (42, .c (I b.mails.length)), (43, .c (.bool false))], o := [(1, ⟨x.1, 7, true, true, [encBox b]⟩)], n := x.2 }
theorem impl_BoxOk.good (hat : impl_MailAt.k M) (hin : slices_Contains_int_int.k M) (hmo : impl_MailOk.k M) (b : Box) (hml : b.mails.length ≤ 1048576) (hgl : b.gone.length ≤ 4611686018427387904) (hw : ∀ m ∈ b.mails, m.flags.length ≤ 1048576)
    (i : Nat) (hi : i < b.mails.length) (x : Nat × Nat) (c : badMail b i = false) : ∃ y, exC (run M) (b.mails.length + 1) impl_BoxOk.l0 (ibS b i x) = some (.normal, ibS b (i + 1) y) := by
      obtain ⟨v, x⟩ := x
      simp only [Prod.exists]
      have hm := impl_MailOk.says hmo b.mails[i] (hw _ (List.getElem_mem hi))
      have ha := impl_MailAt.says hat b b.mails[i].gid hml
      have hg := slices_Contains_int_int.says hin b.gone b.mails[i].gid hgl
      simp only [encMail, encBox] at hm ha hg
      rw [badMail_at hi] at c
      simp at c
      obtain ⟨⟨⟨⟨c1, c2⟩, c3⟩, c4⟩, c5⟩ := c
      have e5 : IntKind.i64.wrap ((i : Int) + 1) = (i : Int) + 1 := wrap_i64 (by omega) (by omega)
      rw [c1] at hm
      rw [c4] at ha
      rw [decide_eq_false c5] at hg
      have c2' : ¬ b.next ≤ b.mails[i].uid := by omega
      by_cases c6 : 0 < i
      · have e6 : IntKind.i64.wrap ((i : Int) - 1) = ((i - 1 : Nat) : Int) := by rw [wrap_i64 (by omega) (by omega)]; omega
        have c3' : ¬ b.mails[i].uid ≤ b.mails[i - 1].uid := by have := c3 c6; omega
        simp (maxSteps := 1000000) [impl_BoxOk.l0, List.range_succ, bs_get, setAt, ibS, encMail, hi, hm, ha, hg, c2', c6, c3', e5, e6, (show i - 1 < b.mails.length by omega)]
      · simp (maxSteps := 1000000) [impl_BoxOk.l0, List.range_succ, bs_get, setAt, ibS, encMail, hi, hm, ha, hg, c2', c6, e5]
theorem impl_BoxOk.bad (hat : impl_MailAt.k M) (hin : slices_Contains_int_int.k M) (hmo : impl_MailOk.k M) (b : Box) (hml : b.mails.length ≤ 1048576) (hgl : b.gone.length ≤ 4611686018427387904) (hw : ∀ m ∈ b.mails, m.flags.length ≤ 1048576)
    (i : Nat) (hi : i < b.mails.length) (x : Nat × Nat) (c : badMail b i = true) : ∃ k, exC (run M) (b.mails.length + 1) impl_BoxOk.l0 (ibS b i x) = some (.ret, { t := [(2, .c (.bool false))], o := [], n := k }) := by
      obtain ⟨v, x⟩ := x
      have hm := impl_MailOk.says hmo b.mails[i] (hw _ (List.getElem_mem hi))
      have ha := impl_MailAt.says hat b b.mails[i].gid hml
      have hg := slices_Contains_int_int.says hin b.gone b.mails[i].gid hgl
      simp only [encMail, encBox] at hm ha hg
      rw [badMail_at hi] at c
      cases c1 : mailOk b.mails[i]
      · rw [c1] at hm
        simp (maxSteps := 1000000) [impl_BoxOk.l0, List.range_succ, bs_get, setAt, ibS, encMail, hi, hm]
      rw [c1] at hm
      by_cases c2 : b.next ≤ b.mails[i].uid
      · simp (maxSteps := 1000000) [impl_BoxOk.l0, List.range_succ, bs_get, setAt, ibS, encMail, hi, hm, c2]
      have c2' : ¬ b.next ≤ b.mails[i].uid := c2
      by_cases c6 : 0 < i
      · have e6 : IntKind.i64.wrap ((i : Int) - 1) = ((i - 1 : Nat) : Int) := by rw [wrap_i64 (by omega) (by omega)]; omega
        by_cases c3 : b.mails[i].uid ≤ b.mails[i - 1].uid
        · simp (maxSteps := 1000000) [impl_BoxOk.l0, List.range_succ, bs_get, setAt, ibS, encMail, hi, hm, c2, c6, c3, e6, (show i - 1 < b.mails.length by omega)]
        by_cases c4 : intO (mailO b.mails b.mails[i].gid) = (i : Int)
        rotate_left
        · simp (maxSteps := 1000000) [impl_BoxOk.l0, List.range_succ, bs_get, setAt, ibS, encMail, hi, hm, c2, c6, c3, e6, (show i - 1 < b.mails.length by omega), ha, c4]
        rw [c4] at ha
        by_cases c5 : b.mails[i].gid ∈ b.gone
        rotate_left
        · simp [c1, c2, c3, c4, c5] at c
        rw [decide_eq_true c5] at hg
        simp (maxSteps := 1000000) [impl_BoxOk.l0, List.range_succ, bs_get, setAt, ibS, encMail, hi, hm, c2, c6, c3, e6, (show i - 1 < b.mails.length by omega), ha, hg]
      · have c3 := c6
        by_cases c4 : intO (mailO b.mails b.mails[i].gid) = (i : Int)
        rotate_left
        · simp (maxSteps := 1000000) [impl_BoxOk.l0, List.range_succ, bs_get, setAt, ibS, encMail, hi, hm, c2, c6, ha, c4]
        rw [c4] at ha
        by_cases c5 : b.mails[i].gid ∈ b.gone
        rotate_left
        · simp [c1, c2, c3, c4, c5] at c
        rw [decide_eq_true c5] at hg
        simp (maxSteps := 1000000) [impl_BoxOk.l0, List.range_succ, bs_get, setAt, ibS, encMail, hi, hm, c2, c6, ha, hg]
theorem impl_BoxOk.says (h : impl_BoxOk.k M) (b : Box) (hml : b.mails.length ≤ 1048576) (hgl : b.gone.length ≤ 4611686018427387904) (hnl : b.name.length ≤ 4611686018427387904) (hw : ∀ m ∈ b.mails, m.flags.length ≤ 1048576) :
    run M 74 [.a (encBox b)] [] = some (.c (.bool (boxOk b)), []) := by
  obtain ⟨h0, hat, hno, hwi, hig, hin, hso, hgo, hmo⟩ := h
  have h1 := impl_isGid.says hig b.gid
  have h2 := impl_NameOk.says hno b.name hnl
  have h3 := impl_StampOk.says hso b.time b.who
  have h4 := impl_within.inR hwi b.next 1 10000
  have h5 := impl_areGids.says hgo b.gone 40 hgl
  refine run_code (b := impl_BoxOk.m) h0 ⟨b.mails.length + 1, ?_⟩
  obtain ⟨g, hr⟩ := early_loop (f := exC (run M) (b.mails.length + 1) impl_BoxOk.l0) b.mails.length (badMail b) (ibS b) 2 (.bool false) 0 (ibSE b)
    (fun i hi x c => impl_BoxOk.good hat hin hmo b hml hgl hw i hi x c)
    (fun i hi x c => impl_BoxOk.bad hat hin hmo b hml hgl hw i hi x c)
    (fun x => by
      obtain ⟨v, x⟩ := x
      simp only [Prod.exists]
      simp (maxSteps := 1000000) [impl_BoxOk.l0, List.range_succ, bs_get, setAt, ibS, ibSE])
  cases c1 : inR 1 b.gid 9999
  · simp (maxSteps := 1000000) [exB, impl_BoxOk.m, impl_BoxOk.b, List.range_succ, bs_get, setAt, h1, c1, boxOk]
  cases c2 : nameOk b.name
  · simp (maxSteps := 1000000) [exB, impl_BoxOk.m, impl_BoxOk.b, List.range_succ, bs_get, setAt, h1, h2, c1, c2, boxOk]
  cases c3 : stampOk b.time b.who
  · simp (maxSteps := 1000000) [exB, impl_BoxOk.m, impl_BoxOk.b, List.range_succ, bs_get, setAt, h1, h2, h3, c1, c2, c3, boxOk]
  cases c4 : inR 1 b.next 10000
  · simp (maxSteps := 1000000) [exB, impl_BoxOk.m, impl_BoxOk.b, List.range_succ, bs_get, setAt, h1, h2, h3, h4, c1, c2, c3, c4, boxOk]
  by_cases c5 : 10 < b.mails.length
  · have c5' : ¬ b.mails.length ≤ 10 := by omega
    have ci : (10 : Int) < b.mails.length := by omega
    simp (maxSteps := 1000000) [exB, impl_BoxOk.m, impl_BoxOk.b, List.range_succ, bs_get, setAt, h1, h2, h3, h4, c1, c2, c3, c4, c5, c5', ci, boxOk]
  have c5' : b.mails.length ≤ 10 := by omega
  have ci : ¬ (10 : Int) < b.mails.length := by omega
  cases c6 : gidsOk b.gone 40
  · simp (maxSteps := 1000000) [exB, impl_BoxOk.m, impl_BoxOk.b, List.range_succ, bs_get, setAt, h1, h2, h3, h4, h5, c1, c2, c3, c4, c5, ci, c6, boxOk]
  cases q : firstN (badMail b) b.mails.length with
  | none =>
    simp [ibS, ibSE, q, fin1] at hr
    simp (maxSteps := 1000000) [exB, impl_BoxOk.m, impl_BoxOk.b, List.range_succ, bs_get, setAt, h1, h2, h3, h4, h5, c1, c2, c3, c4, c5, c5', ci, c6, hr, boxOk, q]
  | some k =>
    simp [ibS, q, fin1] at hr
    simp (maxSteps := 1000000) [exB, impl_BoxOk.m, impl_BoxOk.b, List.range_succ, bs_get, setAt, h1, h2, h3, h4, h5, c1, c2, c3, c4, c5, c5', ci, c6, hr, boxOk, q]

def sbxS (b : Box) (i : Nat) (x : Nat × Nat) : St := { t := [(1, .c (.ptr 1 x.1 0 0)), (3, .c (I i))], o := [(1, ⟨x.1, 7, true, true, [encBox b]⟩)], n := x.2 }
def sbxSE (b : Box) (x : Nat × Nat) : St := { t := [(1, .c (.ptr 1 x.1 0 0)), (3, .c (I b.mails.length)), (43, .c (.bool false))], o := [(1, ⟨x.1, 7, true, true, [encBox b]⟩)], n := x.2 }
theorem spec_BoxOk.good (hat : spec_MailAt.k M) (hin : spec_l06In.k M) (hmo : spec_MailOk.k M) (b : Box) (hml : b.mails.length ≤ 1048576) (hgl : b.gone.length ≤ 4611686018427387904) (hw : ∀ m ∈ b.mails, m.flags.length ≤ 1048576)
    (i : Nat) (hi : i < b.mails.length) (x : Nat × Nat) (c : badMail b i = false) : ∃ y, exC (run M) (b.mails.length + 1) spec_BoxOk.l0 (sbxS b i x) = some (.normal, sbxS b (i + 1) y) := by
      obtain ⟨v, x⟩ := x
      simp only [Prod.exists]
      have hm := spec_MailOk.says hmo b.mails[i] (hw _ (List.getElem_mem hi))
      have ha := spec_MailAt.says hat b b.mails[i].gid hml
      have hg := spec_l06In.says hin b.gone b.mails[i].gid hgl
      simp only [encMail, encBox] at hm ha hg
      rw [badMail_at hi] at c
      simp at c
      obtain ⟨⟨⟨⟨c1, c2⟩, c3⟩, c4⟩, c5⟩ := c
      have e5 : IntKind.i64.wrap ((i : Int) + 1) = (i : Int) + 1 := wrap_i64 (by omega) (by omega)
      rw [c1] at hm
      rw [c4] at ha
      rw [decide_eq_false c5] at hg
      have c2' : ¬ b.next ≤ b.mails[i].uid := by omega
      by_cases c6 : 0 < i
      · have e6 : IntKind.i64.wrap ((i : Int) - 1) = ((i - 1 : Nat) : Int) := by rw [wrap_i64 (by omega) (by omega)]; omega
        have c3' : ¬ b.mails[i].uid ≤ b.mails[i - 1].uid := by have := c3 c6; omega
        simp (maxSteps := 1000000) [spec_BoxOk.l0, List.range_succ, bs_get, setAt, sbxS, encMail, hi, hm, ha, hg, c2', c6, c3', e5, e6, (show i - 1 < b.mails.length by omega)]
      · simp (maxSteps := 1000000) [spec_BoxOk.l0, List.range_succ, bs_get, setAt, sbxS, encMail, hi, hm, ha, hg, c2', c6, e5]
theorem spec_BoxOk.bad (hat : spec_MailAt.k M) (hin : spec_l06In.k M) (hmo : spec_MailOk.k M) (b : Box) (hml : b.mails.length ≤ 1048576) (hgl : b.gone.length ≤ 4611686018427387904) (hw : ∀ m ∈ b.mails, m.flags.length ≤ 1048576)
    (i : Nat) (hi : i < b.mails.length) (x : Nat × Nat) (c : badMail b i = true) : ∃ k, exC (run M) (b.mails.length + 1) spec_BoxOk.l0 (sbxS b i x) = some (.ret, { t := [(2, .c (.bool false))], o := [], n := k }) := by
      obtain ⟨v, x⟩ := x
      have hm := spec_MailOk.says hmo b.mails[i] (hw _ (List.getElem_mem hi))
      have ha := spec_MailAt.says hat b b.mails[i].gid hml
      have hg := spec_l06In.says hin b.gone b.mails[i].gid hgl
      simp only [encMail, encBox] at hm ha hg
      rw [badMail_at hi] at c
      cases c1 : mailOk b.mails[i]
      · rw [c1] at hm
        simp (maxSteps := 1000000) [spec_BoxOk.l0, List.range_succ, bs_get, setAt, sbxS, encMail, hi, hm]
      rw [c1] at hm
      by_cases c2 : b.next ≤ b.mails[i].uid
      · simp (maxSteps := 1000000) [spec_BoxOk.l0, List.range_succ, bs_get, setAt, sbxS, encMail, hi, hm, c2]
      have c2' : ¬ b.next ≤ b.mails[i].uid := c2
      by_cases c6 : 0 < i
      · have e6 : IntKind.i64.wrap ((i : Int) - 1) = ((i - 1 : Nat) : Int) := by rw [wrap_i64 (by omega) (by omega)]; omega
        by_cases c3 : b.mails[i].uid ≤ b.mails[i - 1].uid
        · simp (maxSteps := 1000000) [spec_BoxOk.l0, List.range_succ, bs_get, setAt, sbxS, encMail, hi, hm, c2, c6, c3, e6, (show i - 1 < b.mails.length by omega)]
        by_cases c5 : b.mails[i].gid ∈ b.gone
        · rw [decide_eq_true c5] at hg
          simp (maxSteps := 1000000) [spec_BoxOk.l0, List.range_succ, bs_get, setAt, sbxS, encMail, hi, hm, c2, c6, c3, e6, (show i - 1 < b.mails.length by omega), hg]
        rw [decide_eq_false c5] at hg
        by_cases c4 : intO (mailO b.mails b.mails[i].gid) = (i : Int)
        · simp [c1, c2, c3, c4, c5] at c
        simp (maxSteps := 1000000) [spec_BoxOk.l0, List.range_succ, bs_get, setAt, sbxS, encMail, hi, hm, c2, c6, c3, e6, (show i - 1 < b.mails.length by omega), ha, hg, c4]
      · have c3 := c6
        by_cases c5 : b.mails[i].gid ∈ b.gone
        · rw [decide_eq_true c5] at hg
          simp (maxSteps := 1000000) [spec_BoxOk.l0, List.range_succ, bs_get, setAt, sbxS, encMail, hi, hm, c2, c6, hg]
        rw [decide_eq_false c5] at hg
        by_cases c4 : intO (mailO b.mails b.mails[i].gid) = (i : Int)
        · simp [c1, c2, c3, c4, c5] at c
        simp (maxSteps := 1000000) [spec_BoxOk.l0, List.range_succ, bs_get, setAt, sbxS, encMail, hi, hm, c2, c6, ha, hg, c4]
theorem spec_BoxOk.says (h : spec_BoxOk.k M) (b : Box) (hml : b.mails.length ≤ 1048576) (hgl : b.gone.length ≤ 4611686018427387904) (hnl : b.name.length ≤ 4611686018427387904) (hw : ∀ m ∈ b.mails, m.flags.length ≤ 1048576) :
    run M 88 [.a (encBox b)] [] = some (.c (.bool (boxOk b)), []) := by
  obtain ⟨h0, hno, hat, hwi, hin, hso, hgo, hmo⟩ := h
  have h1 := spec_l01In.inR hwi b.gid 1 9999
  have h2 := spec_NameOk.says hno b.name hnl
  have h3 := spec_StampOk.says hso b.time b.who
  have h4 := spec_l01In.inR hwi b.next 1 10000
  have h5 := spec_l06Sorted.says hgo b.gone 40 hgl
  refine run_code (b := spec_BoxOk.m) h0 ⟨b.mails.length + 1, ?_⟩
  obtain ⟨g, hr⟩ := early_loop (f := exC (run M) (b.mails.length + 1) spec_BoxOk.l0) b.mails.length (badMail b) (sbxS b) 2 (.bool false) 0 (sbxSE b)
    (fun i hi x c => spec_BoxOk.good hat hin hmo b hml hgl hw i hi x c)
    (fun i hi x c => spec_BoxOk.bad hat hin hmo b hml hgl hw i hi x c)
    (fun x => by
      obtain ⟨v, x⟩ := x
      simp only [Prod.exists]
      simp (maxSteps := 1000000) [spec_BoxOk.l0, List.range_succ, bs_get, setAt, sbxS, sbxSE])
  cases c1 : inR 1 b.gid 9999
  · simp (maxSteps := 1000000) [exB, spec_BoxOk.m, spec_BoxOk.b, List.range_succ, bs_get, setAt, h1, c1, boxOk]
  cases c2 : nameOk b.name
  · simp (maxSteps := 1000000) [exB, spec_BoxOk.m, spec_BoxOk.b, List.range_succ, bs_get, setAt, h1, h2, c1, c2, boxOk]
  cases c3 : stampOk b.time b.who
  · simp (maxSteps := 1000000) [exB, spec_BoxOk.m, spec_BoxOk.b, List.range_succ, bs_get, setAt, h1, h2, h3, c1, c2, c3, boxOk]
  cases c4 : inR 1 b.next 10000
  · simp (maxSteps := 1000000) [exB, spec_BoxOk.m, spec_BoxOk.b, List.range_succ, bs_get, setAt, h1, h2, h3, h4, c1, c2, c3, c4, boxOk]
  by_cases c5 : 10 < b.mails.length
  · have c5' : ¬ b.mails.length ≤ 10 := by omega
    have ci : (10 : Int) < b.mails.length := by omega
    simp (maxSteps := 1000000) [exB, spec_BoxOk.m, spec_BoxOk.b, List.range_succ, bs_get, setAt, h1, h2, h3, h4, c1, c2, c3, c4, c5, c5', ci, boxOk]
  have c5' : b.mails.length ≤ 10 := by omega
  have ci : ¬ (10 : Int) < b.mails.length := by omega
  cases c6 : gidsOk b.gone 40
  · simp (maxSteps := 1000000) [exB, spec_BoxOk.m, spec_BoxOk.b, List.range_succ, bs_get, setAt, h1, h2, h3, h4, h5, c1, c2, c3, c4, c5, ci, c6, boxOk]
  cases q : firstN (badMail b) b.mails.length with
  | none =>
    simp [sbxS, sbxSE, q, fin1] at hr
    simp (maxSteps := 1000000) [exB, spec_BoxOk.m, spec_BoxOk.b, List.range_succ, bs_get, setAt, h1, h2, h3, h4, h5, c1, c2, c3, c4, c5, c5', ci, c6, hr, boxOk, q]
  | some k =>
    simp [sbxS, q, fin1] at hr
    simp (maxSteps := 1000000) [exB, spec_BoxOk.m, spec_BoxOk.b, List.range_succ, bs_get, setAt, h1, h2, h3, h4, h5, c1, c2, c3, c4, c5, c5', ci, c6, hr, boxOk, q]
end Mx

/-
  Stores: as trees; what is laid over, weighed, held against.
-/
namespace Mx
open Go
variable {M : Nat → Option Body}
structure Store where
  who : Int
  time : Int
  boxes : List Box
  gone : List Int
abbrev boxes (l : List Box) : T := .sl false 7 (l.map encBox)
abbrev encStore (s : Store) : List T := [I s.who, I s.time, boxes s.boxes, ints s.gone]
abbrev encStoreO (s : Store) : List T := [I s.who, I s.time, .sl true 7 (s.boxes.map encBox), .sl true 1 (irow s.gone)]
abbrev ctStore : List Ct := [.int .i64, .int .i64, .sl ctBox, .sl [.int .i64]]
def StoreFits (s : Store) : Prop := s.boxes.length ≤ maxLen ∧ s.gone.length ≤ maxLen ∧ ∀ b ∈ s.boxes, BoxFits b
theorem has_store {r : List T} (h : HasL ctStore r) : ∃ x : Store, r = encStore x ∧ StoreFits x := by
  match r, h with
  | [a, b, f, g], h =>
    obtain ⟨x1, rfl⟩ := has_int (h.2 0 _ a rfl rfl)
    obtain ⟨x3, rfl⟩ := has_int (h.2 1 _ b rfl rfl)
    obtain ⟨x6, rfl, h6, q6⟩ := has_list encBox BoxFits (fun r hr => has_box hr) (h.2 2 _ f rfl rfl)
    obtain ⟨x7, rfl, h7, _⟩ := has_list (fun n : Int => [I n]) (fun _ => True) (fun r hr => by
      match r, hr with
      | [a], hr => obtain ⟨n, rfl⟩ := has_int (hr.2 0 _ a rfl rfl); exact ⟨n, rfl, trivial⟩) (h.2 3 _ g rfl rfl)
    exact ⟨⟨x1, x3, x6, x7⟩, rfl, h6, h7, q6⟩
def wBoxes (l : List Box) : Nat := l.length + (l.map wBox).sum
def wStore (s : Store) : Nat := wBoxes s.boxes + s.gone.length
theorem wBox_le {l : List Box} {b : Box} (h : b ∈ l) : wBox b ≤ wBoxes l := by
  have := le_sum wBox l b h
  unfold wBoxes; omega
/-- what a row of a box weighs -/
def wRowB : List T → Nat
  | [_, .str s, _, _, _, .sl _ _ ms, .sl _ _ gs] => s.size + (ms.length + (ms.map wRow).sum) + gs.length
  | _ => 0
theorem wRowB_box (b : Box) : wRowB (encBox b) = wBox b := by
  have e : ((b.mails.map encMail).map wRow).sum = (b.mails.map wMail).sum := by
    rw [List.map_map]; congr 1; apply List.map_congr_left; intro m _; exact wRow_mail m
  show (bs b.name).size + ((b.mails.map encMail).length + ((b.mails.map encMail).map wRow).sum) + (irow b.gone).length = _
  rw [e, bs_size, List.length_map, irow_len]; rfl
theorem laws_szBoxS.says (h : laws_szBoxS.k M) (l : List Box) (hl : l.length ≤ maxLen) (hm : ∀ b ∈ l, BoxFits b) (k : Nat) (hk : k ≤ 1048576) :
    run M 115 [.c (boxes l), .c (I k)] [] = some (.c (I (if k < wBoxes l then -1 else (k : Int) - wBoxes l)), []) := by
  have hx : maxLen = 9223372036854775807 := rfl
  have := szS_says (M := M) (F := 115) (n := 7) (f := 17) h.1 (rows := l.map encBox) (by simp; omega) wRowB (by
    intro r hr
    obtain ⟨b, hbb, rfl⟩ := List.mem_map.1 hr
    refine ⟨rfl, rfl, fun k hk => ?_⟩
    rw [wRowB_box]
    exact laws_szBox.says h.2 b (hm b hbb) k hk) k hk
  have e : ((l.map encBox).map wRowB).sum = (l.map wBox).sum := by
    rw [List.map_map]; congr 1; apply List.map_congr_left; intro m _; exact wRowB_box m
  rw [e, List.length_map] at this
  exact this
theorem laws_szStore.says (h : laws_szStore.k M) (s : Store) (hs : StoreFits s) (k : Nat) (hk : k ≤ 1048576) : run M 29 [.a (encStore s), .c (I k)] [] = some (.c (I (if k < wStore s then -1 else (k : Int) - wStore s)), []) := by
  have hx : maxLen = 9223372036854775807 := rfl
  obtain ⟨f1, f2, f3⟩ := hs
  obtain ⟨h0, k2, k1⟩ := h
  have h1 := laws_szBoxS.says k1 s.boxes f1 f3 k hk
  refine run_code (b := laws_szStore.m) h0 ⟨0, ?_⟩
  by_cases c1 : k < wBoxes s.boxes
  · rw [if_pos c1] at h1
    rw [if_pos (show k < wStore s by unfold wStore; omega)]
    simp [exB, laws_szStore.m, laws_szStore.b, List.range_succ, h1]
  rw [if_neg c1] at h1
  have d1 : ¬ (k : Int) - wBoxes s.boxes < 0 := by omega
  have h2 := laws_szIntS.says k2 s.gone (by omega) ((k : Int) - wBoxes s.boxes) (by omega) (by omega)
  by_cases c3 : (k : Int) - wBoxes s.boxes < s.gone.length
  · rw [if_pos c3] at h2
    rw [if_pos (show k < wStore s by unfold wStore; omega)]
    simp [exB, laws_szStore.m, laws_szStore.b, List.range_succ, d1, h1, h2]
  · rw [if_neg c3] at h2
    have d3 : ¬ (k : Int) - wBoxes s.boxes - s.gone.length < 0 := by omega
    rw [if_neg (show ¬ k < wStore s by unfold wStore; omega)]
    have e4 : (k : Int) - (wStore s : Nat) = (k : Int) - wBoxes s.boxes - s.gone.length := by unfold wStore; omega
    rw [e4]
    simp [exB, laws_szStore.m, laws_szStore.b, List.range_succ, d1, d3, h1, h2]
theorem laws_toBoxS.says (h : laws_toBoxS.k M) (l : List Box) (hl : wBoxes l ≤ 1048576) : run M 117 [.c (boxes l)] [] = some (.c (.sl true 7 (l.map encBox)), []) := by
  refine toS_says (M := M) (F := 117) (n := 7) (by' := 96) (z := [.int .i64 0, .str ⟨#[]⟩, .int .i64 0, .int .i64 0, .int .i64 0, .nils 4, .nils 1]) (f := 18) h.1 rfl (by simp; unfold wBoxes at hl; omega) (by omega) (fun r hr => ?_)
  obtain ⟨x, hx, rfl⟩ := List.mem_map.1 hr
  exact ⟨rfl, rfl, _, laws_toBox.says h.2 x (Nat.le_trans (wBox_le hx) hl), rfl, rfl⟩
theorem laws_toStore.says (h : laws_toStore.k M) (s : Store) (hs : wStore s ≤ 1048576) : run M 30 [.a (encStore s)] [] = some (.a (encStoreO s), []) := by
  obtain ⟨h0, k1, k2⟩ := h
  have h1 := laws_toIntS.says k1 s.gone (by unfold wStore at hs; omega)
  have h2 := laws_toBoxS.says k2 s.boxes (by unfold wStore at hs; omega)
  refine run_code (b := laws_toStore.m) h0 ⟨0, ?_⟩
  simp [exB, laws_toStore.m, laws_toStore.b, List.range_succ, h1, h2, setAt, List.take_of_length_le]
theorem laws_eqBoxS.says (h : laws_eqBoxS.k M) (l : List Box) (hl : wBoxes l ≤ 1048576) : run M 121 [.c (boxes l), .c (boxes l)] [] = some (.c (.bool true), []) := by
  refine eqS_says (M := M) (F := 121) (n := 7) (f := 21) h.1 (by simp; unfold wBoxes at hl; omega) (fun r hr => ?_)
  obtain ⟨x, hx, rfl⟩ := List.mem_map.1 hr
  exact ⟨rfl, rfl, laws_eqBox.says h.2 x (Nat.le_trans (wBox_le hx) hl)⟩
theorem laws_eqStore.says (h : laws_eqStore.k M) (s : Store) (hs : wStore s ≤ 1048576) : run M 33 [.a (encStore s), .a (encStore s)] [] = some (.c (.bool true), []) := by
  obtain ⟨h0, k1, k2⟩ := h
  have h1 := laws_eqIntS.says k1 s.gone (by unfold wStore at hs; omega)
  have h2 := laws_eqBoxS.says k2 s.boxes (by unfold wStore at hs; omega)
  refine run_code (b := laws_eqStore.m) h0 ⟨0, ?_⟩
  simp [exB, laws_eqStore.m, laws_eqStore.b, List.range_succ, h1, h2]
end Mx

/-
  What is right: stores.
-/
namespace Mx
open Go
variable {M : Nat → Option Body}
/-- a place of a list whose thing is so -/
def atP {α : Type} (p : α → Bool) (l : List α) (i : Nat) : Bool := match l[i]? with
  | some x => p x
  | none => false
theorem atP_at {α : Type} {p : α → Bool} {l : List α} {i : Nat} (h : i < l.length) : atP p l i = p l[i] := by simp [atP, h]
theorem firstF_findIdx {α : Type} (p : α → Bool) (l : List α) : ∀ d i, i + d = l.length → firstF (atP p l) d i = ((l.drop i).findIdx? p).map (· + i)
  | 0, i, h => by rw [firstF, List.drop_eq_nil_of_le (by omega)]; rfl
  | d + 1, i, h => by
    have hi : i < l.length := by omega
    rw [firstF, atP_at hi, List.drop_eq_getElem_cons hi, List.findIdx?_cons]
    split
    · simp
    · rw [firstF_findIdx p l d (i + 1) (by omega), Option.map_map]
      congr 1; funext x; simp only [Function.comp]; omega
theorem firstN_findIdx {α : Type} (p : α → Bool) (l : List α) : firstN (atP p l) l.length = l.findIdx? p := by
  rw [firstN, firstF_findIdx p l _ _ (by omega)]; simp
theorem firstN_any {α : Type} (p : α → Bool) (l : List α) : (firstN (atP p l) l.length).isSome = l.any p := by
  rw [firstN_findIdx, List.findIdx?_isSome]
def named (l : List Box) (s : List UInt8) : Option Nat := l.findIdx? fun b => decide (b.name = s)
def bnS (st : Store) (s : List UInt8) (i : Nat) (x : Nat × Nat) : St := { t := [(1, .c (S s)), (2, .c (.ptr 2 x.1 0 0)), (5, .c (I i))], o := [(2, ⟨x.1, 4, true, true, [encStore st]⟩)], n := x.2 }
/-- a loop that answers the first place found -/
def finI {β : Type} (r : Nat) (e : Nat) (E : β → St) (q : Option Nat) (m : β × Nat) : Out × St := match q with
  | none => (.exit e, E m.1)
  | some k => (.ret, { t := [(r, .c (I k))], o := [], n := m.2 })
theorem index_loop {β γ : Type} (n : Nat) (p : Nat → Bool) {f : St → Option (Out × St)} (S : Nat → β → St) (r : Nat) (e : Nat) (E : γ → St) (z : γ)
    (h1 : ∀ i, i < n → ∀ x, p i = false → ∃ y, f (S i x) = some (.normal, S (i + 1) y)) (h2 : ∀ i, i < n → ∀ x, p i = true → ∃ k, f (S i x) = some (.ret, { t := [(r, .c (I i))], o := [], n := k }))
    (h3 : ∀ x, ∃ y, f (S n x) = some (.exit e, E y)) : ∃ g : β → γ × Nat, ∀ x, loopN f (n + 1) (S 0 x) = some (finI r e E (firstN p n) (g x)) :=
  first_loop n p S (finI r e E) (fun q m => by cases q <;> simp [finI]) h1 (fun i hi x c => by
    obtain ⟨k, hk⟩ := h2 i hi x c
    exact ⟨(z, k), hk⟩) (fun x => by
    obtain ⟨y, hy⟩ := h3 x
    exact ⟨(y, 0), hy⟩)
def bnE (st : Store) (s : List UInt8) (x : Nat × Nat) : St := { t := [(1, .c (S s)), (2, .c (.ptr 2 x.1 0 0)), (5, .c (I st.boxes.length)), (10, .c (.bool false))], o := [(2, ⟨x.1, 4, true, true, [encStore st]⟩)], n := x.2 }
theorem spec_BoxNamed.says (h : spec_BoxNamed.k M) (st : Store) (s : List UInt8) (hb : st.boxes.length ≤ 1048576) : run M 226 [.a (encStore st), .c (S s)] [] = some (.c (I (intO (named st.boxes s))), []) := by
  refine run_code (b := spec_BoxNamed.m) h ⟨st.boxes.length + 1, ?_⟩
  obtain ⟨g, hr⟩ := index_loop (f := exC (run M) (st.boxes.length + 1) spec_BoxNamed.l0) st.boxes.length (atP (fun b => decide (b.name = s)) st.boxes) (bnS st s) 4 0 (bnE st s) (0, 0)
    (fun i hi x c => by
      obtain ⟨v, x⟩ := x
      rw [atP_at hi, decide_eq_false_iff_not] at c
      have e5 : IntKind.i64.wrap ((i : Int) + 1) = (i : Int) + 1 := wrap_i64 (by omega) (by omega)
      simp only [Prod.exists]
      simp (maxSteps := 1000000) [spec_BoxNamed.l0, List.range_succ, bs_get, setAt, bnS, hi, c, encBox, e5])
    (fun i hi x c => by
      obtain ⟨v, x⟩ := x
      rw [atP_at hi, decide_eq_true_eq] at c
      simp (maxSteps := 1000000) [spec_BoxNamed.l0, List.range_succ, bs_get, setAt, bnS, hi, c, encBox])
    (fun x => by
      obtain ⟨v, x⟩ := x
      simp only [Prod.exists]
      simp (maxSteps := 1000000) [spec_BoxNamed.l0, List.range_succ, bs_get, setAt, bnS, bnE])
  rw [firstN_findIdx] at hr
  unfold named
  cases hm : st.boxes.findIdx? fun b => decide (b.name = s) with
  | none =>
    simp [bnS, hm, finI, bnE] at hr
    simp (maxSteps := 1000000) [exB, spec_BoxNamed.m, spec_BoxNamed.b, List.range_succ, bs_get, setAt, hr, intO]
  | some k =>
    simp [bnS, hm, finI] at hr
    simp (maxSteps := 1000000) [exB, spec_BoxNamed.m, spec_BoxNamed.b, List.range_succ, bs_get, setAt, hr, intO]
theorem impl_BoxNamed_1.says (h : impl_BoxNamed_1.k M) (b : Box) (s : List UInt8) : run M 271 [.a (encBox b), .c (.vp [S s] 0)] [] = some (.c (.bool (decide (b.name = s))), []) := by
  refine run_code (b := impl_BoxNamed_1.m) h ⟨0, ?_⟩
  simp (maxSteps := 1000000) [exB, impl_BoxNamed_1.m, impl_BoxNamed_1.b, List.range_succ, bs_get, setAt]
def ixbS (l : List Box) (s : List UInt8) (i : Nat) (x : Nat) : St := { t := [(0, .c (boxes l)), (1, .c (.fn 271 [.vp [S s] 0])), (7, .c (I l.length)), (8, .c (I i))], o := [], n := x }
def ixbE (l : List Box) (s : List UInt8) (x : Nat) : St := { t := [(0, .c (boxes l)), (1, .c (.fn 271 [.vp [S s] 0])), (7, .c (I l.length)), (8, .c (I l.length)), (9, .c (.bool false))], o := [], n := x }
theorem impl_BoxNamed.index (h : slices_IndexFunc_impl_Box_impl_Box.k M) (h2 : impl_BoxNamed_1.k M) (l : List Box) (s : List UInt8) (hl : l.length ≤ 1048576) :
    run M 200 [.c (boxes l), .c (.fn 271 [.vp [S s] 0])] [] = some (.c (I (intO (named l s))), []) := by
  refine run_code (b := slices_IndexFunc_impl_Box_impl_Box.m) h ⟨l.length + 1, ?_⟩
  obtain ⟨g, hr⟩ := index_loop (f := exC (run M) (l.length + 1) slices_IndexFunc_impl_Box_impl_Box.l0) l.length (atP (fun b => decide (b.name = s)) l) (ixbS l s) 4 0 (ixbE l s) 0
    (fun i hi x c => by
      have hm := impl_BoxNamed_1.says h2 l[i] s
      rw [atP_at hi] at c
      rw [c] at hm
      simp only [encBox] at hm
      have e5 : IntKind.i64.wrap ((i : Int) + 1) = (i : Int) + 1 := wrap_i64 (by omega) (by omega)
      simp (maxSteps := 1000000) [slices_IndexFunc_impl_Box_impl_Box.l0, List.range_succ, bs_get, setAt, ixbS, hi, hm, encBox, e5])
    (fun i hi x c => by
      have hm := impl_BoxNamed_1.says h2 l[i] s
      rw [atP_at hi] at c
      rw [c] at hm
      simp only [encBox] at hm
      simp (maxSteps := 1000000) [slices_IndexFunc_impl_Box_impl_Box.l0, List.range_succ, bs_get, setAt, ixbS, hi, hm, encBox])
    (fun x => by simp (maxSteps := 1000000) [slices_IndexFunc_impl_Box_impl_Box.l0, List.range_succ, bs_get, setAt, ixbS, ixbE])
  rw [firstN_findIdx] at hr
  unfold named
  cases hm : l.findIdx? fun b => decide (b.name = s) with
  | none =>
    simp [ixbS, hm, finI, ixbE] at hr
    simp (maxSteps := 1000000) [exB, slices_IndexFunc_impl_Box_impl_Box.m, slices_IndexFunc_impl_Box_impl_Box.b, List.range_succ, bs_get, setAt, hr, intO]
  | some k =>
    simp [ixbS, hm, finI] at hr
    simp (maxSteps := 1000000) [exB, slices_IndexFunc_impl_Box_impl_Box.m, slices_IndexFunc_impl_Box_impl_Box.b, List.range_succ, bs_get, setAt, hr, intO]
theorem impl_BoxNamed.says (h : impl_BoxNamed.k M) (st : Store) (s : List UInt8) (hb : st.boxes.length ≤ 1048576) : run M 228 [.a (encStore st), .c (S s)] [] = some (.c (I (intO (named st.boxes s))), []) := by
  have h1 := impl_BoxNamed.index h.2.1 h.2.2 st.boxes s hb
  refine run_code (b := impl_BoxNamed.m) h.1 ⟨0, ?_⟩
  simp (maxSteps := 1000000) [exB, impl_BoxNamed.m, impl_BoxNamed.b, List.range_succ, bs_get, setAt, h1]
/-! ## late stamps -/
def lateM (time : Int) (m : Mail) : Bool := m.flags.any fun r => decide (time < r.time)
def late (b : Box) (time : Int) : Bool := decide (time < b.time) || b.mails.any (lateM time)
def ltS (b : Box) (time : Int) (i : Nat) (x : Nat × Nat) : St := { t := [(1, .c (I time)), (2, .c (.ptr 2 x.1 0 0)), (10, .c (mails b.mails)), (11, .c (I b.mails.length)), (12, .c (I i))], o := [(2, ⟨x.1, 7, true, true, [encBox b]⟩)], n := x.2 }
def ltE (b : Box) (time : Int) (x : Nat × Nat) : St := { t := [(1, .c (I time)), (2, .c (.ptr 2 x.1 0 0)), (10, .c (mails b.mails)), (11, .c (I b.mails.length)), (12, .c (I b.mails.length)), (13, .c (.bool false))], o := [(2, ⟨x.1, 7, true, true, [encBox b]⟩)], n := x.2 }
def lt1S (b : Box) (time : Int) (i : Nat) (l : List Reg) (k : Nat) (x : Nat × Nat) : St := { t := [(1, .c (I time)), (2, .c (.ptr 2 x.1 0 0)), (10, .c (mails b.mails)), (11, .c (I b.mails.length)), (12, .c (I i)), (17, .c (regs l)), (18, .c (I l.length)), (19, .c (I k))], o := [(2, ⟨x.1, 7, true, true, [encBox b]⟩)], n := x.2 }
def lt1E (b : Box) (time : Int) (i : Nat) (l : List Reg) (x : Nat × Nat) : St := { t := [(1, .c (I time)), (2, .c (.ptr 2 x.1 0 0)), (10, .c (mails b.mails)), (11, .c (I b.mails.length)), (12, .c (I i)), (17, .c (regs l)), (18, .c (I l.length)), (19, .c (I l.length)), (20, .c (.bool false))], o := [(2, ⟨x.1, 7, true, true, [encBox b]⟩)], n := x.2 }
theorem any_none {α : Type} {p : α → Bool} {l : List α} (h : l.any p = false) : firstN (atP p l) l.length = none := by
  have := firstN_any p l
  rw [h] at this; simpa using this
theorem any_some {α : Type} {p : α → Bool} {l : List α} (h : l.any p = true) : ∃ k, firstN (atP p l) l.length = some k := by
  have := firstN_any p l
  rw [h] at this; exact Option.isSome_iff_exists.1 this
theorem impl_isLate.inner (b : Box) (time : Int) (i K : Nat) (l : List Reg) (hl : l.length ≤ 1048576) : ∃ g : Nat × Nat → (Nat × Nat) × Nat, ∀ x, loopN (exC (run M) K impl_isLate.l1) (l.length + 1) (lt1S b time i l 0 x) = some (fin1 4 (.bool true) 2 (lt1E b time i l) (firstN (atP (fun r => decide (time < r.time)) l) l.length) (g x)) :=
  early_loop l.length (atP (fun r => decide (time < r.time)) l) (lt1S b time i l) 4 (.bool true) 2 (lt1E b time i l)
    (fun i hi x c => by
      obtain ⟨v, x⟩ := x
      rw [atP_at hi, decide_eq_false_iff_not] at c
      have e5 : IntKind.i64.wrap ((i : Int) + 1) = (i : Int) + 1 := wrap_i64 (by omega) (by omega)
      simp only [Prod.exists]
      simp (maxSteps := 1000000) [impl_isLate.l1, List.range_succ, bs_get, setAt, lt1S, hi, c, encReg, e5])
    (fun i hi x c => by
      obtain ⟨v, x⟩ := x
      rw [atP_at hi, decide_eq_true_eq] at c
      simp (maxSteps := 1000000) [impl_isLate.l1, List.range_succ, bs_get, setAt, lt1S, hi, c, encReg])
    (fun x => by
      obtain ⟨v, x⟩ := x
      simp only [Prod.exists]
      simp (maxSteps := 1000000) [impl_isLate.l1, List.range_succ, bs_get, setAt, lt1S, lt1E])
theorem impl_isLate.says (h : impl_isLate.k M) (b : Box) (time : Int) (hb : b.mails.length ≤ 1048576) (hf : ∀ m ∈ b.mails, m.flags.length ≤ 1048576) : run M 229 [.a (encBox b), .c (I time)] [] = some (.c (.bool (late b time)), []) := by
  refine run_code (b := impl_isLate.m) h ⟨b.mails.length + 1048577, ?_⟩
  obtain ⟨K, hK⟩ : ∃ K, b.mails.length + 1048577 = K := ⟨_, rfl⟩
  rw [hK]
  obtain ⟨g, hr⟩ := early_loop (f := exC (run M) K impl_isLate.l0) b.mails.length (atP (lateM time) b.mails) (ltS b time) 4 (.bool true) 0 (ltE b time)
    (fun i hi x c => by
      obtain ⟨v, x⟩ := x
      rw [atP_at hi, lateM] at c
      have e5 : IntKind.i64.wrap ((i : Int) + 1) = (i : Int) + 1 := wrap_i64 (by omega) (by omega)
      have hfl := hf _ (List.getElem_mem hi)
      obtain ⟨g, hr⟩ := impl_isLate.inner (M := M) b time i K b.mails[i].flags hfl
      rw [any_none c] at hr
      have hr2 := fun x => loopN_le (hr x) (show b.mails[i].flags.length + 1 ≤ K by omega)
      simp [lt1S, lt1E, fin1] at hr2
      simp only [Prod.exists]
      simp (maxSteps := 1000000) [impl_isLate.l0, List.range_succ, bs_get, setAt, ltS, hi, encMail, e5, hr2])
    (fun i hi x c => by
      obtain ⟨v, x⟩ := x
      rw [atP_at hi, lateM] at c
      have hfl := hf _ (List.getElem_mem hi)
      obtain ⟨g, hr⟩ := impl_isLate.inner (M := M) b time i K b.mails[i].flags hfl
      obtain ⟨k, hk⟩ := any_some c
      rw [hk] at hr
      have hr2 := fun x => loopN_le (hr x) (show b.mails[i].flags.length + 1 ≤ K by omega)
      simp [lt1S, fin1] at hr2
      simp (maxSteps := 1000000) [impl_isLate.l0, List.range_succ, bs_get, setAt, ltS, hi, encMail, hr2])
    (fun x => by
      obtain ⟨v, x⟩ := x
      simp only [Prod.exists]
      simp (maxSteps := 1000000) [impl_isLate.l0, List.range_succ, bs_get, setAt, ltS, ltE])
  have hr2 := fun x => loopN_le (hr x) (show b.mails.length + 1 ≤ K by omega)
  unfold late
  cases c : b.mails.any (lateM time)
  · rw [any_none c] at hr2
    simp [ltS, ltE, fin1] at hr2
    simp (maxSteps := 1000000) [exB, impl_isLate.m, impl_isLate.b, List.range_succ, bs_get, setAt, hr2]
  · obtain ⟨k, hk⟩ := any_some c
    rw [hk] at hr2
    simp [ltS, fin1] at hr2
    simp (maxSteps := 1000000) [exB, impl_isLate.m, impl_isLate.b, List.range_succ, bs_get, setAt, hr2]
def st0S (b : Box) (time : Int) (i : Nat) (x : Nat × Nat) : St := { t := [(1, .c (I time)), (2, .c (.ptr 2 x.1 0 0)), (5, .c (I i))], o := [(2, ⟨x.1, 7, true, true, [encBox b]⟩)], n := x.2 }
def st0E (b : Box) (time : Int) (x : Nat × Nat) : St := { t := [(1, .c (I time)), (2, .c (.ptr 2 x.1 0 0)), (5, .c (I b.mails.length)), (16, .c (.bool false))], o := [(2, ⟨x.1, 7, true, true, [encBox b]⟩)], n := x.2 }
def st1S (b : Box) (time : Int) (i : Nat) (k : Nat) (x : Nat × Nat) : St := { t := [(1, .c (I time)), (2, .c (.ptr 2 x.1 0 0)), (5, .c (I i)), (6, .c (I k))], o := [(2, ⟨x.1, 7, true, true, [encBox b]⟩)], n := x.2 }
def st1E (b : Box) (time : Int) (i : Nat) (k : Nat) (x : Nat × Nat) : St := { t := [(1, .c (I time)), (2, .c (.ptr 2 x.1 0 0)), (5, .c (I i)), (6, .c (I k)), (27, .c (.bool false))], o := [(2, ⟨x.1, 7, true, true, [encBox b]⟩)], n := x.2 }
theorem spec_l07Times.inner (b : Box) (time : Int) (i K : Nat) (hi : i < b.mails.length) (hl : b.mails[i].flags.length ≤ 1048576) : ∃ g : Nat × Nat → (Nat × Nat) × Nat, ∀ x, loopN (exC (run M) K spec_l07Times.l1) (b.mails[i].flags.length + 1) (st1S b time i 0 x) = some (fin1 4 (.bool false) 2 (st1E b time i b.mails[i].flags.length) (firstN (atP (fun r => decide (time < r.time)) b.mails[i].flags) b.mails[i].flags.length) (g x)) :=
  early_loop b.mails[i].flags.length (atP (fun r => decide (time < r.time)) b.mails[i].flags) (st1S b time i) 4 (.bool false) 2 (st1E b time i b.mails[i].flags.length)
    (fun k hk x c => by
      obtain ⟨v, x⟩ := x
      rw [atP_at hk, decide_eq_false_iff_not] at c
      have e5 : IntKind.i64.wrap ((k : Int) + 1) = (k : Int) + 1 := wrap_i64 (by omega) (by omega)
      simp only [Prod.exists]
      simp (maxSteps := 1000000) [spec_l07Times.l1, List.range_succ, bs_get, setAt, st1S, hi, hk, c, encReg, encMail, e5])
    (fun k hk x c => by
      obtain ⟨v, x⟩ := x
      rw [atP_at hk, decide_eq_true_eq] at c
      simp (maxSteps := 1000000) [spec_l07Times.l1, List.range_succ, bs_get, setAt, st1S, hi, hk, c, encReg, encMail])
    (fun x => by
      obtain ⟨v, x⟩ := x
      simp only [Prod.exists]
      simp (maxSteps := 1000000) [spec_l07Times.l1, List.range_succ, bs_get, setAt, st1S, st1E, hi, encMail])
theorem spec_l07Times.says (h : spec_l07Times.k M) (b : Box) (time : Int) (hb : b.mails.length ≤ 1048576) (hf : ∀ m ∈ b.mails, m.flags.length ≤ 1048576) : run M 227 [.a (encBox b), .c (I time)] [] = some (.c (.bool (!late b time)), []) := by
  refine run_code (b := spec_l07Times.m) h ⟨b.mails.length + 1048577, ?_⟩
  obtain ⟨K, hK⟩ : ∃ K, b.mails.length + 1048577 = K := ⟨_, rfl⟩
  rw [hK]
  obtain ⟨g, hr⟩ := early_loop (f := exC (run M) K spec_l07Times.l0) b.mails.length (atP (lateM time) b.mails) (st0S b time) 4 (.bool false) 0 (st0E b time)
    (fun i hi x c => by
      obtain ⟨v, x⟩ := x
      rw [atP_at hi, lateM] at c
      have e5 : IntKind.i64.wrap ((i : Int) + 1) = (i : Int) + 1 := wrap_i64 (by omega) (by omega)
      have hfl := hf _ (List.getElem_mem hi)
      obtain ⟨g, hr⟩ := spec_l07Times.inner (M := M) b time i K hi hfl
      rw [any_none c] at hr
      have hr2 := fun x => loopN_le (hr x) (show b.mails[i].flags.length + 1 ≤ K by omega)
      simp [st1S, st1E, fin1] at hr2
      simp only [Prod.exists]
      simp (maxSteps := 1000000) [spec_l07Times.l0, List.range_succ, bs_get, setAt, st0S, hi, encMail, e5, hr2])
    (fun i hi x c => by
      obtain ⟨v, x⟩ := x
      rw [atP_at hi, lateM] at c
      have hfl := hf _ (List.getElem_mem hi)
      obtain ⟨g, hr⟩ := spec_l07Times.inner (M := M) b time i K hi hfl
      obtain ⟨k, hk⟩ := any_some c
      rw [hk] at hr
      have hr2 := fun x => loopN_le (hr x) (show b.mails[i].flags.length + 1 ≤ K by omega)
      simp [st1S, fin1] at hr2
      simp (maxSteps := 1000000) [spec_l07Times.l0, List.range_succ, bs_get, setAt, st0S, hi, encMail, hr2])
    (fun x => by
      obtain ⟨v, x⟩ := x
      simp only [Prod.exists]
      simp (maxSteps := 1000000) [spec_l07Times.l0, List.range_succ, bs_get, setAt, st0S, st0E])
  have hr2 := fun x => loopN_le (hr x) (show b.mails.length + 1 ≤ K by omega)
  unfold late
  by_cases c0 : time < b.time
  · simp (maxSteps := 1000000) [exB, spec_l07Times.m, spec_l07Times.b, List.range_succ, bs_get, setAt, c0]
  cases c : b.mails.any (lateM time)
  · rw [any_none c] at hr2
    simp [st0S, st0E, fin1] at hr2
    simp (maxSteps := 1000000) [exB, spec_l07Times.m, spec_l07Times.b, List.range_succ, bs_get, setAt, hr2, c0]
  · obtain ⟨k, hk⟩ := any_some c
    rw [hk] at hr2
    simp [st0S, fin1] at hr2
    simp (maxSteps := 1000000) [exB, spec_l07Times.m, spec_l07Times.b, List.range_succ, bs_get, setAt, hr2, c0]
end Mx

/-
  What is right: stores, both sides.
-/
namespace Mx
open Go
variable {M : Nat → Option Body}
def gidsOf (b : Box) : List Int := b.mails.map (·.gid)
def seenAt (s : Store) (i : Nat) : List Int := (s.boxes.take i).flatMap gidsOf
theorem seenAt_succ {s : Store} {i : Nat} (h : i < s.boxes.length) : seenAt s (i + 1) = seenAt s i ++ gidsOf s.boxes[i] := by
  rw [seenAt, seenAt, List.take_succ_eq_append_getElem h, List.flatMap_append]; simp
def dupAt (seen l : List Int) (k : Nat) : Bool := match l[k]? with
  | some g => decide (g ∈ seen ++ l.take k)
  | none => false
theorem dupAt_at {seen l : List Int} {k : Nat} (h : k < l.length) : dupAt seen l k = decide (l[k] ∈ seen ++ l.take k) := by simp [dupAt, h]
def dups (seen l : List Int) : Bool := (firstN (dupAt seen l) l.length).isSome
def badBox (s : Store) (i : Nat) : Bool := match s.boxes[i]? with
  | some b => !boxOk b || (decide (0 < i) && match s.boxes[i - 1]? with | some p => decide (b.gid ≤ p.gid) | none => false) || !decide (intO (named s.boxes b.name) = (i : Int)) || decide (b.gid ∈ s.gone) || late b s.time
  | none => false
theorem badBox_at {s : Store} {i : Nat} (h : i < s.boxes.length) : badBox s i = (!boxOk s.boxes[i] || (decide (0 < i) && decide (s.boxes[i].gid ≤ s.boxes[i - 1].gid)) || !decide (intO (named s.boxes s.boxes[i].name) = (i : Int)) ||
    decide (s.boxes[i].gid ∈ s.gone) || late s.boxes[i] s.time) := by simp [badBox, h, (show i - 1 < s.boxes.length by omega)]
def badAt (s : Store) (i : Nat) : Bool := badBox s i || match s.boxes[i]? with
  | some b => dups (seenAt s i) (gidsOf b)
  | none => false
theorem badAt_at {s : Store} {i : Nat} (h : i < s.boxes.length) : badAt s i = (badBox s i || dups (seenAt s i) (gidsOf s.boxes[i])) := by simp [badAt, h]
def storeOk (s : Store) : Bool := inR 1 s.who 2 && inR 0 s.time 100000 && decide (s.boxes.length ≤ 5) && gidsOk s.gone 20 && (firstN (badAt s) s.boxes.length).isNone
/-- small enough to be walked -/
structure BoxIn (b : Box) : Prop where
  m : b.mails.length ≤ 1048576
  g : b.gone.length ≤ 1048576
  n : b.name.length ≤ 1048576
  f : ∀ m ∈ b.mails, m.flags.length ≤ 1048576
structure StoreIn (s : Store) : Prop where
  b : s.boxes.length ≤ 1048576
  g : s.gone.length ≤ 1048576
  i : ∀ b ∈ s.boxes, BoxIn b
  s : (s.boxes.flatMap gidsOf).length ≤ 1048576
theorem seenAt_le {s : Store} (h : StoreIn s) (i : Nat) : (seenAt s i).length ≤ 1048576 := by
  refine Nat.le_trans ?_ h.s
  conv => rhs; rw [← List.take_append_drop i s.boxes]
  rw [List.flatMap_append, List.length_append]
  exact Nat.le_add_right _ _
def soO (s : Store) (seen : List Int) (x : Nat × Nat × Nat) : List (Nat × Ob) := [(1, ⟨x.1, 4, true, true, [encStore s]⟩), (30, ⟨x.2.1, 1, true, false, irow seen⟩)]
def so0S (s : Store) (i : Nat) (x : Nat × Nat × Nat) : St := { t := [(1, .c (.ptr 1 x.1 0 0)), (3, .c (.row 30 x.2.1 0 (seenAt s i).length)), (32, .c (boxes s.boxes)), (33, .c (I s.boxes.length)), (34, .c (I i))], o := soO s (seenAt s i) x, n := x.2.2 }
def so0E (s : Store) (x : Nat × Nat × Nat) : St := { t := [(1, .c (.ptr 1 x.1 0 0)), (3, .c (.row 30 x.2.1 0 (seenAt s s.boxes.length).length)), (32, .c (boxes s.boxes)), (33, .c (I s.boxes.length)), (34, .c (I s.boxes.length)), (35, .c (.bool false))], o := soO s (seenAt s s.boxes.length) x, n := x.2.2 }
def so1S (s : Store) (b : Box) (seen : List Int) (i k : Nat) (x : Nat × Nat × Nat) : St := { t := [(1, .c (.ptr 1 x.1 0 0)), (3, .c (.row 30 x.2.1 0 (seen.length + k))), (32, .c (boxes s.boxes)), (33, .c (I s.boxes.length)), (34, .c (I i)), (80, .c (mails b.mails)), (81, .c (I b.mails.length)), (82, .c (I k))], o := soO s (seen ++ (gidsOf b).take k) x, n := x.2.2 }
def so1E (s : Store) (b : Box) (seen : List Int) (i : Nat) (x : Nat × Nat × Nat) : St := { t := [(1, .c (.ptr 1 x.1 0 0)), (3, .c (.row 30 x.2.1 0 (seen.length + b.mails.length))), (32, .c (boxes s.boxes)), (33, .c (I s.boxes.length)), (34, .c (I i)), (80, .c (mails b.mails)), (81, .c (I b.mails.length)), (82, .c (I b.mails.length)), (83, .c (.bool false))], o := soO s (seen ++ gidsOf b) x, n := x.2.2 }
theorem gidsOf_len (b : Box) : (gidsOf b).length = b.mails.length := by simp [gidsOf]
theorem gidsOf_at (b : Box) (k : Nat) (h : k < (gidsOf b).length) : (gidsOf b)[k] = (b.mails[k]'(by simpa [gidsOf] using h)).gid := by simp [gidsOf]
theorem impl_StoreOk.inner (hin : slices_Contains_int_int.k M) (s : Store) (b : Box) (seen : List Int) (i K : Nat) (hl : b.mails.length ≤ 1048576) (hs : seen.length ≤ 1048576) :
    ∃ g : Nat × Nat × Nat → (Nat × Nat × Nat) × Nat, ∀ x, loopN (exC (run M) K impl_StoreOk.l1) (b.mails.length + 1) (so1S s b seen i 0 x) = some (fin1 2 (.bool false) 2 (so1E s b seen i) (firstN (dupAt seen (gidsOf b)) b.mails.length) (g x)) :=
  early_loop b.mails.length (dupAt seen (gidsOf b)) (so1S s b seen i) 2 (.bool false) 2 (so1E s b seen i)
    (fun k hk x c => by
      obtain ⟨v, w, x⟩ := x
      have hk' : k < (gidsOf b).length := by rw [gidsOf_len]; exact hk
      rw [dupAt_at hk'] at c
      have hlen : (seen ++ (gidsOf b).take k).length = seen.length + k := by rw [List.length_append, List.length_take, Nat.min_eq_left (by omega)]
      have h1 := slices_Contains_int_int.says hin (seen ++ (gidsOf b).take k) (gidsOf b)[k] (by rw [hlen]; omega)
      rw [c] at h1
      rw [gidsOf_at] at h1
      simp only [ints] at h1
      have e5 : IntKind.i64.wrap ((k : Int) + 1) = (k : Int) + 1 := wrap_i64 (by omega) (by omega)
      have e6 : seen.length + (k + 1) ≤ 4294967296 := by omega
      have e7 : seen ++ (gidsOf b).take (k + 1) = (seen ++ (gidsOf b).take k) ++ [b.mails[k].gid] := by rw [List.take_succ_eq_append_getElem hk', gidsOf_at, List.append_assoc]
      have e8 : irow ((seen ++ (gidsOf b).take k) ++ [b.mails[k].gid]) = irow (seen ++ (gidsOf b).take k) ++ [[I b.mails[k].gid]] := by simp [irow]
      have e9 : (irow (seen ++ (gidsOf b).take k)).length = seen.length + k := by simp only [irow, List.length_map]; exact hlen
      simp only [Prod.exists, so1S, soO, e7, e8]
      generalize irow (seen ++ (gidsOf b).take k) = rr at *
      simp (maxSteps := 1000000) [impl_StoreOk.l1, List.range_succ, bs_get, setAt, hk, h1, encMail, e5, e6, e9, List.take_of_length_le, Nat.add_assoc])
    (fun k hk x c => by
      obtain ⟨v, w, x⟩ := x
      have hk' : k < (gidsOf b).length := by rw [gidsOf_len]; exact hk
      rw [dupAt_at hk'] at c
      have hlen : (seen ++ (gidsOf b).take k).length = seen.length + k := by rw [List.length_append, List.length_take, Nat.min_eq_left (by omega)]
      have h1 := slices_Contains_int_int.says hin (seen ++ (gidsOf b).take k) (gidsOf b)[k] (by rw [hlen]; omega)
      rw [c] at h1
      rw [gidsOf_at] at h1
      simp only [ints] at h1
      have e9 : (irow (seen ++ (gidsOf b).take k)).length = seen.length + k := by simp only [irow, List.length_map]; exact hlen
      simp only [so1S, soO]
      generalize irow (seen ++ (gidsOf b).take k) = rr at *
      simp (maxSteps := 1000000) [impl_StoreOk.l1, List.range_succ, bs_get, setAt, hk, h1, encMail, e9, List.take_of_length_le])
    (fun x => by
      obtain ⟨v, w, x⟩ := x
      have e7 : (gidsOf b).take b.mails.length = gidsOf b := List.take_of_length_le (by rw [gidsOf_len]; omega)
      simp only [Prod.exists, so1S, so1E, soO, e7]
      simp (maxSteps := 1000000) [impl_StoreOk.l1, List.range_succ, bs_get, setAt])
theorem BoxIn.ok {b : Box} (h : BoxIn b) : b.mails.length ≤ 1048576 ∧ b.gone.length ≤ 4611686018427387904 ∧ b.name.length ≤ 4611686018427387904 ∧ ∀ m ∈ b.mails, m.flags.length ≤ 1048576 := ⟨h.m, by have := h.g; omega, by have := h.n; omega, h.f⟩
structure impl_StoreOk.ks (M : Nat → Option Body) : Prop where
  box : impl_BoxOk.k M
  con : slices_Contains_int_int.k M
  nam : impl_BoxNamed.k M
  lat : impl_isLate.k M
theorem impl_StoreOk.good (h : impl_StoreOk.ks M) (s : Store) (hs : StoreIn s) (K : Nat) (hK : 2000000 ≤ K) (i : Nat) (hi : i < s.boxes.length) (x : Nat × Nat × Nat) (c : badAt s i = false) :
    ∃ y, exC (run M) K impl_StoreOk.l0 (so0S s i x) = some (.normal, so0S s (i + 1) y) := by
  have hb := hs.i _ (List.getElem_mem hi)
  have h1 := impl_BoxOk.says h.box s.boxes[i] hb.ok.1 hb.ok.2.1 hb.ok.2.2.1 hb.ok.2.2.2
  have h2 := impl_BoxNamed.says h.nam s s.boxes[i].name hs.b
  have h3 := slices_Contains_int_int.says h.con s.gone s.boxes[i].gid (by have := hs.g; omega)
  have h4 := impl_isLate.says h.lat s.boxes[i] s.time hb.m hb.f
  have hsl := seenAt_le hs i
  obtain ⟨g, hr⟩ := impl_StoreOk.inner h.con s s.boxes[i] (seenAt s i) i K hb.m hsl
  have hr2 := fun x => loopN_le (hr x) (show s.boxes[i].mails.length + 1 ≤ K by have := hb.m; omega)
  rw [badAt_at hi, badBox_at hi] at c
  simp only [Bool.or_eq_false_iff, Bool.and_eq_false_iff, Bool.not_eq_false', decide_eq_false_iff_not, decide_eq_true_eq] at c
  obtain ⟨⟨⟨⟨⟨c1, c2⟩, c3⟩, c4⟩, c5⟩, c6⟩ := c
  have e5 : IntKind.i64.wrap ((i : Int) + 1) = (i : Int) + 1 := wrap_i64 (by have := hs.b; omega) (by have := hs.b; omega)
  rw [c1] at h1
  rw [c3] at h2
  rw [decide_eq_false c4] at h3
  rw [c5] at h4
  have q : firstN (dupAt (seenAt s i) (gidsOf s.boxes[i])) s.boxes[i].mails.length = none := by
    unfold dups at c6; rw [gidsOf_len] at c6; simpa using c6
  rw [q] at hr2
  obtain ⟨v, w, x⟩ := x
  simp only [encBox, encStore] at h1 h2 h4
  simp only [ints] at h3
  have hz : irow (seenAt s i ++ gidsOf s.boxes[i]) = irow (seenAt s i) ++ irow (gidsOf s.boxes[i]) := by simp [irow]
  simp [so1S, so1E, soO, fin1] at hr2
  simp only [so0S, soO, seenAt_succ hi, Prod.exists]
  have hgl := gidsOf_len s.boxes[i]
  by_cases c7 : 0 < i
  · have e6 : IntKind.i64.wrap ((i : Int) - 1) = ((i - 1 : Nat) : Int) := by rw [wrap_i64 (by have := hs.b; omega) (by have := hs.b; omega)]; omega
    have c2' : ¬ s.boxes[i].gid ≤ s.boxes[i - 1].gid := by
      rcases c2 with c2 | c2
      · exact absurd c7 c2
      · exact c2
    simp (maxSteps := 1000000) [impl_StoreOk.l0, List.range_succ, bs_get, setAt, hi, h1, h2, h3, h4, c7, c2', e5, e6, hr2, hgl, encBox, (show i - 1 < s.boxes.length by omega)]
  · simp (maxSteps := 1000000) [impl_StoreOk.l0, List.range_succ, bs_get, setAt, hi, h1, h2, h3, h4, c7, e5, hr2, hgl, encBox]
theorem impl_StoreOk.bad (h : impl_StoreOk.ks M) (s : Store) (hs : StoreIn s) (K : Nat) (hK : 2000000 ≤ K) (i : Nat) (hi : i < s.boxes.length) (x : Nat × Nat × Nat) (c : badAt s i = true) :
    ∃ k, exC (run M) K impl_StoreOk.l0 (so0S s i x) = some (.ret, { t := [(2, .c (.bool false))], o := [], n := k }) := by
  have hb := hs.i _ (List.getElem_mem hi)
  have h1 := impl_BoxOk.says h.box s.boxes[i] hb.ok.1 hb.ok.2.1 hb.ok.2.2.1 hb.ok.2.2.2
  have h2 := impl_BoxNamed.says h.nam s s.boxes[i].name hs.b
  have h3 := slices_Contains_int_int.says h.con s.gone s.boxes[i].gid (by have := hs.g; omega)
  have h4 := impl_isLate.says h.lat s.boxes[i] s.time hb.m hb.f
  have hsl := seenAt_le hs i
  obtain ⟨g, hr⟩ := impl_StoreOk.inner h.con s s.boxes[i] (seenAt s i) i K hb.m hsl
  have hr2 := fun x => loopN_le (hr x) (show s.boxes[i].mails.length + 1 ≤ K by have := hb.m; omega)
  rw [badAt_at hi, badBox_at hi] at c
  obtain ⟨v, w, x⟩ := x
  simp only [encBox, encStore] at h1 h2 h4
  simp only [ints] at h3
  simp only [so0S, soO]
  cases c1 : boxOk s.boxes[i]
  · rw [c1] at h1
    simp (maxSteps := 1000000) [impl_StoreOk.l0, List.range_succ, bs_get, setAt, hi, h1, encBox]
  rw [c1] at h1
  have tail : ∀ (hp : ¬ 0 < i ∨ ¬ s.boxes[i].gid ≤ s.boxes[i - 1].gid), ∃ k, exC (run M) K impl_StoreOk.l0 { t := [(1, .c (.ptr 1 v 0 0)), (3, .c (.row 30 w 0 (seenAt s i).length)), (32, .c (boxes s.boxes)), (33, .c (I s.boxes.length)), (34, .c (I i))], o := [(1, ⟨v, 4, true, true, [encStore s]⟩), (30, ⟨w, 1, true, false, irow (seenAt s i)⟩)], n := x } = some (.ret, { t := [(2, .c (.bool false))], o := [], n := k }) := by
    intro hp
    have hpp : (decide (0 < i) && decide (s.boxes[i].gid ≤ s.boxes[i - 1].gid)) = false := by
      rcases hp with hp | hp <;> simp [hp]
    have key : (∀ (Q : Prop), (0 < i → ¬ s.boxes[i].gid ≤ s.boxes[i - 1].gid → Q) → (¬ 0 < i → Q) → Q) := by
      intro Q q1 q2
      by_cases c7 : 0 < i
      · rcases hp with hp | hp
        · exact absurd c7 hp
        · exact q1 c7 hp
      · exact q2 c7
    have e6 : 0 < i → IntKind.i64.wrap ((i : Int) - 1) = ((i - 1 : Nat) : Int) := fun c7 => by rw [wrap_i64 (by have := hs.b; omega) (by have := hs.b; omega)]; omega
    have hi1 : i - 1 < s.boxes.length := by omega
    by_cases c3 : intO (named s.boxes s.boxes[i].name) = (i : Int)
    rotate_left
    · exact key _ (fun c7 c2 => by simp (maxSteps := 1000000) [impl_StoreOk.l0, List.range_succ, bs_get, setAt, hi, h1, h2, c7, c2, c3, e6 c7, encBox, hi1]) (fun c7 => by simp (maxSteps := 1000000) [impl_StoreOk.l0, List.range_succ, bs_get, setAt, hi, h1, h2, c7, c3, encBox])
    rw [c3] at h2
    by_cases c4 : s.boxes[i].gid ∈ s.gone
    · rw [decide_eq_true c4] at h3
      exact key _ (fun c7 c2 => by simp (maxSteps := 1000000) [impl_StoreOk.l0, List.range_succ, bs_get, setAt, hi, h1, h2, h3, c7, c2, c3, e6 c7, encBox, hi1]) (fun c7 => by simp (maxSteps := 1000000) [impl_StoreOk.l0, List.range_succ, bs_get, setAt, hi, h1, h2, h3, c7, c3, encBox])
    rw [decide_eq_false c4] at h3
    cases c5 : late s.boxes[i] s.time
    rotate_left
    · rw [c5] at h4
      exact key _ (fun c7 c2 => by simp (maxSteps := 1000000) [impl_StoreOk.l0, List.range_succ, bs_get, setAt, hi, h1, h2, h3, h4, c7, c2, c3, e6 c7, encBox, hi1]) (fun c7 => by simp (maxSteps := 1000000) [impl_StoreOk.l0, List.range_succ, bs_get, setAt, hi, h1, h2, h3, h4, c7, c3, encBox])
    rw [c5] at h4
    have c6 : dups (seenAt s i) (gidsOf s.boxes[i]) = true := by
      rw [c1, hpp, c3, c5] at c
      simpa [c4] using c
    obtain ⟨k, hk⟩ : ∃ k, firstN (dupAt (seenAt s i) (gidsOf s.boxes[i])) s.boxes[i].mails.length = some k := by
      unfold dups at c6; rw [gidsOf_len] at c6; exact Option.isSome_iff_exists.1 c6
    rw [hk] at hr2
    simp [so1S, soO, fin1] at hr2
    have hgl := gidsOf_len s.boxes[i]
    exact key _ (fun c7 c2 => by simp (maxSteps := 1000000) [impl_StoreOk.l0, List.range_succ, bs_get, setAt, hi, h1, h2, h3, h4, c7, c2, c3, e6 c7, hr2, encBox, hi1]) (fun c7 => by simp (maxSteps := 1000000) [impl_StoreOk.l0, List.range_succ, bs_get, setAt, hi, h1, h2, h3, h4, c7, c3, hr2, encBox])
  by_cases c7 : 0 < i
  · by_cases c2 : s.boxes[i].gid ≤ s.boxes[i - 1].gid
    · have e6 : IntKind.i64.wrap ((i : Int) - 1) = ((i - 1 : Nat) : Int) := by rw [wrap_i64 (by have := hs.b; omega) (by have := hs.b; omega)]; omega
      simp (maxSteps := 1000000) [impl_StoreOk.l0, List.range_succ, bs_get, setAt, hi, h1, c7, c2, e6, encBox, (show i - 1 < s.boxes.length by omega)]
    · exact tail (.inr c2)
  · exact tail (.inl c7)
theorem impl_StoreOk.says (h : impl_StoreOk.k M) (s : Store) (hs : StoreIn s) : run M 150 [.a (encStore s)] [] = some (.c (.bool (storeOk s)), []) := by
  obtain ⟨h0, k1, k2, k3, k4, k5, k6⟩ := h
  have h1 := impl_within.inR k2 s.who 1 2
  have h2 := impl_within.inR k2 s.time 0 100000
  have h3 := impl_areGids.says k4 s.gone 20 (by have := hs.g; omega)
  refine run_code (b := impl_StoreOk.m) h0 ⟨4000000, ?_⟩
  obtain ⟨K, hK⟩ : ∃ K, 4000000 = K := ⟨_, rfl⟩
  rw [hK]
  obtain ⟨g, hr⟩ := early_loop (f := exC (run M) K impl_StoreOk.l0) s.boxes.length (badAt s) (so0S s) 2 (.bool false) 0 (so0E s)
    (fun i hi x c => impl_StoreOk.good ⟨k1, k3, k5, k6⟩ s hs K (by omega) i hi x c)
    (fun i hi x c => impl_StoreOk.bad ⟨k1, k3, k5, k6⟩ s hs K (by omega) i hi x c)
    (fun x => by
      obtain ⟨v, w, x⟩ := x
      simp only [Prod.exists]
      simp (maxSteps := 1000000) [impl_StoreOk.l0, List.range_succ, bs_get, setAt, so0S, so0E, soO])
  have hr2 := fun x => loopN_le (hr x) (show s.boxes.length + 1 ≤ K by have := hs.b; omega)
  cases c1 : inR 1 s.who 2
  · simp (maxSteps := 1000000) [exB, impl_StoreOk.m, impl_StoreOk.b, List.range_succ, bs_get, setAt, h1, c1, storeOk]
  cases c2 : inR 0 s.time 100000
  · simp (maxSteps := 1000000) [exB, impl_StoreOk.m, impl_StoreOk.b, List.range_succ, bs_get, setAt, h1, h2, c1, c2, storeOk]
  by_cases c3 : 5 < s.boxes.length
  · have c3' : ¬ s.boxes.length ≤ 5 := by omega
    have ci : (5 : Int) < s.boxes.length := by omega
    simp (maxSteps := 1000000) [exB, impl_StoreOk.m, impl_StoreOk.b, List.range_succ, bs_get, setAt, h1, h2, c1, c2, c3', ci, storeOk]
  have c3' : s.boxes.length ≤ 5 := by omega
  have ci : ¬ (5 : Int) < s.boxes.length := by omega
  cases c4 : gidsOk s.gone 20
  · simp (maxSteps := 1000000) [exB, impl_StoreOk.m, impl_StoreOk.b, List.range_succ, bs_get, setAt, h1, h2, h3, c1, c2, ci, c4, storeOk]
  have hz : seenAt s 0 = [] := by simp [seenAt]
  cases q : firstN (badAt s) s.boxes.length with
  | none =>
    simp [so0S, so0E, soO, q, fin1, hz, irow] at hr2
    simp (maxSteps := 1000000) [exB, impl_StoreOk.m, impl_StoreOk.b, List.range_succ, bs_get, setAt, h1, h2, h3, c1, c2, c3', ci, c4, hr2, storeOk, q]
  | some k =>
    simp [so0S, soO, q, fin1, hz, irow] at hr2
    simp (maxSteps := 1000000) [exB, impl_StoreOk.m, impl_StoreOk.b, List.range_succ, bs_get, setAt, h1, h2, h3, c1, c2, c3', ci, c4, hr2, storeOk, q]
/-! ## the other side -/
def spO (s : Store) (seen : List Int) (x : Nat × Nat × Nat) : List (Nat × Ob) := [(1, ⟨x.1, 4, true, true, [encStore s]⟩), (29, ⟨x.2.1, 1, true, false, irow seen⟩)]
def sp0S (s : Store) (i : Nat) (x : Nat × Nat × Nat) : St := { t := [(1, .c (.ptr 1 x.1 0 0)), (3, .c (.row 29 x.2.1 0 (seenAt s i).length)), (4, .c (I i))], o := spO s (seenAt s i) x, n := x.2.2 }
def sp0E (s : Store) (x : Nat × Nat × Nat) : St := { t := [(1, .c (.ptr 1 x.1 0 0)), (3, .c (.row 29 x.2.1 0 (seenAt s s.boxes.length).length)), (4, .c (I s.boxes.length)), (34, .c (.bool false))], o := spO s (seenAt s s.boxes.length) x, n := x.2.2 }
def sp1O (s : Store) (b : Box) (seen : List Int) (x : Nat × Nat × Nat × Nat) : List (Nat × Ob) := [(1, ⟨x.1, 4, true, true, [encStore s]⟩), (5, ⟨x.2.2.1, 7, true, true, [encBox b]⟩), (29, ⟨x.2.1, 1, true, false, irow seen⟩)]
def sp1S (s : Store) (b : Box) (seen : List Int) (i k : Nat) (x : Nat × Nat × Nat × Nat) : St := { t := [(1, .c (.ptr 1 x.1 0 0)), (3, .c (.row 29 x.2.1 0 (seen.length + k))), (4, .c (I i)), (5, .c (.ptr 5 x.2.2.1 0 0)), (6, .c (I k))], o := sp1O s b (seen ++ (gidsOf b).take k) x, n := x.2.2.2 }
def sp1E (s : Store) (b : Box) (seen : List Int) (i : Nat) (x : Nat × Nat × Nat × Nat) : St := { t := [(1, .c (.ptr 1 x.1 0 0)), (3, .c (.row 29 x.2.1 0 (seen.length + b.mails.length))), (4, .c (I i)), (5, .c (.ptr 5 x.2.2.1 0 0)), (6, .c (I b.mails.length)), (87, .c (.bool false))], o := sp1O s b (seen ++ gidsOf b) x, n := x.2.2.2 }
theorem spec_StoreOk.inner (hin : spec_l06In.k M) (s : Store) (b : Box) (seen : List Int) (i K : Nat) (hl : b.mails.length ≤ 1048576) (hs : seen.length ≤ 1048576) :
    ∃ g : Nat × Nat × Nat × Nat → (Nat × Nat × Nat × Nat) × Nat, ∀ x, loopN (exC (run M) K spec_StoreOk.l1) (b.mails.length + 1) (sp1S s b seen i 0 x) = some (fin1 2 (.bool false) 2 (sp1E s b seen i) (firstN (dupAt seen (gidsOf b)) b.mails.length) (g x)) :=
  early_loop b.mails.length (dupAt seen (gidsOf b)) (sp1S s b seen i) 2 (.bool false) 2 (sp1E s b seen i)
    (fun k hk x c => by
      obtain ⟨v, w, z, x⟩ := x
      have hk' : k < (gidsOf b).length := by rw [gidsOf_len]; exact hk
      rw [dupAt_at hk'] at c
      have hlen : (seen ++ (gidsOf b).take k).length = seen.length + k := by rw [List.length_append, List.length_take, Nat.min_eq_left (by omega)]
      have h1 := spec_l06In.says hin (seen ++ (gidsOf b).take k) (gidsOf b)[k] (by rw [hlen]; omega)
      rw [c] at h1
      rw [gidsOf_at] at h1
      simp only [ints] at h1
      have e5 : IntKind.i64.wrap ((k : Int) + 1) = (k : Int) + 1 := wrap_i64 (by omega) (by omega)
      have e6 : seen.length + (k + 1) ≤ 4294967296 := by omega
      have e7 : seen ++ (gidsOf b).take (k + 1) = (seen ++ (gidsOf b).take k) ++ [b.mails[k].gid] := by rw [List.take_succ_eq_append_getElem hk', gidsOf_at, List.append_assoc]
      have e8 : irow ((seen ++ (gidsOf b).take k) ++ [b.mails[k].gid]) = irow (seen ++ (gidsOf b).take k) ++ [[I b.mails[k].gid]] := by simp [irow]
      have e9 : (irow (seen ++ (gidsOf b).take k)).length = seen.length + k := by simp only [irow, List.length_map]; exact hlen
      simp only [Prod.exists, sp1S, sp1O, e7, e8]
      generalize irow (seen ++ (gidsOf b).take k) = rr at *
      simp (maxSteps := 1000000) [spec_StoreOk.l1, List.range_succ, bs_get, setAt, hk, h1, encMail, e5, e6, e9, List.take_of_length_le, Nat.add_assoc]
      exact ⟨_, _, _, ⟨rfl, rfl, rfl⟩, rfl, rfl, rfl⟩)
    (fun k hk x c => by
      obtain ⟨v, w, z, x⟩ := x
      have hk' : k < (gidsOf b).length := by rw [gidsOf_len]; exact hk
      rw [dupAt_at hk'] at c
      have hlen : (seen ++ (gidsOf b).take k).length = seen.length + k := by rw [List.length_append, List.length_take, Nat.min_eq_left (by omega)]
      have h1 := spec_l06In.says hin (seen ++ (gidsOf b).take k) (gidsOf b)[k] (by rw [hlen]; omega)
      rw [c] at h1
      rw [gidsOf_at] at h1
      simp only [ints] at h1
      have e9 : (irow (seen ++ (gidsOf b).take k)).length = seen.length + k := by simp only [irow, List.length_map]; exact hlen
      simp only [sp1S, sp1O]
      generalize irow (seen ++ (gidsOf b).take k) = rr at *
      simp (maxSteps := 1000000) [spec_StoreOk.l1, List.range_succ, bs_get, setAt, hk, h1, encMail, e9, List.take_of_length_le])
    (fun x => by
      obtain ⟨v, w, z, x⟩ := x
      have e7 : (gidsOf b).take b.mails.length = gidsOf b := List.take_of_length_le (by rw [gidsOf_len]; omega)
      simp only [Prod.exists, sp1S, sp1E, sp1O, e7]
      simp (maxSteps := 1000000) [spec_StoreOk.l1, List.range_succ, bs_get, setAt]
      exact ⟨_, _, _, ⟨rfl, rfl, rfl⟩, rfl, rfl, rfl⟩)
structure spec_StoreOk.ks (M : Nat → Option Body) : Prop where
  box : spec_BoxOk.k M
  con : spec_l06In.k M
  nam : spec_BoxNamed.k M
  lat : spec_l07Times.k M
theorem spec_StoreOk.good (h : spec_StoreOk.ks M) (s : Store) (hs : StoreIn s) (K : Nat) (hK : 2000000 ≤ K) (i : Nat) (hi : i < s.boxes.length) (x : Nat × Nat × Nat) (c : badAt s i = false) :
    ∃ y, exC (run M) K spec_StoreOk.l0 (sp0S s i x) = some (.normal, sp0S s (i + 1) y) := by
  have hb := hs.i _ (List.getElem_mem hi)
  have h1 := spec_BoxOk.says h.box s.boxes[i] hb.ok.1 hb.ok.2.1 hb.ok.2.2.1 hb.ok.2.2.2
  have h2 := spec_BoxNamed.says h.nam s s.boxes[i].name hs.b
  have h3 := spec_l06In.says h.con s.gone s.boxes[i].gid (by have := hs.g; omega)
  have h4 := spec_l07Times.says h.lat s.boxes[i] s.time hb.m hb.f
  have hsl := seenAt_le hs i
  obtain ⟨g, hr⟩ := spec_StoreOk.inner h.con s s.boxes[i] (seenAt s i) i K hb.m hsl
  have hr2 := fun x => loopN_le (hr x) (show s.boxes[i].mails.length + 1 ≤ K by have := hb.m; omega)
  rw [badAt_at hi, badBox_at hi] at c
  simp only [Bool.or_eq_false_iff, Bool.and_eq_false_iff, Bool.not_eq_false', decide_eq_false_iff_not, decide_eq_true_eq] at c
  obtain ⟨⟨⟨⟨⟨c1, c2⟩, c3⟩, c4⟩, c5⟩, c6⟩ := c
  have e5 : IntKind.i64.wrap ((i : Int) + 1) = (i : Int) + 1 := wrap_i64 (by have := hs.b; omega) (by have := hs.b; omega)
  rw [c1] at h1
  rw [c3] at h2
  rw [decide_eq_false c4] at h3
  rw [c5] at h4
  have q : firstN (dupAt (seenAt s i) (gidsOf s.boxes[i])) s.boxes[i].mails.length = none := by
    unfold dups at c6; rw [gidsOf_len] at c6; simpa using c6
  rw [q] at hr2
  obtain ⟨v, w, x⟩ := x
  simp only [encBox, encStore] at h1 h2 h4
  simp only [ints] at h3
  have hz : irow (seenAt s i ++ gidsOf s.boxes[i]) = irow (seenAt s i) ++ irow (gidsOf s.boxes[i]) := by simp [irow]
  simp [sp1S, sp1E, sp1O, fin1] at hr2
  simp only [sp0S, spO, seenAt_succ hi, Prod.exists]
  have hgl := gidsOf_len s.boxes[i]
  by_cases c7 : 0 < i
  · have e6 : IntKind.i64.wrap ((i : Int) - 1) = ((i - 1 : Nat) : Int) := by rw [wrap_i64 (by have := hs.b; omega) (by have := hs.b; omega)]; omega
    have c2' : ¬ s.boxes[i].gid ≤ s.boxes[i - 1].gid := by
      rcases c2 with c2 | c2
      · exact absurd c7 c2
      · exact c2
    simp (maxSteps := 1000000) [spec_StoreOk.l0, List.range_succ, bs_get, setAt, hi, h1, h2, h3, h4, c7, c2', e5, e6, hr2, hgl, encBox, (show i - 1 < s.boxes.length by omega)]
  · simp (maxSteps := 1000000) [spec_StoreOk.l0, List.range_succ, bs_get, setAt, hi, h1, h2, h3, h4, c7, e5, hr2, hgl, encBox]
theorem spec_StoreOk.bad (h : spec_StoreOk.ks M) (s : Store) (hs : StoreIn s) (K : Nat) (hK : 2000000 ≤ K) (i : Nat) (hi : i < s.boxes.length) (x : Nat × Nat × Nat) (c : badAt s i = true) :
    ∃ k, exC (run M) K spec_StoreOk.l0 (sp0S s i x) = some (.ret, { t := [(2, .c (.bool false))], o := [], n := k }) := by
  have hb := hs.i _ (List.getElem_mem hi)
  have h1 := spec_BoxOk.says h.box s.boxes[i] hb.ok.1 hb.ok.2.1 hb.ok.2.2.1 hb.ok.2.2.2
  have h2 := spec_BoxNamed.says h.nam s s.boxes[i].name hs.b
  have h3 := spec_l06In.says h.con s.gone s.boxes[i].gid (by have := hs.g; omega)
  have h4 := spec_l07Times.says h.lat s.boxes[i] s.time hb.m hb.f
  have hsl := seenAt_le hs i
  obtain ⟨g, hr⟩ := spec_StoreOk.inner h.con s s.boxes[i] (seenAt s i) i K hb.m hsl
  have hr2 := fun x => loopN_le (hr x) (show s.boxes[i].mails.length + 1 ≤ K by have := hb.m; omega)
  rw [badAt_at hi, badBox_at hi] at c
  obtain ⟨v, w, x⟩ := x
  simp only [encBox, encStore] at h1 h2 h4
  simp only [ints] at h3
  simp only [sp0S, spO]
  cases c1 : boxOk s.boxes[i]
  · rw [c1] at h1
    simp (maxSteps := 1000000) [spec_StoreOk.l0, List.range_succ, bs_get, setAt, hi, h1, encBox]
  rw [c1] at h1
  have tail : ∀ (hp : ¬ 0 < i ∨ ¬ s.boxes[i].gid ≤ s.boxes[i - 1].gid), ∃ k, exC (run M) K spec_StoreOk.l0 { t := [(1, .c (.ptr 1 v 0 0)), (3, .c (.row 29 w 0 (seenAt s i).length)), (4, .c (I i))], o := [(1, ⟨v, 4, true, true, [encStore s]⟩), (29, ⟨w, 1, true, false, irow (seenAt s i)⟩)], n := x } = some (.ret, { t := [(2, .c (.bool false))], o := [], n := k }) := by
    intro hp
    have hpp : (decide (0 < i) && decide (s.boxes[i].gid ≤ s.boxes[i - 1].gid)) = false := by
      rcases hp with hp | hp <;> simp [hp]
    have key : (∀ (Q : Prop), (0 < i → ¬ s.boxes[i].gid ≤ s.boxes[i - 1].gid → Q) → (¬ 0 < i → Q) → Q) := by
      intro Q q1 q2
      by_cases c7 : 0 < i
      · rcases hp with hp | hp
        · exact absurd c7 hp
        · exact q1 c7 hp
      · exact q2 c7
    have e6 : 0 < i → IntKind.i64.wrap ((i : Int) - 1) = ((i - 1 : Nat) : Int) := fun c7 => by rw [wrap_i64 (by have := hs.b; omega) (by have := hs.b; omega)]; omega
    have hi1 : i - 1 < s.boxes.length := by omega
    by_cases c3 : intO (named s.boxes s.boxes[i].name) = (i : Int)
    rotate_left
    · exact key _ (fun c7 c2 => by simp (maxSteps := 1000000) [spec_StoreOk.l0, List.range_succ, bs_get, setAt, hi, h1, h2, c7, c2, c3, e6 c7, encBox, hi1]) (fun c7 => by simp (maxSteps := 1000000) [spec_StoreOk.l0, List.range_succ, bs_get, setAt, hi, h1, h2, c7, c3, encBox])
    rw [c3] at h2
    by_cases c4 : s.boxes[i].gid ∈ s.gone
    · rw [decide_eq_true c4] at h3
      exact key _ (fun c7 c2 => by simp (maxSteps := 1000000) [spec_StoreOk.l0, List.range_succ, bs_get, setAt, hi, h1, h2, h3, c7, c2, c3, e6 c7, encBox, hi1]) (fun c7 => by simp (maxSteps := 1000000) [spec_StoreOk.l0, List.range_succ, bs_get, setAt, hi, h1, h2, h3, c7, c3, encBox])
    rw [decide_eq_false c4] at h3
    cases c5 : late s.boxes[i] s.time
    rotate_left
    · rw [c5] at h4
      exact key _ (fun c7 c2 => by simp (maxSteps := 1000000) [spec_StoreOk.l0, List.range_succ, bs_get, setAt, hi, h1, h2, h3, h4, c7, c2, c3, e6 c7, encBox, hi1]) (fun c7 => by simp (maxSteps := 1000000) [spec_StoreOk.l0, List.range_succ, bs_get, setAt, hi, h1, h2, h3, h4, c7, c3, encBox])
    rw [c5] at h4
    have c6 : dups (seenAt s i) (gidsOf s.boxes[i]) = true := by
      rw [c1, hpp, c3, c5] at c
      simpa [c4] using c
    obtain ⟨k, hk⟩ : ∃ k, firstN (dupAt (seenAt s i) (gidsOf s.boxes[i])) s.boxes[i].mails.length = some k := by
      unfold dups at c6; rw [gidsOf_len] at c6; exact Option.isSome_iff_exists.1 c6
    rw [hk] at hr2
    simp [sp1S, sp1O, fin1] at hr2
    have hgl := gidsOf_len s.boxes[i]
    exact key _ (fun c7 c2 => by simp (maxSteps := 1000000) [spec_StoreOk.l0, List.range_succ, bs_get, setAt, hi, h1, h2, h3, h4, c7, c2, c3, e6 c7, hr2, encBox, hi1]) (fun c7 => by simp (maxSteps := 1000000) [spec_StoreOk.l0, List.range_succ, bs_get, setAt, hi, h1, h2, h3, h4, c7, c3, hr2, encBox])
  by_cases c7 : 0 < i
  · by_cases c2 : s.boxes[i].gid ≤ s.boxes[i - 1].gid
    · have e6 : IntKind.i64.wrap ((i : Int) - 1) = ((i - 1 : Nat) : Int) := by rw [wrap_i64 (by have := hs.b; omega) (by have := hs.b; omega)]; omega
      simp (maxSteps := 1000000) [spec_StoreOk.l0, List.range_succ, bs_get, setAt, hi, h1, c7, c2, e6, encBox, (show i - 1 < s.boxes.length by omega)]
    · exact tail (.inr c2)
  · exact tail (.inl c7)
theorem spec_StoreOk.says (h : spec_StoreOk.k M) (s : Store) (hs : StoreIn s) : run M 149 [.a (encStore s)] [] = some (.c (.bool (storeOk s)), []) := by
  obtain ⟨h0, k1, k2, k3, k4, k5, k6⟩ := h
  have h1 := spec_l01In.inR k2 s.who 1 2
  have h2 := spec_l01In.inR k2 s.time 0 100000
  have h3 := spec_l06Sorted.says k4 s.gone 20 (by have := hs.g; omega)
  refine run_code (b := spec_StoreOk.m) h0 ⟨4000000, ?_⟩
  obtain ⟨K, hK⟩ : ∃ K, 4000000 = K := ⟨_, rfl⟩
  rw [hK]
  obtain ⟨g, hr⟩ := early_loop (f := exC (run M) K spec_StoreOk.l0) s.boxes.length (badAt s) (sp0S s) 2 (.bool false) 0 (sp0E s)
    (fun i hi x c => spec_StoreOk.good ⟨k1, k3, k5, k6⟩ s hs K (by omega) i hi x c)
    (fun i hi x c => spec_StoreOk.bad ⟨k1, k3, k5, k6⟩ s hs K (by omega) i hi x c)
    (fun x => by
      obtain ⟨v, w, x⟩ := x
      simp only [Prod.exists]
      simp (maxSteps := 1000000) [spec_StoreOk.l0, List.range_succ, bs_get, setAt, sp0S, sp0E, spO])
  have hr2 := fun x => loopN_le (hr x) (show s.boxes.length + 1 ≤ K by have := hs.b; omega)
  cases c1 : inR 1 s.who 2
  · simp (maxSteps := 1000000) [exB, spec_StoreOk.m, spec_StoreOk.b, List.range_succ, bs_get, setAt, h1, c1, storeOk]
  cases c2 : inR 0 s.time 100000
  · simp (maxSteps := 1000000) [exB, spec_StoreOk.m, spec_StoreOk.b, List.range_succ, bs_get, setAt, h1, h2, c1, c2, storeOk]
  by_cases c3 : 5 < s.boxes.length
  · have c3' : ¬ s.boxes.length ≤ 5 := by omega
    have ci : (5 : Int) < s.boxes.length := by omega
    simp (maxSteps := 1000000) [exB, spec_StoreOk.m, spec_StoreOk.b, List.range_succ, bs_get, setAt, h1, h2, c1, c2, c3', ci, storeOk]
  have c3' : s.boxes.length ≤ 5 := by omega
  have ci : ¬ (5 : Int) < s.boxes.length := by omega
  cases c4 : gidsOk s.gone 20
  · simp (maxSteps := 1000000) [exB, spec_StoreOk.m, spec_StoreOk.b, List.range_succ, bs_get, setAt, h1, h2, h3, c1, c2, ci, c4, storeOk]
  have hz : seenAt s 0 = [] := by simp [seenAt]
  cases q : firstN (badAt s) s.boxes.length with
  | none =>
    simp [sp0S, sp0E, spO, q, fin1, hz, irow] at hr2
    simp (maxSteps := 1000000) [exB, spec_StoreOk.m, spec_StoreOk.b, List.range_succ, bs_get, setAt, h1, h2, h3, c1, c2, c3', ci, c4, hr2, storeOk, q]
  | some k =>
    simp [sp0S, spO, q, fin1, hz, irow] at hr2
    simp (maxSteps := 1000000) [exB, spec_StoreOk.m, spec_StoreOk.b, List.range_succ, bs_get, setAt, h1, h2, h3, c1, c2, c3', ci, c4, hr2, storeOk, q]
end Mx

/-
  Small codes: spec.l02Four, impl.four, spec.SumMore, spec.SumOf, impl.SumMore, impl.SumOf, spec.Sealed, impl.Sealed, spec.Unsealed, impl.fourAt, impl.Unsealed.
-/
namespace Mx
open Go
def spec_l02Four.b : C := .seq (.reg [⟨some 2, .mv (.k (.str ⟨#[]⟩)), none⟩] [0] [])
  (.seq (.reg [⟨some 3, .mv (.t 0), none⟩,
    ⟨some 4, .bin .shr (.t 3) (.k (.int .u64 24)), none⟩,
    ⟨some 5, .i2i .u8 (.t 4), none⟩,
    ⟨some 6, .mv (.t 0), none⟩,
    ⟨some 7, .bin .shr (.t 6) (.k (.int .u64 16)), none⟩,
    ⟨some 8, .i2i .u8 (.t 7), none⟩,
    ⟨some 9, .mv (.t 0), none⟩,
    ⟨some 10, .bin .shr (.t 9) (.k (.int .u64 8)), none⟩,
    ⟨some 11, .i2i .u8 (.t 10), none⟩,
    ⟨some 12, .mv (.t 0), none⟩,
    ⟨some 13, .i2i .u8 (.t 12), none⟩,
    ⟨some 14, .bslice 1 4 [.int .u8 0] [(0, .t 5), (1, .t 8), (2, .t 11), (3, .t 13)], none⟩,
    ⟨some 15, .b2s (.t 14), none⟩,
    ⟨some 2, .mv (.t 15), none⟩] [2] [])
  (.ret))
def spec_l02Four.m : Fn := { np := 1, body := spec_l02Four.b, res := [.tmp 2] }
def spec_l02Four.k (M : Nat → Option Body) : Prop := M 202 = some (.code spec_l02Four.m)
def impl_four.b : C := .seq (.reg [⟨some 2, .mv (.k (.str ⟨#[]⟩)), none⟩] [0] [])
  (.seq (.reg [⟨some 3, .mv (.t 0), none⟩,
    ⟨some 4, .bin .shr (.t 3) (.k (.int .u64 24)), none⟩,
    ⟨some 5, .i2i .u8 (.t 4), none⟩,
    ⟨some 6, .mv (.t 0), none⟩,
    ⟨some 7, .bin .shr (.t 6) (.k (.int .u64 16)), none⟩,
    ⟨some 8, .i2i .u8 (.t 7), none⟩,
    ⟨some 9, .mv (.t 0), none⟩,
    ⟨some 10, .bin .shr (.t 9) (.k (.int .u64 8)), none⟩,
    ⟨some 11, .i2i .u8 (.t 10), none⟩,
    ⟨some 12, .mv (.t 0), none⟩,
    ⟨some 13, .i2i .u8 (.t 12), none⟩,
    ⟨some 14, .bslice 1 4 [.int .u8 0] [(0, .t 5), (1, .t 8), (2, .t 11), (3, .t 13)], none⟩,
    ⟨some 15, .b2s (.t 14), none⟩,
    ⟨some 2, .mv (.t 15), none⟩] [2] [])
  (.ret))
def impl_four.m : Fn := { np := 1, body := impl_four.b, res := [.tmp 2] }
def impl_four.k (M : Nat → Option Body) : Prop := M 204 = some (.code impl_four.m)
def spec_SumMore.l1 : C := .seq (.seq (.reg [⟨some 20, .mv (.t 6), none⟩,
    ⟨some 21, .bin .lss (.t 20) (.k (.int .i64 8)), none⟩] [0, 1, 5, 6, 21] [])
  (.cond (.t 21) (.skip) (.exit 2)))
  (.seq (.block 3 (.seq (.reg [⟨some 24, .mv (.t 0), none⟩,
    ⟨some 25, .bin .rem (.t 24) (.k (.int .u32 2)), none⟩,
    ⟨some 26, .bin .eql (.t 25) (.k (.int .u32 1)), none⟩,
    ⟨some 7, .mv (.t 26), none⟩] [0, 1, 5, 6, 7] [])
  (.seq (.reg [⟨some 27, .mv (.t 0), none⟩,
    ⟨some 28, .bin .quo (.t 27) (.k (.int .u32 2)), none⟩,
    ⟨some 0, .mv (.t 28), none⟩] [0, 1, 5, 6, 7] [])
  (.seq (.reg [⟨some 29, .mv (.t 7), none⟩] [0, 1, 5, 6, 29] [])
  (.cond (.t 29) (.reg [⟨some 30, .mv (.t 0), none⟩,
    ⟨some 31, .bin .xor (.t 30) (.k (.int .u32 3558460437)), none⟩,
    ⟨some 0, .mv (.t 31), none⟩] [0, 1, 5, 6] []) (.skip))))))
  (.reg [⟨some 22, .mv (.t 6), none⟩,
    ⟨some 23, .bin .add (.t 22) (.k (.int .i64 1)), none⟩,
    ⟨some 6, .mv (.t 23), none⟩] [0, 1, 5, 6] []))
def spec_SumMore.l0 : C := .seq (.seq (.reg [⟨some 8, .mv (.t 5), none⟩,
    ⟨some 9, .mv (.t 1), none⟩,
    ⟨some 10, .slen (.t 9), none⟩,
    ⟨some 11, .bin .lss (.t 8) (.t 10), none⟩] [0, 1, 5, 11] [])
  (.cond (.t 11) (.skip) (.exit 0)))
  (.seq (.block 1 (.seq (.reg [⟨some 14, .mv (.t 0), none⟩,
    ⟨some 15, .mv (.t 1), none⟩,
    ⟨some 16, .mv (.t 5), none⟩,
    ⟨some 17, .idx (.t 15) (.t 16), none⟩,
    ⟨some 18, .i2i .u32 (.t 17), none⟩,
    ⟨some 19, .bin .xor (.t 14) (.t 18), none⟩,
    ⟨some 0, .mv (.t 19), none⟩] [0, 1, 5] [])
  (.seq (.reg [⟨some 6, .mv (.k (.int .i64 0)), none⟩] [0, 1, 5, 6] [])
  (.block 2 (.loop spec_SumMore.l1)))))
  (.reg [⟨some 12, .mv (.t 5), none⟩,
    ⟨some 13, .bin .add (.t 12) (.k (.int .i64 1)), none⟩,
    ⟨some 5, .mv (.t 13), none⟩] [0, 1, 5] []))
def spec_SumMore.b : C := .seq (.reg [⟨some 4, .mv (.k (.int .u32 0)), none⟩] [0, 1] [])
  (.seq (.seq (.reg [⟨some 5, .mv (.k (.int .i64 0)), none⟩] [0, 1, 5] [])
  (.block 0 (.loop spec_SumMore.l0)))
  (.seq (.reg [⟨some 32, .mv (.t 0), none⟩,
    ⟨some 4, .mv (.t 32), none⟩] [4] [])
  (.ret)))
def spec_SumMore.m : Fn := { np := 2, body := spec_SumMore.b, res := [.tmp 4] }
def spec_SumMore.k (M : Nat → Option Body) : Prop := M 248 = some (.code spec_SumMore.m)
def spec_SumOf.b : C := .seq (.reg [⟨some 2, .mv (.k (.int .u32 0)), none⟩] [0] [])
  (.seq (.reg [⟨some 3, .mv (.t 0), none⟩,
    ⟨some 4, .call 248 [.k (.int .u32 4294967295), .t 3] [] [], none⟩,
    ⟨some 2, .mv (.t 4), none⟩] [2] [])
  (.ret))
def spec_SumOf.m : Fn := { np := 1, body := spec_SumOf.b, res := [.tmp 2] }
def spec_SumOf.k (M : Nat → Option Body) : Prop := M 201 = some (.code spec_SumOf.m) ∧ spec_SumMore.k M
def impl_SumMore.l1 : C := .seq (.reg [⟨some 20, .bin .lss (.t 19) (.k (.int .i64 8)), none⟩] [0, 1, 5, 19, 20] [])
  (.seq (.cond (.t 20) (.skip) (.exit 2))
  (.seq (.block 3 (.seq (.reg [⟨some 21, .mv (.t 0), none⟩,
    ⟨some 22, .bin .and (.t 21) (.k (.int .u32 1)), none⟩,
    ⟨some 6, .mv (.t 22), none⟩] [0, 1, 5, 6, 19] [])
  (.seq (.reg [⟨some 23, .mv (.t 0), none⟩,
    ⟨some 24, .bin .shr (.t 23) (.k (.int .u64 1)), none⟩,
    ⟨some 0, .mv (.t 24), none⟩] [0, 1, 5, 6, 19] [])
  (.seq (.reg [⟨some 25, .mv (.t 6), none⟩,
    ⟨some 26, .bin .eql (.t 25) (.k (.int .u32 1)), none⟩] [0, 1, 5, 19, 26] [])
  (.cond (.t 26) (.reg [⟨some 27, .mv (.t 0), none⟩,
    ⟨some 28, .bin .xor (.t 27) (.k (.int .u32 3558460437)), none⟩,
    ⟨some 0, .mv (.t 28), none⟩] [0, 1, 5, 19] []) (.skip))))))
  (.reg [⟨some 29, .bin .add (.t 19) (.k (.int .i64 1)), none⟩,
    ⟨some 19, .mv (.t 29), none⟩] [0, 1, 5, 19] [])))
def impl_SumMore.l0 : C := .seq (.seq (.reg [⟨some 7, .mv (.t 5), none⟩,
    ⟨some 8, .mv (.t 1), none⟩,
    ⟨some 9, .slen (.t 8), none⟩,
    ⟨some 10, .bin .lss (.t 7) (.t 9), none⟩] [0, 1, 5, 10] [])
  (.cond (.t 10) (.skip) (.exit 0)))
  (.seq (.block 1 (.seq (.reg [⟨some 13, .mv (.t 0), none⟩,
    ⟨some 14, .mv (.t 1), none⟩,
    ⟨some 15, .mv (.t 5), none⟩,
    ⟨some 16, .idx (.t 14) (.t 15), none⟩,
    ⟨some 17, .i2i .u32 (.t 16), none⟩,
    ⟨some 18, .bin .xor (.t 13) (.t 17), none⟩,
    ⟨some 0, .mv (.t 18), none⟩] [0, 1, 5] [])
  (.seq (.reg [⟨some 19, .mv (.k (.int .i64 0)), none⟩] [0, 1, 5, 19] [])
  (.block 2 (.loop impl_SumMore.l1)))))
  (.reg [⟨some 11, .mv (.t 5), none⟩,
    ⟨some 12, .bin .add (.t 11) (.k (.int .i64 1)), none⟩,
    ⟨some 5, .mv (.t 12), none⟩] [0, 1, 5] []))
def impl_SumMore.b : C := .seq (.reg [⟨some 4, .mv (.k (.int .u32 0)), none⟩] [0, 1] [])
  (.seq (.seq (.reg [⟨some 5, .mv (.k (.int .i64 0)), none⟩] [0, 1, 5] [])
  (.block 0 (.loop impl_SumMore.l0)))
  (.seq (.reg [⟨some 30, .mv (.t 0), none⟩,
    ⟨some 4, .mv (.t 30), none⟩] [4] [])
  (.ret)))
def impl_SumMore.m : Fn := { np := 2, body := impl_SumMore.b, res := [.tmp 4] }
def impl_SumMore.k (M : Nat → Option Body) : Prop := M 249 = some (.code impl_SumMore.m)
def impl_SumOf.b : C := .seq (.reg [⟨some 2, .mv (.k (.int .u32 0)), none⟩] [0] [])
  (.seq (.reg [⟨some 3, .mv (.t 0), none⟩,
    ⟨some 4, .call 249 [.k (.int .u32 4294967295), .t 3] [] [], none⟩,
    ⟨some 2, .mv (.t 4), none⟩] [2] [])
  (.ret))
def impl_SumOf.m : Fn := { np := 1, body := impl_SumOf.b, res := [.tmp 2] }
def impl_SumOf.k (M : Nat → Option Body) : Prop := M 203 = some (.code impl_SumOf.m) ∧ impl_SumMore.k M
def spec_Sealed.b : C := .seq (.reg [⟨some 2, .mv (.k (.str ⟨#[]⟩)), none⟩,
    ⟨some 3, .mv (.k (.bool false)), none⟩] [0] [])
  (.seq (.seq (.reg [⟨some 4, .mv (.t 0), none⟩,
    ⟨some 5, .slen (.t 4), none⟩,
    ⟨some 6, .bin .gtr (.t 5) (.k (.int .i64 20000)), none⟩] [0, 6] [])
  (.cond (.t 6) (.seq (.reg [⟨some 2, .mv (.k (.str ⟨#[]⟩)), none⟩,
    ⟨some 3, .mv (.k (.bool false)), none⟩] [2, 3] [])
  (.ret)) (.skip)))
  (.seq (.reg [⟨some 7, .mv (.t 0), none⟩,
    ⟨some 8, .mv (.t 0), none⟩,
    ⟨some 9, .call 201 [.t 8] [] [], none⟩,
    ⟨some 10, .call 202 [.t 9] [] [], none⟩,
    ⟨some 11, .bin .add (.t 7) (.t 10), none⟩,
    ⟨some 2, .mv (.t 11), none⟩,
    ⟨some 3, .mv (.k (.bool true)), none⟩] [2, 3] [])
  (.ret)))
def spec_Sealed.m : Fn := { np := 1, body := spec_Sealed.b, res := [.tmp 2, .tmp 3] }
def spec_Sealed.k (M : Nat → Option Body) : Prop := M 100 = some (.code spec_Sealed.m) ∧ spec_SumOf.k M ∧ spec_l02Four.k M
def impl_Sealed.b : C := .seq (.reg [⟨some 2, .mv (.k (.str ⟨#[]⟩)), none⟩,
    ⟨some 3, .mv (.k (.bool false)), none⟩] [0] [])
  (.seq (.seq (.reg [⟨some 4, .mv (.t 0), none⟩,
    ⟨some 5, .slen (.t 4), none⟩,
    ⟨some 6, .bin .gtr (.t 5) (.k (.int .i64 20000)), none⟩] [0, 6] [])
  (.cond (.t 6) (.seq (.reg [⟨some 2, .mv (.k (.str ⟨#[]⟩)), none⟩,
    ⟨some 3, .mv (.k (.bool false)), none⟩] [2, 3] [])
  (.ret)) (.skip)))
  (.seq (.reg [⟨some 7, .mv (.t 0), none⟩,
    ⟨some 8, .mv (.t 0), none⟩,
    ⟨some 9, .call 203 [.t 8] [] [], none⟩,
    ⟨some 10, .i2i .i64 (.t 9), none⟩,
    ⟨some 11, .call 204 [.t 10] [] [], none⟩,
    ⟨some 12, .bin .add (.t 7) (.t 11), none⟩,
    ⟨some 2, .mv (.t 12), none⟩,
    ⟨some 3, .mv (.k (.bool true)), none⟩] [2, 3] [])
  (.ret)))
def impl_Sealed.m : Fn := { np := 1, body := impl_Sealed.b, res := [.tmp 2, .tmp 3] }
def impl_Sealed.k (M : Nat → Option Body) : Prop := M 103 = some (.code impl_Sealed.m) ∧ impl_SumOf.k M ∧ impl_four.k M
def spec_Unsealed.b : C := .seq (.reg [⟨some 2, .mv (.k (.str ⟨#[]⟩)), none⟩,
    ⟨some 3, .mv (.k (.bool false)), none⟩] [0] [])
  (.seq (.reg [⟨some 5, .mv (.t 0), none⟩,
    ⟨some 6, .slen (.t 5), none⟩,
    ⟨some 7, .bin .sub (.t 6) (.k (.int .i64 4)), none⟩,
    ⟨some 4, .mv (.t 7), none⟩] [0, 4] [])
  (.seq (.seq (.regd [⟨some 8, .mv (.t 4), none⟩,
    ⟨some 9, .bin .lss (.t 8) (.k (.int .i64 0)), none⟩,
    ⟨some 10, .mv (.t 9), none⟩,
    ⟨some 11, .mv (.t 4), some (10, false)⟩,
    ⟨some 12, .bin .gtr (.t 11) (.k (.int .i64 20000)), some (10, false)⟩,
    ⟨some 13, .pick (.t 10) (.k (.bool true)) (.t 12), none⟩,
    ⟨some 14, .mv (.t 13), none⟩,
    ⟨some 15, .mv (.t 0), some (14, false)⟩,
    ⟨some 16, .mv (.t 4), some (14, false)⟩,
    ⟨some 17, .sstr (.t 15) (some (.t 16)) none, some (14, false)⟩,
    ⟨some 18, .mv (.t 0), some (14, false)⟩,
    ⟨some 19, .mv (.t 4), some (14, false)⟩,
    ⟨some 20, .sstr (.t 18) none (some (.t 19)), some (14, false)⟩,
    ⟨some 21, .call 201 [.t 20] [] [], some (14, false)⟩,
    ⟨some 22, .call 202 [.t 21] [] [], some (14, false)⟩,
    ⟨some 23, .bin .neq (.t 17) (.t 22), some (14, false)⟩,
    ⟨some 24, .pick (.t 14) (.k (.bool true)) (.t 23), none⟩] [[], [0], [0, 1], [0, 1, 2], [0, 1, 2, 3], [0, 1, 2, 3, 4], [0, 1, 2, 3, 4, 5], [0, 1, 2, 3, 4, 5, 6], [0, 1, 2, 3, 4, 5, 6], [0, 1, 2, 3, 4, 5, 6, 7, 8], [0, 1, 2, 3, 4, 5, 6], [0, 1, 2, 3, 4, 5, 6], [0, 1, 2, 3, 4, 5, 6, 10, 11], [0, 1, 2, 3, 4, 5, 6, 10, 11, 12], [0, 1, 2, 3, 4, 5, 6, 10, 11, 12, 13], [0, 1, 2, 3, 4, 5, 6, 7, 8, 9, 10, 11, 12, 13, 14], [0, 1, 2, 3, 4, 5, 6, 7, 8, 9, 10, 11, 12, 13, 14, 15]] [0, 4, 24] [])
  (.cond (.t 24) (.seq (.reg [⟨some 2, .mv (.k (.str ⟨#[]⟩)), none⟩,
    ⟨some 3, .mv (.k (.bool false)), none⟩] [2, 3] [])
  (.ret)) (.skip)))
  (.seq (.reg [⟨some 25, .mv (.t 0), none⟩,
    ⟨some 26, .mv (.t 4), none⟩,
    ⟨some 27, .sstr (.t 25) none (some (.t 26)), none⟩,
    ⟨some 2, .mv (.t 27), none⟩,
    ⟨some 3, .mv (.k (.bool true)), none⟩] [2, 3] [])
  (.ret))))
def spec_Unsealed.m : Fn := { np := 1, body := spec_Unsealed.b, res := [.tmp 2, .tmp 3] }
def spec_Unsealed.k (M : Nat → Option Body) : Prop := M 167 = some (.code spec_Unsealed.m) ∧ spec_SumOf.k M ∧ spec_l02Four.k M
def impl_fourAt.b : C := .seq (.reg [⟨some 4, .mv (.k (.int .i64 0)), none⟩] [0, 1] [])
  (.seq (.regd [⟨some 5, .mv (.t 0), none⟩,
    ⟨some 6, .mv (.t 1), none⟩,
    ⟨some 7, .idx (.t 5) (.t 6), none⟩,
    ⟨some 8, .i2i .i64 (.t 7), none⟩,
    ⟨some 9, .bin .shl (.t 8) (.k (.int .u64 24)), none⟩,
    ⟨some 10, .mv (.t 0), none⟩,
    ⟨some 11, .mv (.t 1), none⟩,
    ⟨some 12, .bin .add (.t 11) (.k (.int .i64 1)), none⟩,
    ⟨some 13, .idx (.t 10) (.t 12), none⟩,
    ⟨some 14, .i2i .i64 (.t 13), none⟩,
    ⟨some 15, .bin .shl (.t 14) (.k (.int .u64 16)), none⟩,
    ⟨some 16, .bin .or (.t 9) (.t 15), none⟩,
    ⟨some 17, .mv (.t 0), none⟩,
    ⟨some 18, .mv (.t 1), none⟩,
    ⟨some 19, .bin .add (.t 18) (.k (.int .i64 2)), none⟩,
    ⟨some 20, .idx (.t 17) (.t 19), none⟩,
    ⟨some 21, .i2i .i64 (.t 20), none⟩,
    ⟨some 22, .bin .shl (.t 21) (.k (.int .u64 8)), none⟩,
    ⟨some 23, .bin .or (.t 16) (.t 22), none⟩,
    ⟨some 24, .mv (.t 0), none⟩,
    ⟨some 25, .mv (.t 1), none⟩,
    ⟨some 26, .bin .add (.t 25) (.k (.int .i64 3)), none⟩,
    ⟨some 27, .idx (.t 24) (.t 26), none⟩,
    ⟨some 28, .i2i .i64 (.t 27), none⟩,
    ⟨some 29, .bin .or (.t 23) (.t 28), none⟩,
    ⟨some 4, .mv (.t 29), none⟩] [[], [], [0, 1], [0, 1, 2], [0, 1, 2, 3], [], [], [6], [5, 6, 7], [5, 6, 7, 8], [5, 6, 7, 8, 9], [0, 1, 2, 3, 4, 5, 6, 7, 8, 9, 10], [], [], [13], [12, 13, 14], [12, 13, 14, 15], [12, 13, 14, 15, 16], [0, 1, 2, 3, 4, 5, 6, 7, 8, 9, 10, 11, 12, 13, 14, 15, 16, 17], [], [], [20], [19, 20, 21], [19, 20, 21, 22], [0, 1, 2, 3, 4, 5, 6, 7, 8, 9, 10, 11, 12, 13, 14, 15, 16, 17, 18, 19, 20, 21, 22, 23], [0, 1, 2, 3, 4, 5, 6, 7, 8, 9, 10, 11, 12, 13, 14, 15, 16, 17, 18, 19, 20, 21, 22, 23, 24]] [4] [])
  (.ret))
def impl_fourAt.m : Fn := { np := 2, body := impl_fourAt.b, res := [.tmp 4] }
def impl_fourAt.k (M : Nat → Option Body) : Prop := M 236 = some (.code impl_fourAt.m)
def impl_Unsealed.b : C := .seq (.reg [⟨some 2, .mv (.k (.str ⟨#[]⟩)), none⟩,
    ⟨some 3, .mv (.k (.bool false)), none⟩] [0] [])
  (.seq (.reg [⟨some 5, .mv (.t 0), none⟩,
    ⟨some 6, .slen (.t 5), none⟩,
    ⟨some 7, .bin .sub (.t 6) (.k (.int .i64 4)), none⟩,
    ⟨some 4, .mv (.t 7), none⟩] [0, 4] [])
  (.seq (.seq (.reg [⟨some 8, .mv (.t 4), none⟩,
    ⟨some 9, .call 101 [.t 8, .k (.int .i64 0), .k (.int .i64 20000)] [] [], none⟩,
    ⟨some 10, .not (.t 9), none⟩,
    ⟨some 11, .mv (.t 10), none⟩,
    ⟨some 12, .mv (.t 0), some (11, false)⟩,
    ⟨some 13, .mv (.t 4), some (11, false)⟩,
    ⟨some 14, .sstr (.t 12) none (some (.t 13)), some (11, false)⟩,
    ⟨some 15, .call 203 [.t 14] [] [], some (11, false)⟩,
    ⟨some 16, .i2i .i64 (.t 15), some (11, false)⟩,
    ⟨some 17, .mv (.t 0), some (11, false)⟩,
    ⟨some 18, .mv (.t 4), some (11, false)⟩,
    ⟨some 19, .call 236 [.t 17, .t 18] [] [], some (11, false)⟩,
    ⟨some 20, .bin .neq (.t 16) (.t 19), some (11, false)⟩,
    ⟨some 21, .pick (.t 11) (.k (.bool true)) (.t 20), none⟩] [0, 4, 21] [])
  (.cond (.t 21) (.seq (.reg [⟨some 2, .mv (.k (.str ⟨#[]⟩)), none⟩,
    ⟨some 3, .mv (.k (.bool false)), none⟩] [2, 3] [])
  (.ret)) (.skip)))
  (.seq (.reg [⟨some 22, .mv (.t 0), none⟩,
    ⟨some 23, .mv (.t 4), none⟩,
    ⟨some 24, .sstr (.t 22) none (some (.t 23)), none⟩,
    ⟨some 2, .mv (.t 24), none⟩,
    ⟨some 3, .mv (.k (.bool true)), none⟩] [2, 3] [])
  (.ret))))
def impl_Unsealed.m : Fn := { np := 1, body := impl_Unsealed.b, res := [.tmp 2, .tmp 3] }
def impl_Unsealed.k (M : Nat → Option Body) : Prop := M 168 = some (.code impl_Unsealed.m) ∧ impl_within.k M ∧ impl_SumOf.k M ∧ impl_fourAt.k M
end Mx

/-
  Small codes: spec.RecordText, impl.RecordText, laws.FnExactRecordText.
-/
namespace Mx
open Go
def spec_RecordText.b : C := .seq (.reg [⟨some 2, .mv (.k (.str ⟨#[]⟩)), none⟩,
    ⟨some 3, .mv (.k (.bool false)), none⟩] [0] [])
  (.seq (.seq (.reg [⟨some 4, .mv (.t 0), none⟩,
    ⟨some 5, .slen (.t 4), none⟩,
    ⟨some 6, .call 98 [.t 5, .k (.int .i64 1), .k (.int .i64 6000)] [] [], none⟩,
    ⟨some 7, .not (.t 6), none⟩] [0, 7] [])
  (.cond (.t 7) (.seq (.reg [⟨some 2, .mv (.k (.str ⟨#[]⟩)), none⟩,
    ⟨some 3, .mv (.k (.bool false)), none⟩] [2, 3] [])
  (.ret)) (.skip)))
  (.seq (.reg [⟨some 8, .mv (.t 0), none⟩,
    ⟨some 9, .slen (.t 8), none⟩,
    ⟨some 10, .call 99 [.t 9] [] [], none⟩,
    ⟨some 11, .mv (.t 0), none⟩,
    ⟨some 12, .bin .add (.t 10) (.t 11), none⟩,
    ⟨some 13, .call 100 [.t 12] [] [], none⟩,
    ⟨some 14, .ext 0 (.t 13), none⟩,
    ⟨some 15, .ext 1 (.t 13), none⟩,
    ⟨some 2, .mv (.t 14), none⟩,
    ⟨some 3, .mv (.t 15), none⟩] [2, 3] [])
  (.ret)))
def spec_RecordText.m : Fn := { np := 1, body := spec_RecordText.b, res := [.tmp 2, .tmp 3] }
def spec_RecordText.k (M : Nat → Option Body) : Prop := M 10 = some (.code spec_RecordText.m) ∧ spec_l01In.k M ∧ spec_l01Var.k M ∧ spec_Sealed.k M
def impl_RecordText.b : C := .seq (.reg [⟨some 2, .mv (.k (.str ⟨#[]⟩)), none⟩,
    ⟨some 3, .mv (.k (.bool false)), none⟩] [0] [])
  (.seq (.seq (.reg [⟨some 4, .mv (.t 0), none⟩,
    ⟨some 5, .slen (.t 4), none⟩,
    ⟨some 6, .call 101 [.t 5, .k (.int .i64 1), .k (.int .i64 6000)] [] [], none⟩,
    ⟨some 7, .not (.t 6), none⟩] [0, 7] [])
  (.cond (.t 7) (.seq (.reg [⟨some 2, .mv (.k (.str ⟨#[]⟩)), none⟩,
    ⟨some 3, .mv (.k (.bool false)), none⟩] [2, 3] [])
  (.ret)) (.skip)))
  (.seq (.reg [⟨some 8, .mv (.t 0), none⟩,
    ⟨some 9, .call 102 [.t 8] [] [], none⟩,
    ⟨some 10, .call 103 [.t 9] [] [], none⟩,
    ⟨some 11, .ext 0 (.t 10), none⟩,
    ⟨some 12, .ext 1 (.t 10), none⟩,
    ⟨some 2, .mv (.t 11), none⟩,
    ⟨some 3, .mv (.t 12), none⟩] [2, 3] [])
  (.ret)))
def impl_RecordText.m : Fn := { np := 1, body := impl_RecordText.b, res := [.tmp 2, .tmp 3] }
def impl_RecordText.k (M : Nat → Option Body) : Prop := M 11 = some (.code impl_RecordText.m) ∧ impl_within.k M ∧ impl_short.k M ∧ impl_Sealed.k M
def laws_FnExactRecordText.b : C := .seq (.reg [⟨some 2, .mv (.k (.bool false)), none⟩] [0] [])
  (.seq (.seq (.reg [⟨some 7, .mv (.t 0), none⟩,
    ⟨some 8, .slen (.t 7), none⟩,
    ⟨some 9, .bin .gtr (.t 8) (.k (.int .i64 1048576)), none⟩] [0, 9] [])
  (.cond (.t 9) (.seq (.reg [⟨some 2, .mv (.k (.bool true)), none⟩] [2] [])
  (.ret)) (.skip)))
  (.seq (.reg [⟨some 11, .mv (.t 0), none⟩,
    ⟨some 12, .call 10 [.t 11] [] [], none⟩,
    ⟨some 10, .mv (.t 12), none⟩,
    ⟨some 13, .ext 0 (.t 10), none⟩,
    ⟨some 14, .ext 1 (.t 10), none⟩,
    ⟨some 3, .mv (.t 13), none⟩,
    ⟨some 4, .mv (.t 14), none⟩] [0, 3, 4] [])
  (.seq (.reg [⟨some 16, .mv (.t 0), none⟩,
    ⟨some 17, .call 11 [.t 16] [] [], none⟩,
    ⟨some 15, .mv (.t 17), none⟩,
    ⟨some 18, .ext 0 (.t 15), none⟩,
    ⟨some 19, .ext 1 (.t 15), none⟩,
    ⟨some 5, .mv (.t 18), none⟩,
    ⟨some 6, .mv (.t 19), none⟩] [3, 4, 5, 6] [])
  (.seq (.seq (.reg [⟨some 20, .mv (.t 5), none⟩,
    ⟨some 21, .mv (.t 3), none⟩,
    ⟨some 22, .bin .neq (.t 20) (.t 21), none⟩,
    ⟨some 23, .mv (.t 22), none⟩,
    ⟨some 24, .mv (.t 6), some (23, false)⟩,
    ⟨some 25, .mv (.t 4), some (23, false)⟩,
    ⟨some 26, .beq true (.t 24) (.t 25), some (23, false)⟩,
    ⟨some 27, .pick (.t 23) (.k (.bool true)) (.t 26), none⟩] [27] [])
  (.cond (.t 27) (.seq (.reg [⟨some 2, .mv (.k (.bool false)), none⟩] [2] [])
  (.ret)) (.skip)))
  (.seq (.reg [⟨some 2, .mv (.k (.bool true)), none⟩] [2] [])
  (.ret))))))
def laws_FnExactRecordText.m : Fn := { np := 1, body := laws_FnExactRecordText.b, res := [.tmp 2] }
def laws_FnExactRecordText.k (M : Nat → Option Body) : Prop := M 363 = some (.code laws_FnExactRecordText.m) ∧ spec_RecordText.k M ∧ impl_RecordText.k M
end Mx

/-
  Small codes: spec.l12Read, spec.ReadRecords, impl.recordAt, impl.ReadRecords, laws.eqStringS, laws.markText, laws.markStringS, laws.heldStringS, laws.FnExactReadRecords.
-/
namespace Mx
open Go
def spec_l12Read.b : C := .seq (.reg [⟨some 4, .mv (.k (.str ⟨#[]⟩)), none⟩,
    ⟨some 5, .mv (.k (.int .i64 0)), none⟩,
    ⟨some 6, .mv (.k (.bool false)), none⟩] [0, 1] [])
  (.seq (.reg [⟨some 13, .mv (.t 0), none⟩,
    ⟨some 14, .mv (.t 1), none⟩,
    ⟨some 15, .call 206 [.t 13, .t 14] [] [], none⟩,
    ⟨some 12, .mv (.t 15), none⟩,
    ⟨some 16, .ext 0 (.t 12), none⟩,
    ⟨some 17, .ext 1 (.t 12), none⟩,
    ⟨some 18, .ext 2 (.t 12), none⟩,
    ⟨some 7, .mv (.t 16), none⟩,
    ⟨some 8, .mv (.t 17), none⟩,
    ⟨some 9, .mv (.t 18), none⟩] [0, 1, 7, 8, 9] [])
  (.seq (.seq (.reg [⟨some 19, .mv (.t 9), none⟩,
    ⟨some 20, .not (.t 19), none⟩,
    ⟨some 21, .mv (.t 20), none⟩,
    ⟨some 22, .mv (.t 8), some (21, false)⟩,
    ⟨some 23, .mv (.t 0), some (21, false)⟩,
    ⟨some 24, .slen (.t 23), some (21, false)⟩,
    ⟨some 25, .bin .sub (.t 24) (.k (.int .i64 4)), some (21, false)⟩,
    ⟨some 26, .bin .gtr (.t 22) (.t 25), some (21, false)⟩,
    ⟨some 27, .pick (.t 21) (.k (.bool true)) (.t 26), none⟩] [0, 1, 7, 8, 27] [])
  (.cond (.t 27) (.seq (.reg [⟨some 4, .mv (.k (.str ⟨#[]⟩)), none⟩,
    ⟨some 5, .mv (.k (.int .i64 0)), none⟩,
    ⟨some 6, .mv (.k (.bool false)), none⟩] [4, 5, 6] [])
  (.ret)) (.skip)))
  (.seq (.reg [⟨some 29, .mv (.t 7), none⟩,
    ⟨some 30, .call 10 [.t 29] [] [], none⟩,
    ⟨some 28, .mv (.t 30), none⟩,
    ⟨some 31, .ext 0 (.t 28), none⟩,
    ⟨some 32, .ext 1 (.t 28), none⟩,
    ⟨some 10, .mv (.t 31), none⟩,
    ⟨some 11, .mv (.t 32), none⟩] [0, 1, 7, 8, 10, 11] [])
  (.seq (.seq (.reg [⟨some 33, .mv (.t 11), none⟩,
    ⟨some 34, .not (.t 33), none⟩,
    ⟨some 35, .mv (.t 34), none⟩,
    ⟨some 36, .mv (.t 10), some (35, false)⟩,
    ⟨some 37, .mv (.t 0), some (35, false)⟩,
    ⟨some 38, .mv (.t 1), some (35, false)⟩,
    ⟨some 39, .mv (.t 8), some (35, false)⟩,
    ⟨some 40, .bin .add (.t 39) (.k (.int .i64 4)), some (35, false)⟩,
    ⟨some 41, .sstr (.t 37) (some (.t 38)) (some (.t 40)), some (35, false)⟩,
    ⟨some 42, .bin .neq (.t 36) (.t 41), some (35, false)⟩,
    ⟨some 43, .pick (.t 35) (.k (.bool true)) (.t 42), none⟩] [7, 8, 43] [])
  (.cond (.t 43) (.seq (.reg [⟨some 4, .mv (.k (.str ⟨#[]⟩)), none⟩,
    ⟨some 5, .mv (.k (.int .i64 0)), none⟩,
    ⟨some 6, .mv (.k (.bool false)), none⟩] [4, 5, 6] [])
  (.ret)) (.skip)))
  (.seq (.reg [⟨some 44, .mv (.t 7), none⟩,
    ⟨some 45, .mv (.t 8), none⟩,
    ⟨some 46, .bin .add (.t 45) (.k (.int .i64 4)), none⟩,
    ⟨some 4, .mv (.t 44), none⟩,
    ⟨some 5, .mv (.t 46), none⟩,
    ⟨some 6, .mv (.k (.bool true)), none⟩] [4, 5, 6] [])
  (.ret))))))
def spec_l12Read.m : Fn := { np := 2, body := spec_l12Read.b, res := [.tmp 4, .tmp 5, .tmp 6] }
def spec_l12Read.k (M : Nat → Option Body) : Prop := M 104 = some (.code spec_l12Read.m) ∧ spec_RecordText.k M ∧ spec_ReadShort.k M
def spec_ReadRecords.l0 : C := .block 1 (.seq (.reg [⟨some 11, .mv (.t 0), none⟩,
    ⟨some 12, .mv (.t 5), none⟩,
    ⟨some 13, .call 104 [.t 11, .t 12] [] [], none⟩,
    ⟨some 10, .mv (.t 13), none⟩,
    ⟨some 14, .ext 0 (.t 10), none⟩,
    ⟨some 15, .ext 1 (.t 10), none⟩,
    ⟨some 16, .ext 2 (.t 10), none⟩,
    ⟨some 6, .mv (.t 14), none⟩,
    ⟨some 7, .mv (.t 15), none⟩,
    ⟨some 8, .mv (.t 16), none⟩] [0, 4, 5, 6, 7, 8] [9, 24])
  (.seq (.seq (.reg [⟨some 17, .mv (.t 8), none⟩,
    ⟨some 18, .not (.t 17), none⟩] [0, 4, 5, 6, 7, 18] [9, 24])
  (.cond (.t 18) (.seq (.reg [⟨some 19, .mv (.t 4), none⟩,
    ⟨some 20, .mv (.t 5), none⟩,
    ⟨some 2, .mv (.t 19), none⟩,
    ⟨some 3, .mv (.t 20), none⟩] [2, 3] [2, 9, 24])
  (.ret)) (.skip)))
  (.seq (.reg [⟨some 21, .mv (.t 4), none⟩,
    ⟨some 22, .mv (.t 6), none⟩,
    ⟨some 23, .bslice 1 1 [.str ⟨#[]⟩] [(0, .t 22)], none⟩,
    ⟨some 24, .app 1 16 (.t 21) (.t 23), none⟩,
    ⟨some 4, .mv (.t 24), none⟩] [0, 4, 7] [9, 24])
  (.reg [⟨some 25, .mv (.t 7), none⟩,
    ⟨some 5, .mv (.t 25), none⟩] [0, 4, 5] [9, 24]))))
def spec_ReadRecords.b : C := .seq (.reg [⟨some 2, .nil 1, none⟩,
    ⟨some 3, .mv (.k (.int .i64 0)), none⟩] [0] [])
  (.seq (.reg [⟨some 9, .bslice 1 0 [.str ⟨#[]⟩] [], none⟩,
    ⟨some 4, .mv (.t 9), none⟩] [0, 4] [9, 24])
  (.seq (.reg [⟨some 5, .mv (.k (.int .i64 0)), none⟩] [0, 4, 5] [9, 24])
  (.block 0 (.loop spec_ReadRecords.l0))))
def spec_ReadRecords.m : Fn := { np := 1, body := spec_ReadRecords.b, res := [.tmp 2, .tmp 3] }
def spec_ReadRecords.k (M : Nat → Option Body) : Prop := M 12 = some (.code spec_ReadRecords.m) ∧ spec_l12Read.k M
def impl_recordAt.b : C := .seq (.reg [⟨some 4, .mv (.k (.str ⟨#[]⟩)), none⟩,
    ⟨some 5, .mv (.k (.int .i64 0)), none⟩,
    ⟨some 6, .mv (.k (.bool false)), none⟩] [0, 1] [])
  (.seq (.reg [⟨some 13, .mv (.t 0), none⟩,
    ⟨some 14, .mv (.t 1), none⟩,
    ⟨some 15, .call 207 [.t 13, .t 14] [] [], none⟩,
    ⟨some 12, .mv (.t 15), none⟩,
    ⟨some 16, .ext 0 (.t 12), none⟩,
    ⟨some 17, .ext 1 (.t 12), none⟩,
    ⟨some 18, .ext 2 (.t 12), none⟩,
    ⟨some 7, .mv (.t 16), none⟩,
    ⟨some 8, .mv (.t 17), none⟩,
    ⟨some 9, .mv (.t 18), none⟩] [0, 1, 7, 8, 9] [])
  (.seq (.seq (.reg [⟨some 19, .mv (.t 9), none⟩,
    ⟨some 20, .not (.t 19), none⟩,
    ⟨some 21, .mv (.t 20), none⟩,
    ⟨some 22, .mv (.t 7), some (21, false)⟩,
    ⟨some 23, .slen (.t 22), some (21, false)⟩,
    ⟨some 24, .call 101 [.t 23, .k (.int .i64 1), .k (.int .i64 6000)] [] [], some (21, false)⟩,
    ⟨some 25, .not (.t 24), some (21, false)⟩,
    ⟨some 26, .pick (.t 21) (.k (.bool true)) (.t 25), none⟩,
    ⟨some 27, .mv (.t 26), none⟩,
    ⟨some 28, .mv (.t 0), some (27, false)⟩,
    ⟨some 29, .slen (.t 28), some (27, false)⟩,
    ⟨some 30, .mv (.t 8), some (27, false)⟩,
    ⟨some 31, .bin .sub (.t 29) (.t 30), some (27, false)⟩,
    ⟨some 32, .bin .lss (.t 31) (.k (.int .i64 4)), some (27, false)⟩,
    ⟨some 33, .pick (.t 27) (.k (.bool true)) (.t 32), none⟩] [0, 1, 7, 8, 33] [])
  (.cond (.t 33) (.seq (.reg [⟨some 4, .mv (.k (.str ⟨#[]⟩)), none⟩,
    ⟨some 5, .mv (.k (.int .i64 0)), none⟩,
    ⟨some 6, .mv (.k (.bool false)), none⟩] [4, 5, 6] [])
  (.ret)) (.skip)))
  (.seq (.seq (.reg [⟨some 35, .mv (.t 0), none⟩,
    ⟨some 36, .mv (.t 1), none⟩,
    ⟨some 37, .mv (.t 8), none⟩,
    ⟨some 38, .bin .add (.t 37) (.k (.int .i64 4)), none⟩,
    ⟨some 39, .sstr (.t 35) (some (.t 36)) (some (.t 38)), none⟩,
    ⟨some 40, .call 168 [.t 39] [] [], none⟩,
    ⟨some 34, .mv (.t 40), none⟩,
    ⟨some 41, .ext 0 (.t 34), none⟩,
    ⟨some 42, .ext 1 (.t 34), none⟩,
    ⟨some 10, .mv (.t 41), none⟩,
    ⟨some 11, .mv (.t 42), none⟩] [7, 8, 11] [])
  (.seq (.reg [⟨some 43, .mv (.t 11), none⟩,
    ⟨some 44, .not (.t 43), none⟩] [7, 8, 44] [])
  (.cond (.t 44) (.seq (.reg [⟨some 4, .mv (.k (.str ⟨#[]⟩)), none⟩,
    ⟨some 5, .mv (.k (.int .i64 0)), none⟩,
    ⟨some 6, .mv (.k (.bool false)), none⟩] [4, 5, 6] [])
  (.ret)) (.skip))))
  (.seq (.reg [⟨some 45, .mv (.t 7), none⟩,
    ⟨some 46, .mv (.t 8), none⟩,
    ⟨some 47, .bin .add (.t 46) (.k (.int .i64 4)), none⟩,
    ⟨some 4, .mv (.t 45), none⟩,
    ⟨some 5, .mv (.t 47), none⟩,
    ⟨some 6, .mv (.k (.bool true)), none⟩] [4, 5, 6] [])
  (.ret)))))
def impl_recordAt.m : Fn := { np := 2, body := impl_recordAt.b, res := [.tmp 4, .tmp 5, .tmp 6] }
def impl_recordAt.k (M : Nat → Option Body) : Prop := M 105 = some (.code impl_recordAt.m) ∧ impl_within.k M ∧ impl_Unsealed.k M ∧ impl_ReadShort.k M
def impl_ReadRecords.l0 : C := .block 1 (.seq (.reg [⟨some 11, .mv (.t 0), none⟩,
    ⟨some 12, .mv (.t 5), none⟩,
    ⟨some 13, .call 105 [.t 11, .t 12] [] [], none⟩,
    ⟨some 10, .mv (.t 13), none⟩,
    ⟨some 14, .ext 0 (.t 10), none⟩,
    ⟨some 15, .ext 1 (.t 10), none⟩,
    ⟨some 16, .ext 2 (.t 10), none⟩,
    ⟨some 6, .mv (.t 14), none⟩,
    ⟨some 7, .mv (.t 15), none⟩,
    ⟨some 8, .mv (.t 16), none⟩] [0, 4, 5, 6, 7, 8] [9, 24])
  (.seq (.seq (.reg [⟨some 17, .mv (.t 8), none⟩,
    ⟨some 18, .not (.t 17), none⟩] [0, 4, 5, 6, 7, 18] [9, 24])
  (.cond (.t 18) (.seq (.reg [⟨some 19, .mv (.t 4), none⟩,
    ⟨some 20, .mv (.t 5), none⟩,
    ⟨some 2, .mv (.t 19), none⟩,
    ⟨some 3, .mv (.t 20), none⟩] [2, 3] [2, 9, 24])
  (.ret)) (.skip)))
  (.seq (.reg [⟨some 21, .mv (.t 4), none⟩,
    ⟨some 22, .mv (.t 6), none⟩,
    ⟨some 23, .bslice 1 1 [.str ⟨#[]⟩] [(0, .t 22)], none⟩,
    ⟨some 24, .app 1 16 (.t 21) (.t 23), none⟩,
    ⟨some 4, .mv (.t 24), none⟩] [0, 4, 7] [9, 24])
  (.reg [⟨some 25, .mv (.t 7), none⟩,
    ⟨some 5, .mv (.t 25), none⟩] [0, 4, 5] [9, 24]))))
def impl_ReadRecords.b : C := .seq (.reg [⟨some 2, .nil 1, none⟩,
    ⟨some 3, .mv (.k (.int .i64 0)), none⟩] [0] [])
  (.seq (.reg [⟨some 9, .bslice 1 0 [.str ⟨#[]⟩] [], none⟩,
    ⟨some 4, .mv (.t 9), none⟩] [0, 4] [9, 24])
  (.seq (.reg [⟨some 5, .mv (.k (.int .i64 0)), none⟩] [0, 4, 5] [9, 24])
  (.block 0 (.loop impl_ReadRecords.l0))))
def impl_ReadRecords.m : Fn := { np := 1, body := impl_ReadRecords.b, res := [.tmp 2, .tmp 3] }
def impl_ReadRecords.k (M : Nat → Option Body) : Prop := M 13 = some (.code impl_ReadRecords.m) ∧ impl_recordAt.k M
def laws_eqStringS.l0 : C := .seq (.seq (.reg [⟨some 11, .mv (.t 5), none⟩,
    ⟨some 12, .mv (.t 0), none⟩,
    ⟨some 13, .len (.t 12), none⟩,
    ⟨some 14, .bin .lss (.t 11) (.t 13), none⟩] [0, 1, 5, 14] [])
  (.cond (.t 14) (.skip) (.exit 0)))
  (.seq (.block 1 (.seq (.regd [⟨some 17, .mv (.t 0), none⟩,
    ⟨some 18, .mv (.t 5), none⟩,
    ⟨some 19, .iaddr 1 (.t 17) (.t 18), none⟩,
    ⟨some 20, .load false 1 (.t 19), none⟩,
    ⟨some 21, .mv (.t 1), none⟩,
    ⟨some 22, .mv (.t 5), none⟩,
    ⟨some 23, .iaddr 1 (.t 21) (.t 22), none⟩,
    ⟨some 24, .load false 1 (.t 23), none⟩,
    ⟨some 25, .bin .neq (.t 20) (.t 24), none⟩] [[], [], [0, 1], [0, 1, 2], [], [], [4, 5], [4, 5, 6], [0, 1, 2, 3, 4, 5, 6, 7]] [0, 1, 5, 25] [])
  (.cond (.t 25) (.seq (.reg [⟨some 4, .mv (.k (.bool false)), none⟩] [4] [])
  (.ret)) (.skip))))
  (.reg [⟨some 15, .mv (.t 5), none⟩,
    ⟨some 16, .bin .add (.t 15) (.k (.int .i64 1)), none⟩,
    ⟨some 5, .mv (.t 16), none⟩] [0, 1, 5] []))
def laws_eqStringS.b : C := .seq (.reg [⟨some 4, .mv (.k (.bool false)), none⟩] [0, 1] [])
  (.seq (.seq (.reg [⟨some 6, .mv (.t 0), none⟩,
    ⟨some 7, .len (.t 6), none⟩,
    ⟨some 8, .mv (.t 1), none⟩,
    ⟨some 9, .len (.t 8), none⟩,
    ⟨some 10, .bin .neq (.t 7) (.t 9), none⟩] [0, 1, 10] [])
  (.cond (.t 10) (.seq (.reg [⟨some 4, .mv (.k (.bool false)), none⟩] [4] [])
  (.ret)) (.skip)))
  (.seq (.seq (.reg [⟨some 5, .mv (.k (.int .i64 0)), none⟩] [0, 1, 5] [])
  (.block 0 (.loop laws_eqStringS.l0)))
  (.seq (.reg [⟨some 4, .mv (.k (.bool true)), none⟩] [4] [])
  (.ret))))
def laws_eqStringS.m : Fn := { np := 2, body := laws_eqStringS.b, res := [.tmp 4] }
def laws_eqStringS.k (M : Nat → Option Body) : Prop := M 14 = some (.code laws_eqStringS.m)
def laws_markText.l0 : C := .seq (.seq (.reg [⟨some 6, .mv (.t 0), none⟩,
    ⟨some 7, .bin .gtr (.t 6) (.k (.int .i64 0)), none⟩] [0, 3, 7] [])
  (.cond (.t 7) (.skip) (.exit 0)))
  (.block 1 (.seq (.reg [⟨some 8, .mv (.t 0), none⟩,
    ⟨some 9, .bin .rem (.t 8) (.k (.int .i64 10)), none⟩,
    ⟨some 10, .bin .add (.k (.int .i64 48)) (.t 9), none⟩,
    ⟨some 11, .i2i .u8 (.t 10), none⟩,
    ⟨some 12, .bslice 1 1 [.int .u8 0] [(0, .t 11)], none⟩,
    ⟨some 13, .b2s (.t 12), none⟩,
    ⟨some 14, .mv (.t 3), none⟩,
    ⟨some 15, .bin .add (.t 13) (.t 14), none⟩,
    ⟨some 3, .mv (.t 15), none⟩] [0, 3] [])
  (.reg [⟨some 16, .mv (.t 0), none⟩,
    ⟨some 17, .bin .quo (.t 16) (.k (.int .i64 10)), none⟩,
    ⟨some 0, .mv (.t 17), none⟩] [0, 3] [])))
def laws_markText.b : C := .seq (.reg [⟨some 2, .mv (.k (.str ⟨#[]⟩)), none⟩] [0] [])
  (.seq (.seq (.reg [⟨some 4, .mv (.t 0), none⟩,
    ⟨some 5, .bin .leq (.t 4) (.k (.int .i64 0)), none⟩] [0, 5] [])
  (.cond (.t 5) (.seq (.reg [⟨some 2, .mv (.k (.str ⟨#[109, 48]⟩)), none⟩] [2] [])
  (.ret)) (.skip)))
  (.seq (.reg [⟨some 3, .mv (.k (.str ⟨#[]⟩)), none⟩] [0, 3] [])
  (.seq (.block 0 (.loop laws_markText.l0))
  (.seq (.reg [⟨some 18, .mv (.t 3), none⟩,
    ⟨some 19, .bin .add (.k (.str ⟨#[109]⟩)) (.t 18), none⟩,
    ⟨some 2, .mv (.t 19), none⟩] [2] [])
  (.ret)))))
def laws_markText.m : Fn := { np := 1, body := laws_markText.b, res := [.tmp 2] }
def laws_markText.k (M : Nat → Option Body) : Prop := M 106 = some (.code laws_markText.m)
def laws_markStringS.l0 : C := .seq (.seq (.reg [⟨some 6, .mv (.t 5), none⟩,
    ⟨some 7, .mv (.t 0), none⟩,
    ⟨some 8, .len (.t 7), none⟩,
    ⟨some 9, .bin .lss (.t 6) (.t 8), none⟩] [0, 1, 5, 9] [0])
  (.cond (.t 9) (.skip) (.exit 0)))
  (.seq (.block 1 (.seq (.reg [⟨some 12, .mv (.t 0), none⟩,
    ⟨some 13, .mv (.t 5), none⟩,
    ⟨some 14, .mv (.t 1), none⟩,
    ⟨some 15, .call 106 [.t 14] [] [], none⟩,
    ⟨some 16, .iaddr 1 (.t 12) (.t 13), none⟩,
    ⟨none, .store 1 (.t 16) (.t 15), none⟩] [0, 1, 5] [0])
  (.reg [⟨some 17, .mv (.t 1), none⟩,
    ⟨some 18, .bin .add (.t 17) (.k (.int .i64 1)), none⟩,
    ⟨some 1, .mv (.t 18), none⟩] [0, 1, 5] [0])))
  (.reg [⟨some 10, .mv (.t 5), none⟩,
    ⟨some 11, .bin .add (.t 10) (.k (.int .i64 1)), none⟩,
    ⟨some 5, .mv (.t 11), none⟩] [0, 1, 5] [0]))
def laws_markStringS.b : C := .seq (.reg [⟨some 4, .mv (.k (.int .i64 0)), none⟩] [0, 1] [0])
  (.seq (.seq (.reg [⟨some 5, .mv (.k (.int .i64 0)), none⟩] [0, 1, 5] [0])
  (.block 0 (.loop laws_markStringS.l0)))
  (.seq (.reg [⟨some 19, .mv (.t 1), none⟩,
    ⟨some 4, .mv (.t 19), none⟩] [4] [0])
  (.ret)))
def laws_markStringS.m : Fn := { np := 2, body := laws_markStringS.b, res := [.tmp 4] }
def laws_markStringS.k (M : Nat → Option Body) : Prop := M 15 = some (.code laws_markStringS.m) ∧ laws_markText.k M
def laws_heldStringS.l0 : C := .seq (.seq (.reg [⟨some 6, .mv (.t 5), none⟩,
    ⟨some 7, .mv (.t 0), none⟩,
    ⟨some 8, .len (.t 7), none⟩,
    ⟨some 9, .bin .lss (.t 6) (.t 8), none⟩] [0, 1, 5, 9] [])
  (.cond (.t 9) (.skip) (.exit 0)))
  (.seq (.block 1 (.seq (.seq (.regd [⟨some 12, .mv (.t 0), none⟩,
    ⟨some 13, .mv (.t 5), none⟩,
    ⟨some 14, .iaddr 1 (.t 12) (.t 13), none⟩,
    ⟨some 15, .load false 1 (.t 14), none⟩,
    ⟨some 16, .mv (.t 1), none⟩,
    ⟨some 17, .call 106 [.t 16] [] [], none⟩,
    ⟨some 18, .bin .neq (.t 15) (.t 17), none⟩] [[], [], [0, 1], [0, 1, 2], [], [4], [0, 1, 2, 3, 4, 5]] [0, 1, 5, 18] [])
  (.cond (.t 18) (.seq (.reg [⟨some 4, .mv (.k (.int .i64 (-1))), none⟩] [4] [])
  (.ret)) (.skip)))
  (.reg [⟨some 19, .mv (.t 1), none⟩,
    ⟨some 20, .bin .add (.t 19) (.k (.int .i64 1)), none⟩,
    ⟨some 1, .mv (.t 20), none⟩] [0, 1, 5] [])))
  (.reg [⟨some 10, .mv (.t 5), none⟩,
    ⟨some 11, .bin .add (.t 10) (.k (.int .i64 1)), none⟩,
    ⟨some 5, .mv (.t 11), none⟩] [0, 1, 5] []))
def laws_heldStringS.b : C := .seq (.reg [⟨some 4, .mv (.k (.int .i64 0)), none⟩] [0, 1] [])
  (.seq (.seq (.reg [⟨some 5, .mv (.k (.int .i64 0)), none⟩] [0, 1, 5] [])
  (.block 0 (.loop laws_heldStringS.l0)))
  (.seq (.reg [⟨some 21, .mv (.t 1), none⟩,
    ⟨some 4, .mv (.t 21), none⟩] [4] [])
  (.ret)))
def laws_heldStringS.m : Fn := { np := 2, body := laws_heldStringS.b, res := [.tmp 4] }
def laws_heldStringS.k (M : Nat → Option Body) : Prop := M 16 = some (.code laws_heldStringS.m) ∧ laws_markText.k M
def laws_FnExactReadRecords.b : C := .seq (.reg [⟨some 2, .mv (.k (.bool false)), none⟩] [0] [])
  (.seq (.seq (.reg [⟨some 11, .mv (.t 0), none⟩,
    ⟨some 12, .slen (.t 11), none⟩,
    ⟨some 13, .bin .gtr (.t 12) (.k (.int .i64 1048576)), none⟩] [0, 13] [])
  (.cond (.t 13) (.seq (.reg [⟨some 2, .mv (.k (.bool true)), none⟩] [2] [])
  (.ret)) (.skip)))
  (.seq (.reg [⟨some 15, .mv (.t 0), none⟩,
    ⟨some 16, .call 12 [.t 15] [] [], none⟩,
    ⟨some 14, .mv (.t 16), none⟩,
    ⟨some 17, .ext 0 (.t 14), none⟩,
    ⟨some 18, .ext 1 (.t 14), none⟩,
    ⟨some 3, .mv (.t 17), none⟩,
    ⟨some 4, .mv (.t 18), none⟩] [0, 3, 4] [])
  (.seq (.reg [⟨some 20, .mv (.t 0), none⟩,
    ⟨some 21, .call 13 [.t 20] [] [(0, 12100)], none⟩,
    ⟨some 19, .mv (.t 21), none⟩,
    ⟨some 22, .ext 0 (.t 19), none⟩,
    ⟨some 23, .ext 1 (.t 19), none⟩,
    ⟨some 5, .mv (.t 22), none⟩,
    ⟨some 6, .mv (.t 23), none⟩] [0, 3, 4, 5, 6] [12100])
  (.seq (.seq (.reg [⟨some 24, .mv (.t 5), none⟩,
    ⟨some 25, .mv (.t 3), none⟩,
    ⟨some 26, .call 14 [.t 24, .t 25] [] [], none⟩,
    ⟨some 27, .not (.t 26), none⟩,
    ⟨some 28, .mv (.t 27), none⟩,
    ⟨some 29, .mv (.t 6), some (28, false)⟩,
    ⟨some 30, .mv (.t 4), some (28, false)⟩,
    ⟨some 31, .bin .neq (.t 29) (.t 30), some (28, false)⟩,
    ⟨some 32, .pick (.t 28) (.k (.bool true)) (.t 31), none⟩] [0, 3, 4, 5, 32] [12100])
  (.cond (.t 32) (.seq (.reg [⟨some 2, .mv (.k (.bool false)), none⟩] [2] [])
  (.ret)) (.skip)))
  (.seq (.reg [⟨some 7, .mv (.k (.int .i64 1)), none⟩] [0, 3, 4, 5, 7] [12100])
  (.seq (.reg [⟨some 33, .mv (.t 5), none⟩,
    ⟨some 34, .mv (.t 7), none⟩,
    ⟨some 35, .call 15 [.t 33, .t 34] [0] [], none⟩,
    ⟨some 7, .mv (.t 35), none⟩] [0, 3, 4, 5, 7] [12100])
  (.seq (.reg [⟨some 8, .mv (.k (.int .i64 1)), none⟩] [0, 3, 4, 5, 7, 8] [12100])
  (.seq (.reg [⟨some 36, .mv (.t 5), none⟩,
    ⟨some 37, .mv (.t 8), none⟩,
    ⟨some 38, .call 16 [.t 36, .t 37] [] [], none⟩,
    ⟨some 8, .mv (.t 38), none⟩] [0, 3, 4, 5, 7, 8] [12100])
  (.seq (.seq (.reg [⟨some 39, .mv (.t 8), none⟩,
    ⟨some 40, .bin .lss (.t 39) (.k (.int .i64 0)), none⟩] [0, 3, 4, 5, 7, 8, 40] [12100])
  (.cond (.t 40) (.seq (.reg [⟨some 2, .mv (.k (.bool false)), none⟩] [2] [])
  (.ret)) (.skip)))
  (.seq (.seq (.reg [⟨some 41, .mv (.t 8), none⟩,
    ⟨some 42, .mv (.t 7), none⟩,
    ⟨some 43, .bin .neq (.t 41) (.t 42), none⟩] [0, 3, 4, 5, 7, 43] [12100])
  (.cond (.t 43) (.seq (.reg [⟨some 2, .mv (.k (.bool false)), none⟩] [2] [])
  (.ret)) (.skip)))
  (.seq (.reg [⟨some 45, .mv (.t 0), none⟩,
    ⟨some 46, .call 13 [.t 45] [] [], none⟩,
    ⟨some 44, .mv (.t 46), none⟩,
    ⟨some 47, .ext 0 (.t 44), none⟩,
    ⟨some 48, .ext 1 (.t 44), none⟩,
    ⟨some 9, .mv (.t 47), none⟩,
    ⟨some 10, .mv (.t 48), none⟩] [3, 4, 5, 7, 9, 10] [12100])
  (.seq (.seq (.reg [⟨some 49, .mv (.t 9), none⟩,
    ⟨some 50, .mv (.t 3), none⟩,
    ⟨some 51, .call 14 [.t 49, .t 50] [] [], none⟩,
    ⟨some 52, .not (.t 51), none⟩,
    ⟨some 53, .mv (.t 52), none⟩,
    ⟨some 54, .mv (.t 10), some (53, false)⟩,
    ⟨some 55, .mv (.t 4), some (53, false)⟩,
    ⟨some 56, .bin .neq (.t 54) (.t 55), some (53, false)⟩,
    ⟨some 57, .pick (.t 53) (.k (.bool true)) (.t 56), none⟩] [5, 7, 57] [12100])
  (.cond (.t 57) (.seq (.reg [⟨some 2, .mv (.k (.bool false)), none⟩] [2] [])
  (.ret)) (.skip)))
  (.seq (.reg [⟨some 8, .mv (.k (.int .i64 1)), none⟩] [5, 7, 8] [12100])
  (.seq (.reg [⟨some 58, .mv (.t 5), none⟩,
    ⟨some 59, .mv (.t 8), none⟩,
    ⟨some 60, .call 16 [.t 58, .t 59] [] [], none⟩,
    ⟨some 8, .mv (.t 60), none⟩] [7, 8] [])
  (.seq (.seq (.reg [⟨some 61, .mv (.t 8), none⟩,
    ⟨some 62, .bin .lss (.t 61) (.k (.int .i64 0)), none⟩] [7, 8, 62] [])
  (.cond (.t 62) (.seq (.reg [⟨some 2, .mv (.k (.bool false)), none⟩] [2] [])
  (.ret)) (.skip)))
  (.seq (.seq (.reg [⟨some 63, .mv (.t 8), none⟩,
    ⟨some 64, .mv (.t 7), none⟩,
    ⟨some 65, .bin .neq (.t 63) (.t 64), none⟩] [65] [])
  (.cond (.t 65) (.seq (.reg [⟨some 2, .mv (.k (.bool false)), none⟩] [2] [])
  (.ret)) (.skip)))
  (.seq (.reg [⟨some 2, .mv (.k (.bool true)), none⟩] [2] [])
  (.ret))))))))))))))))))
def laws_FnExactReadRecords.m : Fn := { np := 1, body := laws_FnExactReadRecords.b, res := [.tmp 2] }
def laws_FnExactReadRecords.k (M : Nat → Option Body) : Prop := M 364 = some (.code laws_FnExactReadRecords.m) ∧ spec_ReadRecords.k M ∧ impl_ReadRecords.k M ∧ laws_eqStringS.k M ∧ laws_markStringS.k M ∧ laws_heldStringS.k M
end Mx

/-
  Small codes: (*impl.scan).num, (*impl.scan).many, (*impl.scan).short, (*impl.scan).stamp, (*impl.scan).nums, (*impl.scan).mail, (*impl.scan).box, spec.l05Var, spec.l05Short, spec.l10Ints, spec.ReadMail, spec.ReadBox.
-/
namespace Mx
open Go
def impl_scan_num.b : C := .seq (.reg [⟨some 2, .mv (.k (.int .i64 0)), none⟩] [0] [0])
  (.seq (.regd [⟨some 7, .mv (.t 0), none⟩,
    ⟨some 8, .nilc (.t 7), none⟩,
    ⟨some 9, .faddr 0 (.t 8), none⟩,
    ⟨some 10, .load false 1 (.t 9), none⟩,
    ⟨some 11, .mv (.t 0), none⟩,
    ⟨some 12, .nilc (.t 11), none⟩,
    ⟨some 13, .faddr 1 (.t 12), none⟩,
    ⟨some 14, .load false 1 (.t 13), none⟩,
    ⟨some 15, .call 231 [.t 10, .t 14] [] [], none⟩,
    ⟨some 6, .mv (.t 15), none⟩,
    ⟨some 16, .ext 0 (.t 6), none⟩,
    ⟨some 17, .ext 1 (.t 6), none⟩,
    ⟨some 18, .ext 2 (.t 6), none⟩,
    ⟨some 3, .mv (.t 16), none⟩,
    ⟨some 4, .mv (.t 17), none⟩,
    ⟨some 5, .mv (.t 18), none⟩] [[], [0], [0, 1], [0, 1, 2], [], [4], [4, 5], [4, 5, 6], List.range 8, List.range 9, List.range 10, List.range 10, List.range 10, List.range 11, List.range 12 ++ [13], List.range 15] [0, 3, 4, 5] [0])
  (.seq (.seq (.reg [⟨some 19, .mv (.t 0), none⟩,
    ⟨some 20, .nilc (.t 19), none⟩,
    ⟨some 21, .faddr 2 (.t 20), none⟩,
    ⟨some 22, .load false 1 (.t 21), none⟩,
    ⟨some 23, .mv (.t 22), none⟩,
    ⟨some 24, .mv (.t 5), some (23, false)⟩,
    ⟨some 25, .not (.t 24), some (23, false)⟩,
    ⟨some 26, .pick (.t 23) (.k (.bool true)) (.t 25), none⟩] [0, 3, 4, 26] [0])
  (.cond (.t 26) (.seq (.reg [⟨some 27, .mv (.t 0), none⟩,
    ⟨some 28, .nilc (.t 27), none⟩,
    ⟨some 29, .faddr 2 (.t 28), none⟩,
    ⟨none, .store 1 (.t 29) (.k (.bool true)), none⟩] [] [0])
  (.seq (.reg [⟨some 2, .mv (.k (.int .i64 0)), none⟩] [2] [0])
  (.ret))) (.skip)))
  (.seq (.reg [⟨some 30, .mv (.t 0), none⟩,
    ⟨some 31, .mv (.t 4), none⟩,
    ⟨some 32, .nilc (.t 30), none⟩,
    ⟨some 33, .faddr 1 (.t 32), none⟩,
    ⟨none, .store 1 (.t 33) (.t 31), none⟩] [3] [0])
  (.seq (.reg [⟨some 34, .mv (.t 3), none⟩,
    ⟨some 2, .mv (.t 34), none⟩] [2] [0])
  (.ret)))))
def impl_scan_num.m : Fn := { np := 1, body := impl_scan_num.b, res := [.tmp 2] }
def impl_scan_num.k (M : Nat → Option Body) : Prop := M 152 = some (.code impl_scan_num.m) ∧ impl_ReadVar.k M
def impl_scan_many.b : C := .seq (.reg [⟨some 4, .mv (.k (.int .i64 0)), none⟩] [0, 1] [0])
  (.seq (.reg [⟨some 6, .mv (.t 0), none⟩,
    ⟨some 7, .call 152 [.t 6] [0] [], none⟩,
    ⟨some 5, .mv (.t 7), none⟩] [0, 1, 5] [0])
  (.seq (.seq (.reg [⟨some 8, .mv (.t 5), none⟩,
    ⟨some 9, .mv (.t 1), none⟩,
    ⟨some 10, .bin .gtr (.t 8) (.t 9), none⟩] [0, 5, 10] [0])
  (.cond (.t 10) (.reg [⟨some 11, .mv (.t 0), none⟩,
    ⟨some 12, .nilc (.t 11), none⟩,
    ⟨some 13, .faddr 2 (.t 12), none⟩,
    ⟨none, .store 1 (.t 13) (.k (.bool true)), none⟩] [0, 5] [0]) (.skip)))
  (.seq (.seq (.reg [⟨some 14, .mv (.t 0), none⟩,
    ⟨some 15, .nilc (.t 14), none⟩,
    ⟨some 16, .faddr 2 (.t 15), none⟩,
    ⟨some 17, .load false 1 (.t 16), none⟩] [5, 17] [0])
  (.cond (.t 17) (.seq (.reg [⟨some 4, .mv (.k (.int .i64 0)), none⟩] [4] [0])
  (.ret)) (.skip)))
  (.seq (.reg [⟨some 18, .mv (.t 5), none⟩,
    ⟨some 4, .mv (.t 18), none⟩] [4] [0])
  (.ret)))))
def impl_scan_many.m : Fn := { np := 2, body := impl_scan_many.b, res := [.tmp 4] }
def impl_scan_many.k (M : Nat → Option Body) : Prop := M 169 = some (.code impl_scan_many.m) ∧ impl_scan_num.k M
def impl_scan_short.b : C := .seq (.reg [⟨some 2, .mv (.k (.str ⟨#[]⟩)), none⟩] [0] [0])
  (.seq (.regd [⟨some 7, .mv (.t 0), none⟩,
    ⟨some 8, .nilc (.t 7), none⟩,
    ⟨some 9, .faddr 0 (.t 8), none⟩,
    ⟨some 10, .load false 1 (.t 9), none⟩,
    ⟨some 11, .mv (.t 0), none⟩,
    ⟨some 12, .nilc (.t 11), none⟩,
    ⟨some 13, .faddr 1 (.t 12), none⟩,
    ⟨some 14, .load false 1 (.t 13), none⟩,
    ⟨some 15, .call 207 [.t 10, .t 14] [] [], none⟩,
    ⟨some 6, .mv (.t 15), none⟩,
    ⟨some 16, .ext 0 (.t 6), none⟩,
    ⟨some 17, .ext 1 (.t 6), none⟩,
    ⟨some 18, .ext 2 (.t 6), none⟩,
    ⟨some 3, .mv (.t 16), none⟩,
    ⟨some 4, .mv (.t 17), none⟩,
    ⟨some 5, .mv (.t 18), none⟩] [[], [0], [0, 1], [0, 1, 2], [], [4], [4, 5], [4, 5, 6], List.range 8, List.range 9, List.range 10, List.range 10, List.range 10, List.range 11, List.range 12 ++ [13], List.range 15] [0, 3, 4, 5] [0])
  (.seq (.seq (.reg [⟨some 19, .mv (.t 0), none⟩,
    ⟨some 20, .nilc (.t 19), none⟩,
    ⟨some 21, .faddr 2 (.t 20), none⟩,
    ⟨some 22, .load false 1 (.t 21), none⟩,
    ⟨some 23, .mv (.t 22), none⟩,
    ⟨some 24, .mv (.t 5), some (23, false)⟩,
    ⟨some 25, .not (.t 24), some (23, false)⟩,
    ⟨some 26, .pick (.t 23) (.k (.bool true)) (.t 25), none⟩] [0, 3, 4, 26] [0])
  (.cond (.t 26) (.seq (.reg [⟨some 27, .mv (.t 0), none⟩,
    ⟨some 28, .nilc (.t 27), none⟩,
    ⟨some 29, .faddr 2 (.t 28), none⟩,
    ⟨none, .store 1 (.t 29) (.k (.bool true)), none⟩] [] [0])
  (.seq (.reg [⟨some 2, .mv (.k (.str ⟨#[]⟩)), none⟩] [2] [0])
  (.ret))) (.skip)))
  (.seq (.reg [⟨some 30, .mv (.t 0), none⟩,
    ⟨some 31, .mv (.t 4), none⟩,
    ⟨some 32, .nilc (.t 30), none⟩,
    ⟨some 33, .faddr 1 (.t 32), none⟩,
    ⟨none, .store 1 (.t 33) (.t 31), none⟩] [3] [0])
  (.seq (.reg [⟨some 34, .mv (.t 3), none⟩,
    ⟨some 2, .mv (.t 34), none⟩] [2] [0])
  (.ret)))))
def impl_scan_short.m : Fn := { np := 1, body := impl_scan_short.b, res := [.tmp 2] }
def impl_scan_short.k (M : Nat → Option Body) : Prop := M 153 = some (.code impl_scan_short.m) ∧ impl_ReadShort.k M
def impl_scan_stamp.b : C := .seq (.reg [⟨some 2, .alloc [.int .i64 0, .int .i64 0], none⟩] [0, 2] [0, 2])
  (.seq (.reg [⟨some 4, .mv (.t 0), none⟩,
    ⟨some 5, .call 152 [.t 4] [0] [], none⟩,
    ⟨some 6, .build [.int .i64 0, .int .i64 0] [(0, 1, .t 5)], none⟩,
    ⟨some 3, .alloc [.int .i64 0, .int .i64 0], none⟩,
    ⟨none, .store 2 (.t 3) (.t 6), none⟩] [0, 2, 3] [0, 2, 3])
  (.seq (.reg [⟨some 7, .mv (.t 0), none⟩,
    ⟨some 8, .call 152 [.t 7] [0] [], none⟩,
    ⟨some 9, .faddr 1 (.t 3), none⟩,
    ⟨none, .store 1 (.t 9) (.t 8), none⟩] [2, 3] [0, 2, 3])
  (.seq (.reg [⟨some 10, .load true 2 (.t 3), none⟩,
    ⟨none, .store 2 (.t 2) (.t 10), none⟩] [2] [0, 2])
  (.ret))))
def impl_scan_stamp.m : Fn := { np := 1, body := impl_scan_stamp.b, res := [.cell 2 true 2] }
def impl_scan_stamp.k (M : Nat → Option Body) : Prop := M 222 = some (.code impl_scan_stamp.m) ∧ impl_scan_num.k M
def impl_scan_nums.l0 : C := .seq (.reg [⟨some 14, .bin .lss (.t 13) (.t 12), none⟩] [0, 5, 12, 13, 14] [0, 8, 20])
  (.seq (.cond (.t 14) (.skip) (.exit 0))
  (.seq (.block 1 (.seq (.reg [⟨some 15, .mv (.t 0), none⟩,
    ⟨some 16, .call 152 [.t 15] [0] [], none⟩,
    ⟨some 7, .mv (.t 16), none⟩] [0, 5, 7, 12, 13] [0, 8, 20])
  (.reg [⟨some 17, .mv (.t 5), none⟩,
    ⟨some 18, .mv (.t 7), none⟩,
    ⟨some 19, .bslice 1 1 [.int .i64 0] [(0, .t 18)], none⟩,
    ⟨some 20, .app 1 8 (.t 17) (.t 19), none⟩,
    ⟨some 5, .mv (.t 20), none⟩] [0, 5, 12, 13] [0, 8, 20])))
  (.reg [⟨some 21, .bin .add (.t 13) (.k (.int .i64 1)), none⟩,
    ⟨some 13, .mv (.t 21), none⟩] [0, 5, 12, 13] [0, 8, 20])))
def impl_scan_nums.b : C := .seq (.reg [⟨some 4, .nil 1, none⟩] [0, 1] [0])
  (.seq (.reg [⟨some 8, .bslice 1 0 [.int .i64 0] [], none⟩,
    ⟨some 5, .mv (.t 8), none⟩] [0, 1, 5] [0, 8, 20])
  (.seq (.reg [⟨some 9, .mv (.t 0), none⟩,
    ⟨some 10, .mv (.t 1), none⟩,
    ⟨some 11, .call 169 [.t 9, .t 10] [0] [], none⟩,
    ⟨some 6, .mv (.t 11), none⟩] [0, 5, 6] [0, 8, 20])
  (.seq (.seq (.reg [⟨some 12, .mv (.t 6), none⟩,
    ⟨some 13, .mv (.k (.int .i64 0)), none⟩] [0, 5, 12, 13] [0, 8, 20])
  (.block 0 (.loop impl_scan_nums.l0)))
  (.seq (.reg [⟨some 22, .mv (.t 5), none⟩,
    ⟨some 4, .mv (.t 22), none⟩] [4] [0, 4, 8, 20])
  (.ret)))))
def impl_scan_nums.m : Fn := { np := 2, body := impl_scan_nums.b, res := [.tmp 4] }
def impl_scan_nums.k (M : Nat → Option Body) : Prop := M 170 = some (.code impl_scan_nums.m) ∧ impl_scan_num.k M ∧ impl_scan_many.k M
def impl_scan_mail.l0 : C := .seq (.reg [⟨some 12, .bin .lss (.t 11) (.k (.int .i64 3)), none⟩] [0, 2, 3, 11, 12] [0, 2, 3, 23])
  (.seq (.cond (.t 12) (.skip) (.exit 0))
  (.seq (.block 1 (.seq (.reg [⟨some 13, .mv (.t 0), none⟩,
    ⟨some 14, .call 152 [.t 13] [0] [], none⟩,
    ⟨some 15, .build [.int .i64 0, .int .i64 0, .int .i64 0] [(0, 1, .t 14)], none⟩,
    ⟨some 4, .alloc [.int .i64 0, .int .i64 0, .int .i64 0], none⟩,
    ⟨none, .store 3 (.t 4) (.t 15), none⟩] [0, 2, 3, 4, 11] [0, 2, 3, 4, 23])
  (.seq (.reg [⟨some 16, .mv (.t 0), none⟩,
    ⟨some 17, .call 222 [.t 16] [0] [], none⟩,
    ⟨some 18, .faddr 1 (.t 4), none⟩,
    ⟨none, .store 2 (.t 18) (.t 17), none⟩] [0, 2, 3, 4, 11] [0, 2, 3, 4, 23])
  (.reg [⟨some 19, .faddr 2 (.t 3), none⟩,
    ⟨some 20, .load false 1 (.t 19), none⟩,
    ⟨some 21, .load true 3 (.t 4), none⟩,
    ⟨some 22, .bslice 3 1 [.int .i64 0, .int .i64 0, .int .i64 0] [(0, .t 21)], none⟩,
    ⟨some 23, .app 3 24 (.t 20) (.t 22), none⟩,
    ⟨some 24, .faddr 2 (.t 3), none⟩,
    ⟨none, .store 1 (.t 24) (.t 23), none⟩] [0, 2, 3, 11] [0, 2, 3, 23]))))
  (.reg [⟨some 25, .bin .add (.t 11) (.k (.int .i64 1)), none⟩,
    ⟨some 11, .mv (.t 25), none⟩] [0, 2, 3, 11] [0, 2, 3, 23])))
def impl_scan_mail.b : C := .seq (.reg [⟨some 2, .alloc [.int .i64 0, .int .i64 0, .nils 3, .str ⟨#[]⟩], none⟩] [0, 2] [0, 2, 23])
  (.seq (.reg [⟨some 5, .mv (.t 0), none⟩,
    ⟨some 6, .call 152 [.t 5] [0] [], none⟩,
    ⟨some 7, .build [.int .i64 0, .int .i64 0, .nils 3, .str ⟨#[]⟩] [(0, 1, .t 6)], none⟩,
    ⟨some 3, .alloc [.int .i64 0, .int .i64 0, .nils 3, .str ⟨#[]⟩], none⟩,
    ⟨none, .store 4 (.t 3) (.t 7), none⟩] [0, 2, 3] [0, 2, 3, 23])
  (.seq (.reg [⟨some 8, .mv (.t 0), none⟩,
    ⟨some 9, .call 152 [.t 8] [0] [], none⟩,
    ⟨some 10, .faddr 1 (.t 3), none⟩,
    ⟨none, .store 1 (.t 10) (.t 9), none⟩] [0, 2, 3] [0, 2, 3, 23])
  (.seq (.seq (.reg [⟨some 11, .mv (.k (.int .i64 0)), none⟩] [0, 2, 3, 11] [0, 2, 3, 23])
  (.block 0 (.loop impl_scan_mail.l0)))
  (.seq (.reg [⟨some 26, .mv (.t 0), none⟩,
    ⟨some 27, .call 153 [.t 26] [0] [], none⟩,
    ⟨some 28, .faddr 3 (.t 3), none⟩,
    ⟨none, .store 1 (.t 28) (.t 27), none⟩] [2, 3] [0, 2, 3, 23])
  (.seq (.reg [⟨some 29, .load true 4 (.t 3), none⟩,
    ⟨none, .store 4 (.t 2) (.t 29), none⟩] [2] [0, 2, 23])
  (.ret))))))
def impl_scan_mail.m : Fn := { np := 1, body := impl_scan_mail.b, res := [.cell 2 true 4] }
def impl_scan_mail.k (M : Nat → Option Body) : Prop := M 223 = some (.code impl_scan_mail.m) ∧ impl_scan_num.k M ∧ impl_scan_short.k M ∧ impl_scan_stamp.k M
def impl_scan_box.l0 : C := .seq (.reg [⟨some 22, .bin .lss (.t 21) (.t 20), none⟩] [0, 2, 3, 20, 21, 22] [0, 2, 3, 29, 13300])
  (.seq (.cond (.t 22) (.skip) (.exit 0))
  (.seq (.block 1 (.seq (.reg [⟨some 23, .mv (.t 0), none⟩,
    ⟨some 24, .call 223 [.t 23] [0] [], none⟩,
    ⟨some 5, .alloc [.int .i64 0, .int .i64 0, .nils 3, .str ⟨#[]⟩], none⟩,
    ⟨none, .store 4 (.t 5) (.t 24), none⟩] [0, 2, 3, 5, 20, 21] [0, 2, 3, 5, 29, 13300])
  (.reg [⟨some 25, .faddr 5 (.t 3), none⟩,
    ⟨some 26, .load false 1 (.t 25), none⟩,
    ⟨some 27, .load true 4 (.t 5), none⟩,
    ⟨some 28, .bslice 4 1 [.int .i64 0, .int .i64 0, .nils 3, .str ⟨#[]⟩] [(0, .t 27)], none⟩,
    ⟨some 29, .app 4 56 (.t 26) (.t 28), none⟩,
    ⟨some 30, .faddr 5 (.t 3), none⟩,
    ⟨none, .store 1 (.t 30) (.t 29), none⟩] [0, 2, 3, 20, 21] [0, 2, 3, 29, 13300])))
  (.reg [⟨some 31, .bin .add (.t 21) (.k (.int .i64 1)), none⟩,
    ⟨some 21, .mv (.t 31), none⟩] [0, 2, 3, 20, 21] [0, 2, 3, 29, 13300])))
def impl_scan_box.b : C := .seq (.reg [⟨some 2, .alloc [.int .i64 0, .str ⟨#[]⟩, .int .i64 0, .int .i64 0, .int .i64 0, .nils 4, .nils 1], none⟩] [0, 2] [0, 2, 29, 13300])
  (.seq (.reg [⟨some 6, .mv (.t 0), none⟩,
    ⟨some 7, .call 152 [.t 6] [0] [], none⟩,
    ⟨some 8, .build [.int .i64 0, .str ⟨#[]⟩, .int .i64 0, .int .i64 0, .int .i64 0, .nils 4, .nils 1] [(0, 1, .t 7)], none⟩,
    ⟨some 3, .alloc [.int .i64 0, .str ⟨#[]⟩, .int .i64 0, .int .i64 0, .int .i64 0, .nils 4, .nils 1], none⟩,
    ⟨none, .store 7 (.t 3) (.t 8), none⟩] [0, 2, 3] [0, 2, 3, 29, 13300])
  (.seq (.reg [⟨some 9, .mv (.t 0), none⟩,
    ⟨some 10, .call 153 [.t 9] [0] [], none⟩,
    ⟨some 11, .faddr 1 (.t 3), none⟩,
    ⟨none, .store 1 (.t 11) (.t 10), none⟩] [0, 2, 3] [0, 2, 3, 29, 13300])
  (.seq (.reg [⟨some 12, .mv (.t 0), none⟩,
    ⟨some 13, .call 222 [.t 12] [0] [], none⟩,
    ⟨some 14, .faddr 2 (.t 3), none⟩,
    ⟨none, .store 2 (.t 14) (.t 13), none⟩] [0, 2, 3] [0, 2, 3, 29, 13300])
  (.seq (.reg [⟨some 15, .mv (.t 0), none⟩,
    ⟨some 16, .call 152 [.t 15] [0] [], none⟩,
    ⟨some 17, .faddr 4 (.t 3), none⟩,
    ⟨none, .store 1 (.t 17) (.t 16), none⟩] [0, 2, 3] [0, 2, 3, 29, 13300])
  (.seq (.reg [⟨some 18, .mv (.t 0), none⟩,
    ⟨some 19, .call 169 [.t 18, .k (.int .i64 10)] [0] [], none⟩,
    ⟨some 4, .mv (.t 19), none⟩] [0, 2, 3, 4] [0, 2, 3, 29, 13300])
  (.seq (.seq (.reg [⟨some 20, .mv (.t 4), none⟩,
    ⟨some 21, .mv (.k (.int .i64 0)), none⟩] [0, 2, 3, 20, 21] [0, 2, 3, 29, 13300])
  (.block 0 (.loop impl_scan_box.l0)))
  (.seq (.reg [⟨some 32, .mv (.t 0), none⟩,
    ⟨some 33, .call 170 [.t 32, .k (.int .i64 40)] [0] [(0, 13300)], none⟩,
    ⟨some 34, .faddr 6 (.t 3), none⟩,
    ⟨none, .store 1 (.t 34) (.t 33), none⟩] [2, 3] [0, 2, 3, 29, 13300])
  (.seq (.reg [⟨some 35, .load true 7 (.t 3), none⟩,
    ⟨none, .store 7 (.t 2) (.t 35), none⟩] [2] [0, 2, 29, 13300])
  (.ret)))))))))
def impl_scan_box.m : Fn := { np := 1, body := impl_scan_box.b, res := [.cell 2 true 7] }
def impl_scan_box.k (M : Nat → Option Body) : Prop := M 143 = some (.code impl_scan_box.m) ∧ impl_scan_num.k M ∧ impl_scan_short.k M ∧ impl_scan_many.k M ∧ impl_scan_nums.k M ∧ impl_scan_stamp.k M ∧ impl_scan_mail.k M
def spec_l05Var.b : C := .seq (.reg [⟨some 2, .mv (.k (.int .i64 0)), none⟩] [0] [0])
  (.seq (.regd [⟨some 7, .mv (.t 0), none⟩,
    ⟨some 8, .nilc (.t 7), none⟩,
    ⟨some 9, .faddr 0 (.t 8), none⟩,
    ⟨some 10, .load false 1 (.t 9), none⟩,
    ⟨some 11, .mv (.t 0), none⟩,
    ⟨some 12, .nilc (.t 11), none⟩,
    ⟨some 13, .faddr 1 (.t 12), none⟩,
    ⟨some 14, .load false 1 (.t 13), none⟩,
    ⟨some 15, .call 221 [.t 10, .t 14] [] [], none⟩,
    ⟨some 6, .mv (.t 15), none⟩,
    ⟨some 16, .ext 0 (.t 6), none⟩,
    ⟨some 17, .ext 1 (.t 6), none⟩,
    ⟨some 18, .ext 2 (.t 6), none⟩,
    ⟨some 3, .mv (.t 16), none⟩,
    ⟨some 4, .mv (.t 17), none⟩,
    ⟨some 5, .mv (.t 18), none⟩] [[], [0], [0, 1], [0, 1, 2], [], [4], [4, 5], [4, 5, 6], List.range 8, List.range 9, List.range 10, List.range 10, List.range 10, List.range 11, List.range 12 ++ [13], List.range 15] [0, 3, 4, 5] [0])
  (.seq (.seq (.reg [⟨some 19, .mv (.t 0), none⟩,
    ⟨some 20, .nilc (.t 19), none⟩,
    ⟨some 21, .faddr 2 (.t 20), none⟩,
    ⟨some 22, .load false 1 (.t 21), none⟩,
    ⟨some 23, .mv (.t 22), none⟩,
    ⟨some 24, .mv (.t 5), some (23, false)⟩,
    ⟨some 25, .not (.t 24), some (23, false)⟩,
    ⟨some 26, .pick (.t 23) (.k (.bool true)) (.t 25), none⟩] [0, 3, 4, 26] [0])
  (.cond (.t 26) (.seq (.reg [⟨some 27, .mv (.t 0), none⟩,
    ⟨some 28, .nilc (.t 27), none⟩,
    ⟨some 29, .faddr 2 (.t 28), none⟩,
    ⟨none, .store 1 (.t 29) (.k (.bool true)), none⟩] [] [0])
  (.seq (.reg [⟨some 2, .mv (.k (.int .i64 0)), none⟩] [2] [0])
  (.ret))) (.skip)))
  (.seq (.reg [⟨some 30, .mv (.t 0), none⟩,
    ⟨some 31, .mv (.t 4), none⟩,
    ⟨some 32, .nilc (.t 30), none⟩,
    ⟨some 33, .faddr 1 (.t 32), none⟩,
    ⟨none, .store 1 (.t 33) (.t 31), none⟩] [3] [0])
  (.seq (.reg [⟨some 34, .mv (.t 3), none⟩,
    ⟨some 2, .mv (.t 34), none⟩] [2] [0])
  (.ret)))))
def spec_l05Var.m : Fn := { np := 1, body := spec_l05Var.b, res := [.tmp 2] }
def spec_l05Var.k (M : Nat → Option Body) : Prop := M 139 = some (.code spec_l05Var.m) ∧ spec_ReadVar.k M
def spec_l05Short.b : C := .seq (.reg [⟨some 2, .mv (.k (.str ⟨#[]⟩)), none⟩] [0] [0])
  (.seq (.regd [⟨some 7, .mv (.t 0), none⟩,
    ⟨some 8, .nilc (.t 7), none⟩,
    ⟨some 9, .faddr 0 (.t 8), none⟩,
    ⟨some 10, .load false 1 (.t 9), none⟩,
    ⟨some 11, .mv (.t 0), none⟩,
    ⟨some 12, .nilc (.t 11), none⟩,
    ⟨some 13, .faddr 1 (.t 12), none⟩,
    ⟨some 14, .load false 1 (.t 13), none⟩,
    ⟨some 15, .call 206 [.t 10, .t 14] [] [], none⟩,
    ⟨some 6, .mv (.t 15), none⟩,
    ⟨some 16, .ext 0 (.t 6), none⟩,
    ⟨some 17, .ext 1 (.t 6), none⟩,
    ⟨some 18, .ext 2 (.t 6), none⟩,
    ⟨some 3, .mv (.t 16), none⟩,
    ⟨some 4, .mv (.t 17), none⟩,
    ⟨some 5, .mv (.t 18), none⟩] [[], [0], [0, 1], [0, 1, 2], [], [4], [4, 5], [4, 5, 6], List.range 8, List.range 9, List.range 10, List.range 10, List.range 10, List.range 11, List.range 12 ++ [13], List.range 15] [0, 3, 4, 5] [0])
  (.seq (.seq (.reg [⟨some 19, .mv (.t 0), none⟩,
    ⟨some 20, .nilc (.t 19), none⟩,
    ⟨some 21, .faddr 2 (.t 20), none⟩,
    ⟨some 22, .load false 1 (.t 21), none⟩,
    ⟨some 23, .mv (.t 22), none⟩,
    ⟨some 24, .mv (.t 5), some (23, false)⟩,
    ⟨some 25, .not (.t 24), some (23, false)⟩,
    ⟨some 26, .pick (.t 23) (.k (.bool true)) (.t 25), none⟩] [0, 3, 4, 26] [0])
  (.cond (.t 26) (.seq (.reg [⟨some 27, .mv (.t 0), none⟩,
    ⟨some 28, .nilc (.t 27), none⟩,
    ⟨some 29, .faddr 2 (.t 28), none⟩,
    ⟨none, .store 1 (.t 29) (.k (.bool true)), none⟩] [] [0])
  (.seq (.reg [⟨some 2, .mv (.k (.str ⟨#[]⟩)), none⟩] [2] [0])
  (.ret))) (.skip)))
  (.seq (.reg [⟨some 30, .mv (.t 0), none⟩,
    ⟨some 31, .mv (.t 4), none⟩,
    ⟨some 32, .nilc (.t 30), none⟩,
    ⟨some 33, .faddr 1 (.t 32), none⟩,
    ⟨none, .store 1 (.t 33) (.t 31), none⟩] [3] [0])
  (.seq (.reg [⟨some 34, .mv (.t 3), none⟩,
    ⟨some 2, .mv (.t 34), none⟩] [2] [0])
  (.ret)))))
def spec_l05Short.m : Fn := { np := 1, body := spec_l05Short.b, res := [.tmp 2] }
def spec_l05Short.k (M : Nat → Option Body) : Prop := M 140 = some (.code spec_l05Short.m) ∧ spec_ReadShort.k M
def spec_l10Ints.l0 : C := .seq (.seq (.reg [⟨some 11, .mv (.t 7), none⟩,
    ⟨some 12, .mv (.t 5), none⟩,
    ⟨some 13, .bin .lss (.t 11) (.t 12), none⟩,
    ⟨some 14, .mv (.t 13), none⟩,
    ⟨some 15, .mv (.t 7), some (14, true)⟩,
    ⟨some 16, .mv (.t 1), some (14, true)⟩,
    ⟨some 17, .bin .leq (.t 15) (.t 16), some (14, true)⟩,
    ⟨some 18, .pick (.t 14) (.t 17) (.k (.bool false)), none⟩,
    ⟨some 19, .mv (.t 18), none⟩,
    ⟨some 20, .mv (.t 0), some (19, true)⟩,
    ⟨some 21, .nilc (.t 20), some (19, true)⟩,
    ⟨some 22, .faddr 2 (.t 21), some (19, true)⟩,
    ⟨some 23, .load false 1 (.t 22), some (19, true)⟩,
    ⟨some 24, .not (.t 23), some (19, true)⟩,
    ⟨some 25, .pick (.t 19) (.t 24) (.k (.bool false)), none⟩] [0, 1, 5, 6, 7, 25] [0, 10, 32])
  (.cond (.t 25) (.skip) (.exit 0)))
  (.seq (.block 1 (.reg [⟨some 28, .mv (.t 6), none⟩,
    ⟨some 29, .mv (.t 0), none⟩,
    ⟨some 30, .call 139 [.t 29] [0] [], none⟩,
    ⟨some 31, .bslice 1 1 [.int .i64 0] [(0, .t 30)], none⟩,
    ⟨some 32, .app 1 8 (.t 28) (.t 31), none⟩,
    ⟨some 6, .mv (.t 32), none⟩] [0, 1, 5, 6, 7] [0, 10, 32]))
  (.reg [⟨some 26, .mv (.t 7), none⟩,
    ⟨some 27, .bin .add (.t 26) (.k (.int .i64 1)), none⟩,
    ⟨some 7, .mv (.t 27), none⟩] [0, 1, 5, 6, 7] [0, 10, 32]))
def spec_l10Ints.b : C := .seq (.reg [⟨some 4, .nil 1, none⟩] [0, 1] [0])
  (.seq (.reg [⟨some 8, .mv (.t 0), none⟩,
    ⟨some 9, .call 139 [.t 8] [0] [], none⟩,
    ⟨some 5, .mv (.t 9), none⟩] [0, 1, 5] [0])
  (.seq (.reg [⟨some 10, .bslice 1 0 [.int .i64 0] [], none⟩,
    ⟨some 6, .mv (.t 10), none⟩] [0, 1, 5, 6] [0, 10, 32])
  (.seq (.seq (.reg [⟨some 7, .mv (.k (.int .i64 0)), none⟩] [0, 1, 5, 6, 7] [0, 10, 32])
  (.block 0 (.loop spec_l10Ints.l0)))
  (.seq (.reg [⟨some 33, .mv (.t 6), none⟩,
    ⟨some 4, .mv (.t 33), none⟩] [4] [0, 4, 10, 32])
  (.ret)))))
def spec_l10Ints.m : Fn := { np := 2, body := spec_l10Ints.b, res := [.tmp 4] }
def spec_l10Ints.k (M : Nat → Option Body) : Prop := M 142 = some (.code spec_l10Ints.m) ∧ spec_l05Var.k M
def spec_ReadMail.l0 : C := .seq (.seq (.reg [⟨some 21, .mv (.t 9), none⟩,
    ⟨some 22, .bin .lss (.t 21) (.k (.int .i64 3)), none⟩] [4, 7, 8, 9, 22] [4, 8, 14, 40])
  (.cond (.t 22) (.skip) (.exit 0)))
  (.seq (.block 1 (.seq (.reg [⟨some 25, .mv (.t 7), none⟩,
    ⟨some 26, .call 139 [.t 25] [0] [], none⟩,
    ⟨some 27, .build [.int .i64 0, .int .i64 0, .int .i64 0] [(0, 1, .t 26)], none⟩,
    ⟨some 10, .alloc [.int .i64 0, .int .i64 0, .int .i64 0], none⟩,
    ⟨none, .store 3 (.t 10) (.t 27), none⟩] [4, 7, 8, 9, 10] [4, 8, 10, 14, 40])
  (.seq (.reg [⟨some 28, .mv (.t 7), none⟩,
    ⟨some 29, .call 139 [.t 28] [0] [], none⟩,
    ⟨some 30, .faddr 1 (.t 10), none⟩,
    ⟨some 31, .faddr 0 (.t 30), none⟩,
    ⟨none, .store 1 (.t 31) (.t 29), none⟩] [4, 7, 8, 9, 10] [4, 8, 10, 14, 40])
  (.seq (.reg [⟨some 32, .mv (.t 7), none⟩,
    ⟨some 33, .call 139 [.t 32] [0] [], none⟩,
    ⟨some 34, .faddr 1 (.t 10), none⟩,
    ⟨some 35, .faddr 1 (.t 34), none⟩,
    ⟨none, .store 1 (.t 35) (.t 33), none⟩] [4, 7, 8, 9, 10] [4, 8, 10, 14, 40])
  (.reg [⟨some 36, .faddr 2 (.t 8), none⟩,
    ⟨some 37, .load false 1 (.t 36), none⟩,
    ⟨some 38, .load true 3 (.t 10), none⟩,
    ⟨some 39, .bslice 3 1 [.int .i64 0, .int .i64 0, .int .i64 0] [(0, .t 38)], none⟩,
    ⟨some 40, .app 3 24 (.t 37) (.t 39), none⟩,
    ⟨some 41, .faddr 2 (.t 8), none⟩,
    ⟨none, .store 1 (.t 41) (.t 40), none⟩] [4, 7, 8, 9] [4, 8, 14, 40])))))
  (.reg [⟨some 23, .mv (.t 9), none⟩,
    ⟨some 24, .bin .add (.t 23) (.k (.int .i64 1)), none⟩,
    ⟨some 9, .mv (.t 24), none⟩] [4, 7, 8, 9] [4, 8, 14, 40]))
def spec_ReadMail.b : C := .seq (.reg [⟨some 4, .alloc [.int .i64 0, .int .i64 0, .nils 3, .str ⟨#[]⟩], none⟩,
    ⟨some 5, .mv (.k (.int .i64 0)), none⟩,
    ⟨some 6, .mv (.k (.bool false)), none⟩] [0, 1, 4] [4, 40])
  (.seq (.reg [⟨some 11, .mv (.t 0), none⟩,
    ⟨some 12, .mv (.t 1), none⟩,
    ⟨some 13, .build [.str ⟨#[]⟩, .int .i64 0, .bool false] [(0, 1, .t 11), (1, 1, .t 12)], none⟩,
    ⟨some 14, .box (.t 13), none⟩,
    ⟨some 7, .mv (.t 14), none⟩] [4, 7] [4, 14, 40])
  (.seq (.reg [⟨some 15, .mv (.t 7), none⟩,
    ⟨some 16, .call 139 [.t 15] [0] [], none⟩,
    ⟨some 17, .build [.int .i64 0, .int .i64 0, .nils 3, .str ⟨#[]⟩] [(0, 1, .t 16)], none⟩,
    ⟨some 8, .alloc [.int .i64 0, .int .i64 0, .nils 3, .str ⟨#[]⟩], none⟩,
    ⟨none, .store 4 (.t 8) (.t 17), none⟩] [4, 7, 8] [4, 8, 14, 40])
  (.seq (.reg [⟨some 18, .mv (.t 7), none⟩,
    ⟨some 19, .call 139 [.t 18] [0] [], none⟩,
    ⟨some 20, .faddr 1 (.t 8), none⟩,
    ⟨none, .store 1 (.t 20) (.t 19), none⟩] [4, 7, 8] [4, 8, 14, 40])
  (.seq (.seq (.reg [⟨some 9, .mv (.k (.int .i64 0)), none⟩] [4, 7, 8, 9] [4, 8, 14, 40])
  (.block 0 (.loop spec_ReadMail.l0)))
  (.seq (.reg [⟨some 42, .mv (.t 7), none⟩,
    ⟨some 43, .call 140 [.t 42] [0] [], none⟩,
    ⟨some 44, .faddr 3 (.t 8), none⟩,
    ⟨none, .store 1 (.t 44) (.t 43), none⟩] [4, 7, 8] [4, 8, 14, 40])
  (.seq (.seq (.reg [⟨some 45, .mv (.t 7), none⟩,
    ⟨some 46, .nilc (.t 45), none⟩,
    ⟨some 47, .faddr 2 (.t 46), none⟩,
    ⟨some 48, .load false 1 (.t 47), none⟩,
    ⟨some 49, .mv (.t 48), none⟩,
    ⟨some 50, .load true 4 (.t 8), some (49, false)⟩,
    ⟨some 51, .call 187 [.t 50] [] [], some (49, false)⟩,
    ⟨some 52, .not (.t 51), some (49, false)⟩,
    ⟨some 53, .pick (.t 49) (.k (.bool true)) (.t 52), none⟩] [4, 7, 8, 53] [4, 8, 14, 40])
  (.cond (.t 53) (.seq (.reg [⟨some 54, .build [.int .i64 0, .int .i64 0, .nils 3, .str ⟨#[]⟩] [], none⟩,
    ⟨none, .store 4 (.t 4) (.t 54), none⟩,
    ⟨some 5, .mv (.k (.int .i64 0)), none⟩,
    ⟨some 6, .mv (.k (.bool false)), none⟩] [4, 5, 6] [4, 40])
  (.ret)) (.skip)))
  (.seq (.regd [⟨some 55, .load true 4 (.t 8), none⟩,
    ⟨some 56, .mv (.t 7), none⟩,
    ⟨some 57, .nilc (.t 56), none⟩,
    ⟨some 58, .faddr 1 (.t 57), none⟩,
    ⟨some 59, .load false 1 (.t 58), none⟩,
    ⟨none, .store 4 (.t 4) (.t 55), none⟩,
    ⟨some 5, .mv (.t 59), none⟩,
    ⟨some 6, .mv (.k (.bool true)), none⟩] [[], [], [1], [1, 2], [1, 2, 3], [0], List.range 6, List.range 7] [4, 5, 6] [4, 40])
  (.ret))))))))
def spec_ReadMail.m : Fn := { np := 2, body := spec_ReadMail.b, res := [.cell 4 true 4, .tmp 5, .tmp 6] }
def spec_ReadMail.k (M : Nat → Option Body) : Prop := M 141 = some (.code spec_ReadMail.m) ∧ spec_l05Var.k M ∧ spec_l05Short.k M ∧ spec_MailOk.k M
def spec_ReadBox.l0 : C := .seq (.seq (.reg [⟨some 37, .mv (.t 10), none⟩,
    ⟨some 38, .mv (.t 9), none⟩,
    ⟨some 39, .bin .lss (.t 37) (.t 38), none⟩,
    ⟨some 40, .mv (.t 39), none⟩,
    ⟨some 41, .mv (.t 10), some (40, true)⟩,
    ⟨some 42, .bin .leq (.t 41) (.k (.int .i64 10)), some (40, true)⟩,
    ⟨some 43, .pick (.t 40) (.t 42) (.k (.bool false)), none⟩,
    ⟨some 44, .mv (.t 43), none⟩,
    ⟨some 45, .mv (.t 7), some (44, true)⟩,
    ⟨some 46, .nilc (.t 45), some (44, true)⟩,
    ⟨some 47, .faddr 2 (.t 46), some (44, true)⟩,
    ⟨some 48, .load false 1 (.t 47), some (44, true)⟩,
    ⟨some 49, .not (.t 48), some (44, true)⟩,
    ⟨some 50, .pick (.t 44) (.t 49) (.k (.bool false)), none⟩] [0, 4, 7, 8, 9, 10, 50] [4, 8, 17, 70, 17700])
  (.cond (.t 50) (.skip) (.exit 0)))
  (.seq (.block 1 (.seq (.reg [⟨some 54, .mv (.t 0), none⟩,
    ⟨some 55, .mv (.t 7), none⟩,
    ⟨some 56, .nilc (.t 55), none⟩,
    ⟨some 57, .faddr 1 (.t 56), none⟩,
    ⟨some 58, .load false 1 (.t 57), none⟩,
    ⟨some 59, .call 141 [.t 54, .t 58] [] [], none⟩,
    ⟨some 53, .mv (.t 59), none⟩,
    ⟨some 60, .ext 0 (.t 53), none⟩,
    ⟨some 61, .ext 1 (.t 53), none⟩,
    ⟨some 62, .ext 2 (.t 53), none⟩,
    ⟨some 11, .alloc [.int .i64 0, .int .i64 0, .nils 3, .str ⟨#[]⟩], none⟩,
    ⟨none, .store 4 (.t 11) (.t 60), none⟩,
    ⟨some 12, .mv (.t 61), none⟩,
    ⟨some 13, .mv (.t 62), none⟩] [0, 4, 7, 8, 9, 10, 11, 12, 13] [4, 8, 11, 17, 70, 17700])
  (.seq (.seq (.reg [⟨some 63, .mv (.t 13), none⟩,
    ⟨some 64, .not (.t 63), none⟩] [0, 4, 7, 8, 9, 10, 11, 12, 64] [4, 8, 11, 17, 70, 17700])
  (.cond (.t 64) (.seq (.reg [⟨some 65, .build [.int .i64 0, .str ⟨#[]⟩, .int .i64 0, .int .i64 0, .int .i64 0, .nils 4, .nils 1] [], none⟩,
    ⟨none, .store 7 (.t 4) (.t 65), none⟩,
    ⟨some 5, .mv (.k (.int .i64 0)), none⟩,
    ⟨some 6, .mv (.k (.bool false)), none⟩] [4, 5, 6] [4, 70, 17700])
  (.ret)) (.skip)))
  (.seq (.reg [⟨some 66, .faddr 5 (.t 8), none⟩,
    ⟨some 67, .load false 1 (.t 66), none⟩,
    ⟨some 68, .load true 4 (.t 11), none⟩,
    ⟨some 69, .bslice 4 1 [.int .i64 0, .int .i64 0, .nils 3, .str ⟨#[]⟩] [(0, .t 68)], none⟩,
    ⟨some 70, .app 4 56 (.t 67) (.t 69), none⟩,
    ⟨some 71, .faddr 5 (.t 8), none⟩,
    ⟨none, .store 1 (.t 71) (.t 70), none⟩] [0, 4, 7, 8, 9, 10, 12] [4, 8, 17, 70, 17700])
  (.reg [⟨some 72, .mv (.t 7), none⟩,
    ⟨some 73, .mv (.t 12), none⟩,
    ⟨some 74, .nilc (.t 72), none⟩,
    ⟨some 75, .faddr 1 (.t 74), none⟩,
    ⟨none, .store 1 (.t 75) (.t 73), none⟩] [0, 4, 7, 8, 9, 10] [4, 8, 17, 70, 17700])))))
  (.reg [⟨some 51, .mv (.t 10), none⟩,
    ⟨some 52, .bin .add (.t 51) (.k (.int .i64 1)), none⟩,
    ⟨some 10, .mv (.t 52), none⟩] [0, 4, 7, 8, 9, 10] [4, 8, 17, 70, 17700]))
def spec_ReadBox.b : C := .seq (.reg [⟨some 4, .alloc [.int .i64 0, .str ⟨#[]⟩, .int .i64 0, .int .i64 0, .int .i64 0, .nils 4, .nils 1], none⟩,
    ⟨some 5, .mv (.k (.int .i64 0)), none⟩,
    ⟨some 6, .mv (.k (.bool false)), none⟩] [0, 1, 4] [4, 70, 17700])
  (.seq (.reg [⟨some 14, .mv (.t 0), none⟩,
    ⟨some 15, .mv (.t 1), none⟩,
    ⟨some 16, .build [.str ⟨#[]⟩, .int .i64 0, .bool false] [(0, 1, .t 14), (1, 1, .t 15)], none⟩,
    ⟨some 17, .box (.t 16), none⟩,
    ⟨some 7, .mv (.t 17), none⟩] [0, 4, 7] [4, 17, 70, 17700])
  (.seq (.reg [⟨some 18, .mv (.t 7), none⟩,
    ⟨some 19, .call 139 [.t 18] [0] [], none⟩,
    ⟨some 20, .build [.int .i64 0, .str ⟨#[]⟩, .int .i64 0, .int .i64 0, .int .i64 0, .nils 4, .nils 1] [(0, 1, .t 19)], none⟩,
    ⟨some 8, .alloc [.int .i64 0, .str ⟨#[]⟩, .int .i64 0, .int .i64 0, .int .i64 0, .nils 4, .nils 1], none⟩,
    ⟨none, .store 7 (.t 8) (.t 20), none⟩] [0, 4, 7, 8] [4, 8, 17, 70, 17700])
  (.seq (.reg [⟨some 21, .mv (.t 7), none⟩,
    ⟨some 22, .call 140 [.t 21] [0] [], none⟩,
    ⟨some 23, .faddr 1 (.t 8), none⟩,
    ⟨none, .store 1 (.t 23) (.t 22), none⟩] [0, 4, 7, 8] [4, 8, 17, 70, 17700])
  (.seq (.reg [⟨some 24, .mv (.t 7), none⟩,
    ⟨some 25, .call 139 [.t 24] [0] [], none⟩,
    ⟨some 26, .faddr 2 (.t 8), none⟩,
    ⟨some 27, .faddr 0 (.t 26), none⟩,
    ⟨none, .store 1 (.t 27) (.t 25), none⟩] [0, 4, 7, 8] [4, 8, 17, 70, 17700])
  (.seq (.reg [⟨some 28, .mv (.t 7), none⟩,
    ⟨some 29, .call 139 [.t 28] [0] [], none⟩,
    ⟨some 30, .faddr 2 (.t 8), none⟩,
    ⟨some 31, .faddr 1 (.t 30), none⟩,
    ⟨none, .store 1 (.t 31) (.t 29), none⟩] [0, 4, 7, 8] [4, 8, 17, 70, 17700])
  (.seq (.reg [⟨some 32, .mv (.t 7), none⟩,
    ⟨some 33, .call 139 [.t 32] [0] [], none⟩,
    ⟨some 34, .faddr 4 (.t 8), none⟩,
    ⟨none, .store 1 (.t 34) (.t 33), none⟩] [0, 4, 7, 8] [4, 8, 17, 70, 17700])
  (.seq (.reg [⟨some 35, .mv (.t 7), none⟩,
    ⟨some 36, .call 139 [.t 35] [0] [], none⟩,
    ⟨some 9, .mv (.t 36), none⟩] [0, 4, 7, 8, 9] [4, 8, 17, 70, 17700])
  (.seq (.seq (.reg [⟨some 10, .mv (.k (.int .i64 0)), none⟩] [0, 4, 7, 8, 9, 10] [4, 8, 17, 70, 17700])
  (.block 0 (.loop spec_ReadBox.l0)))
  (.seq (.reg [⟨some 76, .mv (.t 7), none⟩,
    ⟨some 77, .call 142 [.t 76, .k (.int .i64 40)] [0] [(0, 17700)], none⟩,
    ⟨some 78, .faddr 6 (.t 8), none⟩,
    ⟨none, .store 1 (.t 78) (.t 77), none⟩] [4, 7, 8] [4, 8, 17, 70, 17700])
  (.seq (.seq (.reg [⟨some 79, .mv (.t 7), none⟩,
    ⟨some 80, .nilc (.t 79), none⟩,
    ⟨some 81, .faddr 2 (.t 80), none⟩,
    ⟨some 82, .load false 1 (.t 81), none⟩,
    ⟨some 83, .mv (.t 82), none⟩,
    ⟨some 84, .load true 7 (.t 8), some (83, false)⟩,
    ⟨some 85, .call 88 [.t 84] [] [], some (83, false)⟩,
    ⟨some 86, .not (.t 85), some (83, false)⟩,
    ⟨some 87, .pick (.t 83) (.k (.bool true)) (.t 86), none⟩] [4, 7, 8, 87] [4, 8, 17, 70, 17700])
  (.cond (.t 87) (.seq (.reg [⟨some 88, .build [.int .i64 0, .str ⟨#[]⟩, .int .i64 0, .int .i64 0, .int .i64 0, .nils 4, .nils 1] [], none⟩,
    ⟨none, .store 7 (.t 4) (.t 88), none⟩,
    ⟨some 5, .mv (.k (.int .i64 0)), none⟩,
    ⟨some 6, .mv (.k (.bool false)), none⟩] [4, 5, 6] [4, 70, 17700])
  (.ret)) (.skip)))
  (.seq (.regd [⟨some 89, .load true 7 (.t 8), none⟩,
    ⟨some 90, .mv (.t 7), none⟩,
    ⟨some 91, .nilc (.t 90), none⟩,
    ⟨some 92, .faddr 1 (.t 91), none⟩,
    ⟨some 93, .load false 1 (.t 92), none⟩,
    ⟨none, .store 7 (.t 4) (.t 89), none⟩,
    ⟨some 5, .mv (.t 93), none⟩,
    ⟨some 6, .mv (.k (.bool true)), none⟩] [[], [], [1], [1, 2], [1, 2, 3], [0], List.range 6, List.range 7] [4, 5, 6] [4, 70, 17700])
  (.ret))))))))))))
def spec_ReadBox.m : Fn := { np := 2, body := spec_ReadBox.b, res := [.cell 4 true 7, .tmp 5, .tmp 6] }
def spec_ReadBox.k (M : Nat → Option Body) : Prop := M 52 = some (.code spec_ReadBox.m) ∧ spec_BoxOk.k M ∧ spec_l05Var.k M ∧ spec_l05Short.k M ∧ spec_ReadMail.k M ∧ spec_l10Ints.k M
end Mx

/-
  What ReadVar and ReadShort answer.
-/
namespace Mx
open Go
variable {M : Nat → Option Body}
def pw (k : Nat) : Nat := 128 ^ k
/-- a number read from a place on; d: how many bytes may come; k: how many came; n: what they are -/
def rvGo (l : List UInt8) (a : Nat) : Nat → Nat → Nat → Option (Nat × Nat × Bool)
  | 0, _, _ => none
  | d + 1, k, n => if h : a + k < l.length then
      if l[a + k].toNat < 128 then some (if n + l[a + k].toNat % 128 * pw k ≤ 1000000000 ∧ varT (n + l[a + k].toNat % 128 * pw k) = (l.drop a).take (k + 1) then (n + l[a + k].toNat % 128 * pw k, a + k + 1, true) else (0, 0, false))
      else rvGo l a d (k + 1) (n + l[a + k].toNat % 128 * pw k)
    else none
def readVar (l : List UInt8) (a : Int) : Nat × Nat × Bool := if 0 ≤ a ∧ a ≤ l.length then (rvGo l a.toNat 5 0 0).getD (0, 0, false) else (0, 0, false)
theorem rvGo_end (l : List UInt8) (a d k n : Nat) (h : ¬ a + k < l.length) : rvGo l a d k n = none := by
  cases d with
  | zero => rfl
  | succ d => rw [rvGo, dif_neg h]
theorem rvGo_le (l : List UInt8) (a : Nat) : ∀ d k n r, rvGo l a d k n = some r → r.1 ≤ 1000000000 ∧ r.2.1 ≤ l.length ∧ (r.2.2 = true → a + k < r.2.1)
  | 0, k, n, r, h => by simp [rvGo] at h
  | d + 1, k, n, r, hr => by
    rw [rvGo] at hr
    by_cases h : a + k < l.length
    · rw [dif_pos h] at hr
      split at hr
      · simp only [Option.some.injEq] at hr
        subst hr
        split
        · rename_i hc
          exact ⟨hc.1, by simp only; omega, fun _ => by simp only; omega⟩
        · simp
      · have := rvGo_le l a d (k + 1) _ r hr
        exact ⟨this.1, this.2.1, fun q => by have := this.2.2 q; omega⟩
    · rw [dif_neg h] at hr; cases hr
theorem readVar_le (l : List UInt8) (a : Int) : (readVar l a).1 ≤ 1000000000 ∧ (readVar l a).2.1 ≤ l.length ∧ ((readVar l a).2.2 = true → 0 ≤ a ∧ a < (readVar l a).2.1) := by
  unfold readVar
  split
  · rename_i h
    cases hg : rvGo l a.toNat 5 0 0 with
    | none => simp
    | some r =>
      have := rvGo_le l a.toNat 5 0 0 r hg
      exact ⟨this.1, this.2.1, fun q => ⟨h.1, by have := this.2.2 q; simp only [Option.getD_some]; omega⟩⟩
  · simp
def spR (l : List UInt8) (a : Nat) (s : Nat × Nat) (x : Nat) : St := { t := [(0, .c (S l)), (1, .c (I a)), (7, .c (I s.2)), (8, .c (I (pw s.1 : Nat))), (9, .c (I ((a : Int) + s.1)))], o := [], n := x }
def rvFin (q : Option (Nat × Nat × Bool)) (m : St) : Out × St := match q with
  | some r => (.ret, { t := [(4, .c (I r.1)), (5, .c (I r.2.1)), (6, .c (.bool r.2.2))], o := [], n := m.n })
  | none => (.exit 0, m)
theorem rvFin_ne (q : Option (Nat × Nat × Bool)) (m : St) : (rvFin q m).1 ≠ .normal := by
  cases q <;> simp [rvFin]
theorem pow_le5 {k : Nat} (h : k ≤ 5) : pw k ≤ 34359738368 := by
  have : k = 0 ∨ k = 1 ∨ k = 2 ∨ k = 3 ∨ k = 4 ∨ k = 5 := by omega
  rcases this with rfl | rfl | rfl | rfl | rfl | rfl <;> decide +kernel
theorem pw_succ (k : Nat) : pw (k + 1) = pw k * 128 := Nat.pow_succ 128 k
theorem step_lt {n k b : Nat} (h : n < pw k) : n + b % 128 * pw k < pw (k + 1) := by
  have h1 : b % 128 ≤ 127 := by omega
  have h2 : b % 128 * pw k ≤ 127 * pw k := Nat.mul_le_mul_right _ h1
  rw [pw_succ]; omega
theorem spec_ReadVar.says (h : spec_ReadVar.k M) (l : List UInt8) (hl : l.length ≤ 4611686018427387904) (a : Int) :
    run M 221 [.c (S l), .c (I a)] [] = some (.tup [.c (I (readVar l a).1), .c (I (readVar l a).2.1), .c (.bool (readVar l a).2.2)], []) := by
  obtain ⟨h0, k1, k2⟩ := h
  have hw := spec_l01In.says k1 a 0 l.length
  refine run_code (b := spec_ReadVar.m) h0 ⟨7, ?_⟩
  by_cases c : 0 ≤ a ∧ a ≤ l.length
  rotate_left
  · have hb : (decide (0 ≤ a) && decide (a ≤ (l.length : Int))) = false := by
      rw [Bool.eq_false_iff]; intro hh; simp only [Bool.and_eq_true, decide_eq_true_eq] at hh; omega
    rw [hb] at hw
    simp [exB, spec_ReadVar.m, spec_ReadVar.b, List.range_succ, hw, readVar, c]
  obtain ⟨c1, c2⟩ := c
  obtain ⟨a, rfl⟩ := Int.eq_ofNat_of_zero_le c1
  have c3 : a ≤ l.length := by omega
  simp [c1, c3] at hw
  obtain ⟨g, hr⟩ := loop_all (f := exC (run M) 7 spec_ReadVar.l0) (spR l a) (fun s => s.1 ≤ 5 ∧ s.2 < pw s.1) (fun s => 5 - s.1) (fun s => rvGo l a (5 - s.1) s.1 s.2) rvFin
    (by
      rintro ⟨k, n⟩ x ⟨h1, h2⟩
      simp only at h1 h2
      have hp := pow_le5 h1
      have e2 : IntKind.i64.wrap ((a : Int) + 5) = (a : Int) + 5 := wrap_i64 (by omega) (by omega)
      have stop : (∃ m, exC (run M) 7 spec_ReadVar.l0 (spR l a (k, n) x) = some (rvFin (rvGo l a (5 - k) k n) m)) → (∃ s' y, exC (run M) 7 spec_ReadVar.l0 (spR l a (k, n) x) = some (.normal, spR l a s' y) ∧ (s'.1 ≤ 5 ∧ s'.2 < pw s'.1) ∧ 5 - s'.1 < 5 - (k, n).1 ∧ rvGo l a (5 - s'.1) s'.1 s'.2 = rvGo l a (5 - (k, n).1) (k, n).1 (k, n).2) ∨ (∃ z, exC (run M) 7 spec_ReadVar.l0 (spR l a (k, n) x) = some (rvFin (rvGo l a (5 - (k, n).1) (k, n).1 (k, n).2) z) ∧ (rvFin (rvGo l a (5 - (k, n).1) (k, n).1 (k, n).2) z).1 ≠ .normal) := fun ⟨m, hm⟩ => .inr ⟨m, hm, rvFin_ne _ _⟩
      by_cases hlt : a + k < l.length
      rotate_left
      · have d1 : ¬ (a : Int) + k < l.length := by omega
        refine stop ?_
        simp only [rvGo_end l a _ k n hlt, rvFin]
        simp [spR, spec_ReadVar.l0, d1]
      have d1 : (a : Int) + k < l.length := by omega
      by_cases h5 : k < 5
      rotate_left
      · have : k = 5 := by omega
        subst this
        refine stop ?_
        simp only [Nat.sub_self, rvGo, rvFin]
        simp at d1
        simp [spR, spec_ReadVar.l0, d1, e2]
      have d2 : (a : Int) + k < a + 5 := by omega
      have hs := step_lt (b := l[a + k].toNat) h2
      have hp' := pow_le5 (k := k + 1) (by omega)
      have hd : 5 - k = (5 - (k + 1)) + 1 := by omega
      obtain ⟨b, hb⟩ : ∃ b, l[a + k] = b := ⟨_, rfl⟩
      rw [hb] at hs
      have hbl := b.toNat_lt
      have e3 : IntKind.i64.wrap (b.toNat : Int) = b.toNat := wrap_i64 (by omega) (by omega)
      have q4 : ((b.toNat : Int) % 128 * (pw k : Nat)) = ((b.toNat % 128 * pw k : Nat) : Int) := by push_cast; rfl
      have e4 : IntKind.i64.wrap ((b.toNat : Int) % 128 * (pw k : Nat)) = (b.toNat : Int) % 128 * (pw k : Nat) := by rw [q4]; exact wrap_i64 (by omega) (by omega)
      have e5 : IntKind.i64.wrap ((n : Int) + (b.toNat : Int) % 128 * (pw k : Nat)) = (n : Int) + (b.toNat : Int) % 128 * (pw k : Nat) := by rw [q4]; exact wrap_i64 (by omega) (by omega)
      have e6 : IntKind.i64.wrap (((pw k : Nat) : Int) * 128) = ((pw (k + 1) : Nat) : Int) := by
        rw [show ((pw k : Nat) : Int) * 128 = ((pw (k + 1) : Nat) : Int) by rw [pw_succ]; push_cast; rfl]
        exact wrap_i64 (by omega) (by omega)
      have e7 : IntKind.i64.wrap ((a : Int) + k + 1) = (a : Int) + (k + 1) := by rw [wrap_i64 (by omega) (by omega)]; omega
      have e8 : ((a : Int) + k).toNat = a + k := by omega
      have e9 : (b.toNat : Int).tmod 128 = (b.toNat : Int) % 128 := Int.tmod_eq_emod_of_nonneg (by omega)
      have h1' := spec_l01Var.says k2 (n + b.toNat % 128 * pw k) (by omega)
      simp only [Int.natCast_add, Int.natCast_mul, Int.natCast_emod, Int.cast_ofNat_Int] at h1'
      have f0 : (0 : Int) ≤ (a : Int) + k := by omega
      by_cases hb128 : b.toNat < 128
      rotate_left
      · left
        have b1 : ¬ (b.toNat : Int) < 128 := by omega
        obtain ⟨y, hy⟩ : ∃ y, exC (run M) 7 spec_ReadVar.l0 (spR l a (k, n) x) = some (.normal, spR l a (k + 1, n + b.toNat % 128 * pw k) y) := by
          simp [spR, spec_ReadVar.l0, d1, d2, e2, e3, e4, e5, e6, e7, e8, e9, f0, hlt, bs_get, hb, b1]
        refine ⟨(k + 1, n + b.toNat % 128 * pw k), y, hy, ⟨h5, hs⟩, by simp only; omega, ?_⟩
        simp only [hd]
        rw [rvGo, dif_pos hlt, hb, if_neg hb128]
      refine stop ?_
      have b1 : (b.toNat : Int) < 128 := by omega
      rw [hd, rvGo, dif_pos hlt, hb, if_pos hb128]
      have f1 : (0 : Int) ≤ (a : Int) + (k + 1) := by omega
      have f2 : ((a : Int) + (k + 1)).toNat = a + (k + 1) := by omega
      by_cases hN : n + b.toNat % 128 * pw k ≤ 1000000000
      rotate_left
      · rw [if_neg (fun q => hN q.1)]
        have hN' : 1000000000 < (n : Int) + (b.toNat : Int) % 128 * (pw k : Nat) := by rw [q4]; omega
        simp [rvFin, spR, spec_ReadVar.l0, d1, d2, e2, e3, e4, e5, e6, e7, e8, e9, f0, hlt, bs_get, hb, b1, hN']
        exact ⟨⟨[], [], _⟩, rfl⟩
      have hN' : ¬ 1000000000 < (n : Int) + (b.toNat : Int) % 128 * (pw k : Nat) := by rw [q4]; omega
      obtain ⟨w, hw'⟩ : ∃ w, (l.drop a).take (k + 1) = w := ⟨_, rfl⟩
      have w1 : (l.take (a + (k + 1))).drop a = w := by rw [← hw', List.drop_take]; congr 1; omega
      have w2 : (l.drop a).take (a + (k + 1) - a) = w := by rw [← hw']; congr 1; omega
      have g1 : a ≤ a + (k + 1) ∧ a + (k + 1) ≤ l.length := by omega
      rw [hw']
      by_cases hv : varT (n + b.toNat % 128 * pw k) = w
      · rw [if_pos ⟨hN, hv⟩]
        simp [rvFin, spR, spec_ReadVar.l0, d1, d2, e2, e3, e4, e5, e6, e7, e8, e9, f0, hlt, bs_get, hb, b1, hN', h1', f1, f2, w1, w2, g1, hv]
        exact ⟨by omega, ⟨[], [], _⟩, rfl⟩
      · rw [if_neg (fun q => hv q.2)]
        simp [rvFin, spR, spec_ReadVar.l0, d1, d2, e2, e3, e4, e5, e6, e7, e8, e9, f0, hlt, bs_get, hb, b1, hN', h1', f1, f2, w1, w2, g1, hv]
        exact ⟨⟨[], [], _⟩, rfl⟩)
    7 (0, 0) ⟨by simp, by simp [pw]⟩ (by simp)
  simp only [Nat.sub_zero] at hr
  have hp0 : pw 0 = 1 := rfl
  simp only [readVar]
  rw [if_pos ⟨c1, c2⟩]
  simp only [Int.toNat_natCast]
  cases hg : rvGo l a 5 0 0 with
  | none =>
    simp [spR, hg, rvFin, hp0] at hr
    simp [exB, spec_ReadVar.m, spec_ReadVar.b, List.range_succ, hw, hr]
  | some r =>
    simp [spR, hg, rvFin, hp0] at hr
    simp [exB, spec_ReadVar.m, spec_ReadVar.b, List.range_succ, hw, hr]

def imR (l : List UInt8) (a : Nat) (s : Nat × Nat) (x : Nat) : St := { t := [(0, .c (S l)), (1, .c (I a)), (7, .c (I s.2)), (8, .c (I s.1))], o := [], n := x }
theorem impl_ReadVar.says (h : impl_ReadVar.k M) (l : List UInt8) (hl : l.length ≤ 4611686018427387904) (a : Int) :
    run M 231 [.c (S l), .c (I a)] [] = some (.tup [.c (I (readVar l a).1), .c (I (readVar l a).2.1), .c (.bool (readVar l a).2.2)], []) := by
  obtain ⟨h0, k1, k2⟩ := h
  have hw := impl_within.says k1 a 0 l.length
  refine run_code (b := impl_ReadVar.m) h0 ⟨7, ?_⟩
  by_cases c : 0 ≤ a ∧ a ≤ l.length
  rotate_left
  · have hb : (decide (0 ≤ a) && decide (a ≤ (l.length : Int))) = false := by
      rw [Bool.eq_false_iff]; intro hh; simp only [Bool.and_eq_true, decide_eq_true_eq] at hh; omega
    rw [hb] at hw
    simp [exB, impl_ReadVar.m, impl_ReadVar.b, List.range_succ, hw, readVar, c]
  obtain ⟨c1, c2⟩ := c
  obtain ⟨a, rfl⟩ := Int.eq_ofNat_of_zero_le c1
  have c3 : a ≤ l.length := by omega
  simp [c1, c3] at hw
  obtain ⟨g, hr⟩ := loop_all (f := exC (run M) 7 impl_ReadVar.l0) (imR l a) (fun s => s.1 ≤ 5 ∧ s.2 < pw s.1) (fun s => 5 - s.1) (fun s => rvGo l a (5 - s.1) s.1 s.2) rvFin
    (by
      rintro ⟨k, n⟩ x ⟨h1, h2⟩
      simp only at h1 h2
      have hp := pow_le5 h1
      have stop : (∃ m, exC (run M) 7 impl_ReadVar.l0 (imR l a (k, n) x) = some (rvFin (rvGo l a (5 - k) k n) m)) → (∃ s' y, exC (run M) 7 impl_ReadVar.l0 (imR l a (k, n) x) = some (.normal, imR l a s' y) ∧ (s'.1 ≤ 5 ∧ s'.2 < pw s'.1) ∧ 5 - s'.1 < 5 - (k, n).1 ∧ rvGo l a (5 - s'.1) s'.1 s'.2 = rvGo l a (5 - (k, n).1) (k, n).1 (k, n).2) ∨ (∃ z, exC (run M) 7 impl_ReadVar.l0 (imR l a (k, n) x) = some (rvFin (rvGo l a (5 - (k, n).1) (k, n).1 (k, n).2) z) ∧ (rvFin (rvGo l a (5 - (k, n).1) (k, n).1 (k, n).2) z).1 ≠ .normal) := fun ⟨m, hm⟩ => .inr ⟨m, hm, rvFin_ne _ _⟩
      by_cases h5 : k < 5
      rotate_left
      · have : k = 5 := by omega
        subst this
        refine stop ?_
        simp only [Nat.sub_self, rvGo, rvFin]
        simp [imR, impl_ReadVar.l0]
      have d2 : (k : Int) < 5 := by omega
      have e0 : IntKind.i64.wrap ((a : Int) + k) = (a : Int) + k := wrap_i64 (by omega) (by omega)
      by_cases hlt : a + k < l.length
      rotate_left
      · have d1 : ¬ (a : Int) + k < l.length := by omega
        refine stop ?_
        simp only [rvGo_end l a _ k n hlt, rvFin]
        simp [imR, impl_ReadVar.l0, d1, d2, e0]
      have d1 : (a : Int) + k < l.length := by omega
      have hs := step_lt (b := l[a + k].toNat) h2
      have hp' := pow_le5 (k := k + 1) (by omega)
      have hd : 5 - k = (5 - (k + 1)) + 1 := by omega
      obtain ⟨b, hb⟩ : ∃ b, l[a + k] = b := ⟨_, rfl⟩
      rw [hb] at hs
      have hbl := b.toNat_lt
      have e3 : andI .u8 (b.toNat : Int) 127 = (b.toNat : Int) % 128 := by
        have := and_u8 b.toNat 127 (by omega) (by omega)
        rw [and_127] at this
        rw [show (127 : Int) = ((127 : Nat) : Int) from rfl, this]; omega
      have e3' : IntKind.i64.wrap ((b.toNat : Int) % 128) = (b.toNat : Int) % 128 := wrap_i64 (by omega) (by omega)
      have e4 : IntKind.i64.wrap (7 * (k : Int)) = 7 * (k : Int) := wrap_i64 (by omega) (by omega)
      have e4' : (7 * (k : Int)).toNat = 7 * k := by omega
      have e4'' : min (7 * k) 64 = 7 * k := by omega
      have q4 : ((b.toNat : Int) % 128 * (pw k : Nat)) = ((b.toNat % 128 * pw k : Nat) : Int) := by push_cast; rfl
      have q5 : (2 : Int) ^ (7 * k) = (pw k : Nat) := by
        unfold pw
        rw [Int.pow_mul]; push_cast; rfl
      have e5 : IntKind.i64.wrap ((b.toNat : Int) % 128 * (pw k : Nat)) = (b.toNat : Int) % 128 * (pw k : Nat) := by rw [q4]; exact wrap_i64 (by omega) (by omega)
      have e6 : orI .i64 (n : Int) ((b.toNat : Int) % 128 * (pw k : Nat)) = (n : Int) + (b.toNat : Int) % 128 * (pw k : Nat) := by
        rw [q4, or_i64 n (b.toNat % 128 * pw k) (by omega) (by omega)]
        have := or_high n (b.toNat % 128) k h2
        unfold pw at this ⊢
        rw [this]; push_cast; rfl
      have e7 : IntKind.i64.wrap ((k : Int) + 1) = (k : Int) + 1 := wrap_i64 (by omega) (by omega)
      have e7' : IntKind.i64.wrap ((a : Int) + k + 1) = (a : Int) + (k + 1) := by rw [wrap_i64 (by omega) (by omega)]; omega
      have e8 : ((a : Int) + k).toNat = a + k := by omega
      have h1' := impl_VarText.says k2 (n + b.toNat % 128 * pw k) (by omega)
      simp only [Int.natCast_add, Int.natCast_mul, Int.natCast_emod, Int.cast_ofNat_Int] at h1'
      have f0 : (0 : Int) ≤ (a : Int) + k := by omega
      have f3 : (0 : Int) ≤ 7 * (k : Int) := by omega
      have f4 : ¬ 7 * (k : Int) < 0 := by omega
      by_cases hb128 : b.toNat < 128
      rotate_left
      · left
        have b1 : 127 < (b.toNat : Int) := by omega
        obtain ⟨y, hy⟩ : ∃ y, exC (run M) 7 impl_ReadVar.l0 (imR l a (k, n) x) = some (.normal, imR l a (k + 1, n + b.toNat % 128 * pw k) y) := by
          simp [imR, impl_ReadVar.l0, d1, d2, e0, e3, e3', e4, e4', e4'', e5, e6, e7, e8, q5, f0, f3, f4, hlt, bs_get, hb, b1, IntKind.bits]
        refine ⟨(k + 1, n + b.toNat % 128 * pw k), y, hy, ⟨h5, hs⟩, by simp only; omega, ?_⟩
        simp only [hd]
        rw [rvGo, dif_pos hlt, hb, if_neg hb128]
      refine stop ?_
      have b1 : ¬ 127 < (b.toNat : Int) := by omega
      rw [hd, rvGo, dif_pos hlt, hb, if_pos hb128]
      have f1 : (0 : Int) ≤ (a : Int) + (k + 1) := by omega
      have f2 : ((a : Int) + (k + 1)).toNat = a + (k + 1) := by omega
      by_cases hN : n + b.toNat % 128 * pw k ≤ 1000000000
      rotate_left
      · rw [if_neg (fun q => hN q.1)]
        simp only [hN, if_false, decide_false] at h1'
        simp [rvFin, imR, impl_ReadVar.l0, d1, d2, e0, e3, e3', e4, e4', e4'', e5, e6, e7, e8, q5, f0, f3, f4, hlt, bs_get, hb, b1, h1', IntKind.bits]
        exact ⟨⟨[], [], _⟩, rfl⟩
      simp only [hN, if_true, decide_true] at h1'
      obtain ⟨w, hw'⟩ : ∃ w, (l.drop a).take (k + 1) = w := ⟨_, rfl⟩
      have w1 : (l.take (a + (k + 1))).drop a = w := by rw [← hw', List.drop_take]; congr 1; omega
      have w2 : (l.drop a).take (a + (k + 1) - a) = w := by rw [← hw']; congr 1; omega
      have g1 : a ≤ a + (k + 1) ∧ a + (k + 1) ≤ l.length := by omega
      rw [hw']
      by_cases hv : varT (n + b.toNat % 128 * pw k) = w
      · rw [if_pos ⟨hN, hv⟩]
        simp [rvFin, imR, impl_ReadVar.l0, d1, d2, e0, e3, e3', e4, e4', e4'', e5, e6, e7, e7', e8, q5, f0, f3, f4, hlt, bs_get, hb, b1, h1', f1, f2, w1, w2, g1, hv, IntKind.bits]
        exact ⟨by omega, ⟨[], [], _⟩, rfl⟩
      · rw [if_neg (fun q => hv q.2)]
        simp [rvFin, imR, impl_ReadVar.l0, d1, d2, e0, e3, e3', e4, e4', e4'', e5, e6, e7, e7', e8, q5, f0, f3, f4, hlt, bs_get, hb, b1, h1', f1, f2, w1, w2, g1, hv, IntKind.bits]
        exact ⟨⟨[], [], _⟩, rfl⟩)
    7 (0, 0) ⟨by simp, by simp [pw]⟩ (by simp)
  simp only [Nat.sub_zero] at hr
  simp only [readVar]
  rw [if_pos ⟨c1, c2⟩]
  simp only [Int.toNat_natCast]
  cases hg : rvGo l a 5 0 0 with
  | none =>
    simp [imR, hg, rvFin] at hr
    simp [exB, impl_ReadVar.m, impl_ReadVar.b, List.range_succ, hw, hr]
  | some r =>
    simp [imR, hg, rvFin] at hr
    simp [exB, impl_ReadVar.m, impl_ReadVar.b, List.range_succ, hw, hr]

/-- a short text read from a place on -/
def readShort (l : List UInt8) (a : Int) : List UInt8 × Nat × Bool :=
  if (readVar l a).2.2 = true ∧ (readVar l a).1 ≤ 20000 ∧ (readVar l a).1 + (readVar l a).2.1 ≤ l.length then ((l.drop (readVar l a).2.1).take (readVar l a).1, (readVar l a).2.1 + (readVar l a).1, true) else ([], 0, false)
theorem spec_ReadShort.says (h : spec_ReadShort.k M) (l : List UInt8) (hl : l.length ≤ 4611686018427387904) (a : Int) :
    run M 206 [.c (S l), .c (I a)] [] = some (.tup [.c (S (readShort l a).1), .c (I (readShort l a).2.1), .c (.bool (readShort l a).2.2)], []) := by
  have h1 := spec_ReadVar.says h.2 l hl a
  obtain ⟨q1, q2, _⟩ := readVar_le l a
  refine run_code (b := spec_ReadShort.m) h.1 ⟨0, ?_⟩
  unfold readShort
  generalize (readVar l a).1 = n at *
  generalize (readVar l a).2.1 = f at *
  generalize (readVar l a).2.2 = ok at *
  cases ok with
  | false => simp [exB, spec_ReadShort.m, spec_ReadShort.b, List.range_succ, h1]
  | true =>
    by_cases c1 : n ≤ 20000
    rotate_left
    · have c1' : 20000 < (n : Int) := by omega
      simp [exB, spec_ReadShort.m, spec_ReadShort.b, List.range_succ, h1, c1, c1']
    have c1' : ¬ 20000 < (n : Int) := by omega
    have e1 : IntKind.i64.wrap ((l.length : Int) - f) = (l.length : Int) - f := wrap_i64 (by omega) (by omega)
    by_cases c2 : n + f ≤ l.length
    rotate_left
    · have c2' : (l.length : Int) - f < n := by omega
      simp [exB, spec_ReadShort.m, spec_ReadShort.b, List.range_succ, h1, c1, c1', c2, c2', e1]
    have c2' : ¬ (l.length : Int) - f < n := by omega
    have e2 : IntKind.i64.wrap ((f : Int) + n) = (f : Int) + n := wrap_i64 (by omega) (by omega)
    have e3 : ((f : Int) + n).toNat = f + n := by omega
    have e4 : (0 : Int) ≤ (f : Int) + n := by omega
    have e5 : f ≤ f + n ∧ f + n ≤ l.length := by omega
    obtain ⟨w, hw⟩ : ∃ w, (l.drop f).take n = w := ⟨_, rfl⟩
    have w1 : (l.take (f + n)).drop f = w := by rw [← hw, List.drop_take]; congr 1; omega
    have w2 : (l.drop f).take (f + n - f) = w := by rw [← hw]; congr 1; omega
    simp [exB, spec_ReadShort.m, spec_ReadShort.b, List.range_succ, h1, c1, c1', c2, c2', e1, e2, e3, e4, e5, hw, w1, w2]
theorem impl_ReadShort.says (h : impl_ReadShort.k M) (l : List UInt8) (hl : l.length ≤ 4611686018427387904) (a : Int) :
    run M 207 [.c (S l), .c (I a)] [] = some (.tup [.c (S (readShort l a).1), .c (I (readShort l a).2.1), .c (.bool (readShort l a).2.2)], []) := by
  have h1 := impl_ReadVar.says h.2 l hl a
  obtain ⟨q1, q2, _⟩ := readVar_le l a
  refine run_code (b := impl_ReadShort.m) h.1 ⟨0, ?_⟩
  unfold readShort
  generalize (readVar l a).1 = n at *
  generalize (readVar l a).2.1 = f at *
  generalize (readVar l a).2.2 = ok at *
  cases ok with
  | false => simp [exB, impl_ReadShort.m, impl_ReadShort.b, List.range_succ, h1]
  | true =>
    by_cases c1 : n ≤ 20000
    rotate_left
    · have c1' : 20000 < (n : Int) := by omega
      simp [exB, impl_ReadShort.m, impl_ReadShort.b, List.range_succ, h1, c1, c1']
    have c1' : ¬ 20000 < (n : Int) := by omega
    have e1 : IntKind.i64.wrap ((l.length : Int) - f) = (l.length : Int) - f := wrap_i64 (by omega) (by omega)
    by_cases c2 : n + f ≤ l.length
    rotate_left
    · have c2' : (l.length : Int) - f < n := by omega
      simp [exB, impl_ReadShort.m, impl_ReadShort.b, List.range_succ, h1, c1, c1', c2, c2', e1]
    have c2' : ¬ (l.length : Int) - f < n := by omega
    have e2 : IntKind.i64.wrap ((f : Int) + n) = (f : Int) + n := wrap_i64 (by omega) (by omega)
    have e3 : ((f : Int) + n).toNat = f + n := by omega
    have e4 : (0 : Int) ≤ (f : Int) + n := by omega
    have e5 : f ≤ f + n ∧ f + n ≤ l.length := by omega
    obtain ⟨w, hw⟩ : ∃ w, (l.drop f).take n = w := ⟨_, rfl⟩
    have w1 : (l.take (f + n)).drop f = w := by rw [← hw, List.drop_take]; congr 1; omega
    have w2 : (l.drop f).take (f + n - f) = w := by rw [← hw]; congr 1; omega
    simp [exB, impl_ReadShort.m, impl_ReadShort.b, List.range_succ, h1, c1, c1', c2, c2', e1, e2, e3, e4, e5, hw, w1, w2]
end Mx

/-
  Texts of mails and boxes; the law of BoxText.
-/
namespace Mx
open Go
variable {M : Nat → Option Body}
theorem inR_iff {a n b : Int} : inR a n b = true ↔ a ≤ n ∧ n ≤ b := by simp [inR]
def varI (n : Int) : List UInt8 := varT n.toNat
theorem varI_len {n : Int} (h : n ≤ 9223372036854775807) : (varI n).length ≤ 10 := varT_len (by omega)
theorem spec_l01Var.int (h : spec_l01Var.k M) (n : Int) (h0 : 0 ≤ n) (h1 : n ≤ 9223372036854775807) : run M 99 [.c (I n)] [] = some (.c (S (varI n)), []) := by
  have := spec_l01Var.says h n.toNat (by omega)
  rw [show ((n.toNat : Nat) : Int) = n by omega] at this
  exact this
theorem impl_VarText.int (h : impl_VarText.k M) (n : Int) (h0 : 0 ≤ n) (h1 : n ≤ 1000000000) : run M 230 [.c (I n)] [] = some (.tup [.c (S (varI n)), .c (.bool true)], []) := by
  have := impl_VarText.says h n.toNat (by omega)
  rw [show ((n.toNat : Nat) : Int) = n by omega, if_pos (by omega), decide_eq_true (by omega)] at this
  exact this
def isVar (n : Int) : Prop := 0 ≤ n ∧ n ≤ 1000000000
theorem isVar_len {n : Int} (h : isVar n) : (varI n).length ≤ 10 := varI_len (by have := h.2; omega)
def vrS (l : List Int) (i : Nat) (s : List UInt8) (x : Nat) : St := { t := [(3, .c (S s)), (8, .c (ints l)), (9, .c (I l.length)), (10, .c (I i))], o := [], n := x }
def vrE (l : List Int) (s : List UInt8) (x : Nat) : St := { t := [(3, .c (S s)), (8, .c (ints l)), (9, .c (I l.length)), (10, .c (I l.length)), (11, .c (.bool false))], o := [], n := x }
theorem impl_vars.says (h : impl_vars.k M) (l : List Int) (hl : l.length ≤ 1048576) (hv : ∀ n ∈ l, isVar n) : run M 151 [.c (ints l)] [] = some (.c (S (texts varI l)), []) := by
  refine run_code (b := impl_vars.m) h.1 ⟨l.length + 1, ?_⟩
  obtain ⟨g, hr⟩ := text_loop (f := exC (run M) (l.length + 1) impl_vars.l0) l varI 10 0 (fun n hn => isVar_len (hv n hn)) (vrS l) 0 (vrE l)
    (fun i hi s x hs => by
      have e5 : IntKind.i64.wrap ((i : Int) + 1) = (i : Int) + 1 := wrap_i64 (by omega) (by omega)
      have h1 := impl_VarText.int h.2 l[i] (hv _ (List.getElem_mem hi)).1 (hv _ (List.getElem_mem hi)).2
      have h2 := isVar_len (hv _ (List.getElem_mem hi))
      simp (maxSteps := 1000000) (disch := (first | omega | (simp; done) | (simp; omega))) [impl_vars.l0, List.range_succ, bs_get, List.take_of_length_le, setAt, str_add, vrS, hi, h1, e5])
    (fun s x => by simp (maxSteps := 1000000) [impl_vars.l0, List.range_succ, bs_get, setAt, vrS, vrE]) [] (by simp)
  simp [vrS, vrE] at hr
  simp (maxSteps := 1000000) [exB, impl_vars.m, impl_vars.b, List.range_succ, bs_get, setAt, hr]

/-! ## mails -/
def regT (r : Reg) : List UInt8 := texts varI [r.val, r.time, r.who]
def mailT (m : Mail) : List UInt8 := texts varI [m.gid, m.uid] ++ texts regT m.flags ++ shortT m.text
theorem regOk_vars {r : Reg} (h : regOk r = true) : isVar r.val ∧ isVar r.time ∧ isVar r.who := by
  simp only [regOk, stampOk, Bool.and_eq_true, inR_iff] at h
  unfold isVar; omega
theorem flagsOk_regs {l : List Reg} (h : flagsOk l = true) : l.length = 3 ∧ ∀ r ∈ l, regOk r = true := by
  simp only [flagsOk, Bool.and_eq_true, decide_eq_true_eq, Option.isNone_iff_eq_none, firstN_isNone] at h
  refine ⟨h.2, fun r hr => ?_⟩
  obtain ⟨i, hi, e⟩ := List.getElem_of_mem hr
  have := h.1 i hi
  rw [badFlag_at hi, e] at this
  simp at this
  exact this.1
theorem mailOk_vars {m : Mail} (h : mailOk m = true) : isVar m.gid ∧ isVar m.uid ∧ m.flags.length = 3 ∧ (∀ r ∈ m.flags, regOk r = true) ∧ m.text.length ≤ 60 := by
  simp only [mailOk, Bool.and_eq_true, inR_iff, decide_eq_true_eq] at h
  have hf := flagsOk_regs h.1.2
  exact ⟨⟨by omega, by omega⟩, ⟨by omega, by omega⟩, hf.1, hf.2, h.2⟩
theorem regT_len {r : Reg} (h : regOk r = true) : (regT r).length ≤ 30 := by
  have h1 := regOk_vars h
  have := isVar_len h1.1; have := isVar_len h1.2.1; have := isVar_len h1.2.2
  simp [regT, texts]; omega
theorem mailT_len {m : Mail} (h : mailOk m = true) : (mailT m).length ≤ 1000 := by
  obtain ⟨h1, h2, h3, h4, h5⟩ := mailOk_vars h
  have := isVar_len h1; have := isVar_len h2
  have h6 := texts_len regT m.flags 30 fun r hr => regT_len (h4 r hr)
  have h7 := varT_len (n := m.text.length) (by omega)
  rw [h3] at h6
  simp only [mailT, shortT, List.length_append]
  have : (texts varI [m.gid, m.uid]).length ≤ 20 := by simp [texts]; omega
  omega
def mtS (m : Mail) (i : Nat) (s : List UInt8) (x : Nat × Nat) : St := { t := [(1, .c (.ptr 1 x.1 0 0)), (4, .c (S s)), (17, .c (regs m.flags)), (18, .c (I m.flags.length)), (19, .c (I i))], o := [(1, ⟨x.1, 4, true, true, [encMail m]⟩)], n := x.2 }
def mtE (m : Mail) (s : List UInt8) (x : Nat × Nat) : St := { t := [(1, .c (.ptr 1 x.1 0 0)), (4, .c (S s)), (17, .c (regs m.flags)), (18, .c (I m.flags.length)), (19, .c (I m.flags.length)), (20, .c (.bool false))], o := [(1, ⟨x.1, 4, true, true, [encMail m]⟩)], n := x.2 }
theorem impl_MailText.says (h : impl_MailText.k M) (m : Mail) (hl : m.flags.length ≤ 1048576) : run M 213 [.a (encMail m)] [] = some (.tup [.c (S (if mailOk m = true then mailT m else [])), .c (.bool (mailOk m))], []) := by
  obtain ⟨h0, ks, kv, ko⟩ := h
  have h1 := impl_MailOk.says ko m hl
  refine run_code (b := impl_MailText.m) h0 ⟨m.flags.length + 1, ?_⟩
  simp only [encMail] at h1
  cases c : mailOk m
  · rw [c] at h1
    simp (maxSteps := 1000000) [exB, impl_MailText.m, impl_MailText.b, List.range_succ, bs_get, setAt, h1]
  rw [c] at h1
  obtain ⟨v1, v2, v3, v4, v5⟩ := mailOk_vars c
  have h2 := impl_vars.says kv [m.gid, m.uid] (by simp) (by simp; exact ⟨v1, v2⟩)
  have h3 := impl_short.says ks m.text (by omega)
  have l1 : (texts varI [m.gid, m.uid]).length ≤ 20 := by have := isVar_len v1; have := isVar_len v2; simp [texts]; omega
  obtain ⟨g, hr⟩ := text_loop (f := exC (run M) (m.flags.length + 1) impl_MailText.l0) m.flags regT 30 20 (fun r hr => regT_len (v4 r hr)) (mtS m) 0 (mtE m)
    (fun i hi s x hs => by
      obtain ⟨v, x⟩ := x
      have e5 : IntKind.i64.wrap ((i : Int) + 1) = (i : Int) + 1 := wrap_i64 (by omega) (by omega)
      have hx := regOk_vars (v4 _ (List.getElem_mem hi))
      have h4 := impl_vars.says kv [m.flags[i].val, m.flags[i].time, m.flags[i].who] (by simp) (by simp; exact ⟨hx.1, hx.2.1, hx.2.2⟩)
      have h5 := regT_len (v4 _ (List.getElem_mem hi))
      change run M 151 _ _ = some (.c (S (regT m.flags[i])), []) at h4
      simp only [ints, irow, List.map_cons, List.map_nil] at h4
      simp only [Prod.exists]
      simp (maxSteps := 1000000) (disch := (first | omega | (simp; done) | (simp; omega))) [impl_MailText.l0, List.range_succ, bs_get, List.take_of_length_le, setAt, str_add, mtS, hi, h4, e5, encReg])
    (fun s x => by
      obtain ⟨v, x⟩ := x
      simp only [Prod.exists]
      simp (maxSteps := 1000000) [impl_MailText.l0, List.range_succ, bs_get, setAt, mtS, mtE]) (texts varI [m.gid, m.uid]) l1
  have l2 := texts_len regT m.flags 30 fun r hr => regT_len (v4 r hr)
  have l3 := varT_len (n := m.text.length) (by omega)
  have l4 : (shortT m.text).length ≤ 70 := by simp [shortT]; omega
  have l5 : (texts varI [m.gid, m.uid] ++ texts regT m.flags).length + (shortT m.text).length ≤ 4611686018427387904 := by simp; omega
  simp only [ints, irow, List.map_cons, List.map_nil] at h2
  generalize hp : texts varI [m.gid, m.uid] = p at *
  simp [mtS, mtE] at hr
  simp at l5
  simp (maxSteps := 1000000) (disch := (first | omega | (simp; done) | (simp; omega))) [exB, impl_MailText.m, impl_MailText.b, List.range_succ, bs_get, List.take_of_length_le, setAt, str_add, hr, h1, h2, h3, mailT, hp]
def msS (m : Mail) (i : Nat) (s : List UInt8) (x : Nat × Nat) : St := { t := [(1, .c (.ptr 1 x.1 0 0)), (4, .c (S s)), (5, .c (I i))], o := [(1, ⟨x.1, 4, true, true, [encMail m]⟩)], n := x.2 }
def msE (m : Mail) (s : List UInt8) (x : Nat × Nat) : St := { t := [(1, .c (.ptr 1 x.1 0 0)), (4, .c (S s)), (5, .c (I m.flags.length)), (20, .c (.bool false))], o := [(1, ⟨x.1, 4, true, true, [encMail m]⟩)], n := x.2 }
theorem spec_MailText.says (h : spec_MailText.k M) (m : Mail) (hl : m.flags.length ≤ 1048576) : run M 122 [.a (encMail m)] [] = some (.tup [.c (S (if mailOk m = true then mailT m else [])), .c (.bool (mailOk m))], []) := by
  obtain ⟨h0, kv, ko⟩ := h
  have h1 := spec_MailOk.says ko m hl
  refine run_code (b := spec_MailText.m) h0 ⟨m.flags.length + 1, ?_⟩
  simp only [encMail] at h1
  cases c : mailOk m
  · rw [c] at h1
    simp (maxSteps := 1000000) [exB, spec_MailText.m, spec_MailText.b, List.range_succ, bs_get, setAt, h1]
  rw [c] at h1
  obtain ⟨v1, v2, v3, v4, v5⟩ := mailOk_vars c
  have h2 := spec_l01Var.int kv m.gid v1.1 (by have := v1.2; omega)
  have h2' := spec_l01Var.int kv m.uid v2.1 (by have := v2.2; omega)
  have h3 := spec_l01Var.says kv m.text.length (by omega)
  have l0 := isVar_len v1
  have l0' := isVar_len v2
  obtain ⟨g, hr⟩ := text_loop (f := exC (run M) (m.flags.length + 1) spec_MailText.l0) m.flags regT 30 20 (fun r hr => regT_len (v4 r hr)) (msS m) 0 (msE m)
    (fun i hi s x hs => by
      obtain ⟨v, x⟩ := x
      have e5 : IntKind.i64.wrap ((i : Int) + 1) = (i : Int) + 1 := wrap_i64 (by omega) (by omega)
      have hx := regOk_vars (v4 _ (List.getElem_mem hi))
      have h4 := spec_l01Var.int kv m.flags[i].val hx.1.1 (by have := hx.1.2; omega)
      have h5 := spec_l01Var.int kv m.flags[i].time hx.2.1.1 (by have := hx.2.1.2; omega)
      have h6 := spec_l01Var.int kv m.flags[i].who hx.2.2.1 (by have := hx.2.2.2; omega)
      have l1 := isVar_len hx.1
      have l2 := isVar_len hx.2.1
      have l3 := isVar_len hx.2.2
      simp only [Prod.exists]
      simp (maxSteps := 1000000) (disch := (first | omega | (simp; done) | (simp; omega))) [spec_MailText.l0, List.range_succ, bs_get, List.take_of_length_le, setAt, str_add, msS, hi, h4, h5, h6, e5, encReg, regT, texts])
    (fun s x => by
      obtain ⟨v, x⟩ := x
      simp only [Prod.exists]
      simp (maxSteps := 1000000) [spec_MailText.l0, List.range_succ, bs_get, setAt, msS, msE]) (varI m.gid ++ varI m.uid) (by simp; omega)
  have l2 := texts_len regT m.flags 30 fun r hr => regT_len (v4 r hr)
  have l3 := varT_len (n := m.text.length) (by omega)
  have hp : texts varI [m.gid, m.uid] = varI m.gid ++ varI m.uid := by simp [texts]
  have hm : mailT m = varI m.gid ++ (varI m.uid ++ (texts regT m.flags ++ (varT m.text.length ++ m.text))) := by simp [mailT, hp, shortT]
  simp [msS, msE] at hr
  rw [hm]
  simp (maxSteps := 1000000) (disch := (first | omega | (simp; done) | (simp; omega))) [exB, spec_MailText.m, spec_MailText.b, List.range_succ, bs_get, List.take_of_length_le, setAt, str_add, hr, h1, h2, h2', h3]

/-! ## boxes -/
theorem stampOk_vars {t w : Int} (h : stampOk t w = true) : isVar t ∧ isVar w := by
  simp only [stampOk, Bool.and_eq_true, inR_iff] at h
  unfold isVar; omega
theorem gidsOk_vars {l : List Int} {most : Int} (h : gidsOk l most = true) : (l.length : Int) ≤ most ∧ ∀ n ∈ l, 1 ≤ n ∧ n ≤ 9999 := by
  simp only [gidsOk, Bool.and_eq_true, decide_eq_true_eq, Option.isNone_iff_eq_none, firstN_isNone] at h
  refine ⟨h.2, fun r hr => ?_⟩
  obtain ⟨i, hi, e⟩ := List.getElem_of_mem hr
  have := h.1 i hi
  rw [badGid_at hi, e] at this
  simp at this
  exact inR_iff.1 this.1
theorem nameOk_len {l : List UInt8} (h : nameOk l = true) : 1 ≤ l.length ∧ l.length ≤ 12 := by
  simp only [nameOk, Bool.and_eq_true, inR_iff] at h
  omega
theorem boxOk_vars {b : Box} (h : boxOk b = true) : isVar b.gid ∧ b.name.length ≤ 12 ∧ isVar b.time ∧ isVar b.who ∧ isVar b.next ∧ b.mails.length ≤ 10 ∧ b.gone.length ≤ 40 ∧ (∀ n ∈ b.gone, isVar n) ∧ ∀ m ∈ b.mails, mailOk m = true := by
  simp only [boxOk, Bool.and_eq_true, decide_eq_true_eq, Option.isNone_iff_eq_none, firstN_isNone, inR_iff] at h
  obtain ⟨⟨⟨⟨⟨⟨h1, h2⟩, h3⟩, h4⟩, h5⟩, h6⟩, h7⟩ := h
  have hn := nameOk_len h2
  have hs := stampOk_vars h3
  have hg := gidsOk_vars h6
  refine ⟨⟨by omega, by omega⟩, hn.2, hs.1, hs.2, ⟨by omega, by omega⟩, h5, by omega, fun n hn => ⟨by have := hg.2 n hn; omega, by have := hg.2 n hn; omega⟩, fun m hm => ?_⟩
  obtain ⟨i, hi, e⟩ := List.getElem_of_mem hm
  have := h7 i hi
  rw [badMail_at hi, e] at this
  simp at this
  exact this.1.1.1.1
/-- ahead of the mails -/
def boxP (b : Box) : List UInt8 := varI b.gid ++ (varT b.name.length ++ (b.name ++ (varI b.time ++ (varI b.who ++ (varI b.next ++ varT b.mails.length)))))
def boxT (b : Box) : List UInt8 := boxP b ++ (texts mailT b.mails ++ (varT b.gone.length ++ texts varI b.gone))
theorem boxP_len {b : Box} (h : boxOk b = true) : (boxP b).length ≤ 200 := by
  obtain ⟨h1, h2, h3, h4, h5, h6, _⟩ := boxOk_vars h
  have := isVar_len h1; have := isVar_len h3; have := isVar_len h4; have := isVar_len h5
  have := varT_len (n := b.name.length) (by omega); have := varT_len (n := b.mails.length) (by omega)
  simp [boxP]; omega
def bxS (b : Box) (i : Nat) (s : List UInt8) (x : Nat × Nat) : St := { t := [(1, .c (.ptr 1 x.1 0 0)), (3, .c (S s)), (31, .c (mails b.mails)), (32, .c (I b.mails.length)), (33, .c (I i))], o := [(1, ⟨x.1, 7, true, true, [encBox b]⟩)], n := x.2 }
def bxE (b : Box) (s : List UInt8) (x : Nat × Nat) : St := { t := [(1, .c (.ptr 1 x.1 0 0)), (3, .c (S s)), (31, .c (mails b.mails)), (32, .c (I b.mails.length)), (33, .c (I b.mails.length)), (34, .c (.bool false))], o := [(1, ⟨x.1, 7, true, true, [encBox b]⟩)], n := x.2 }
set_option maxHeartbeats 1000000 in
theorem impl_boxText.says (h : impl_boxText.k M) (b : Box) (c : boxOk b = true) : run M 123 [.a (encBox b)] [] = some (.c (S (boxT b)), []) := by
  obtain ⟨h0, ks, kv, km⟩ := h
  refine run_code (b := impl_boxText.m) h0 ⟨b.mails.length + 1, ?_⟩
  obtain ⟨v1, v2, v3, v4, v5, v6, v7, v8, v9⟩ := boxOk_vars c
  have h1 := impl_vars.says kv [b.gid] (by simp) (by simp; exact v1)
  have h2 := impl_short.says ks b.name (by omega)
  have h3 := impl_vars.says kv [b.time, b.who, b.next, b.mails.length] (by simp) (by simp; exact ⟨v3, v4, v5, by unfold isVar; omega⟩)
  have h4 := impl_vars.says kv [b.gone.length] (by simp) (by simp; unfold isVar; omega)
  have h5 := impl_vars.says kv b.gone (by omega) v8
  have l1 := isVar_len v1; have l3 := isVar_len v3; have l4 := isVar_len v4; have l5 := isVar_len v5
  have l6 := varT_len (n := b.name.length) (by omega); have l7 := varT_len (n := b.mails.length) (by omega); have l8 := varT_len (n := b.gone.length) (by omega)
  have l9 := texts_len varI b.gone 10 fun n hn => isVar_len (v8 n hn)
  have l10 := texts_len mailT b.mails 1000 fun m hm => mailT_len (v9 m hm)
  have hp := boxP_len c
  obtain ⟨g, hr⟩ := text_loop (f := exC (run M) (b.mails.length + 1) impl_boxText.l0) b.mails mailT 1000 200 (fun m hm => mailT_len (v9 m hm)) (bxS b) 0 (bxE b)
    (fun i hi s x hs => by
      obtain ⟨v, x⟩ := x
      have e5 : IntKind.i64.wrap ((i : Int) + 1) = (i : Int) + 1 := wrap_i64 (by omega) (by omega)
      have hx := v9 _ (List.getElem_mem hi)
      have h6 := impl_MailText.says km b.mails[i] (by have := (mailOk_vars hx).2.2.1; omega)
      rw [if_pos hx, hx] at h6
      have h7 := mailT_len hx
      simp only [encMail] at h6
      simp only [Prod.exists]
      simp (maxSteps := 1000000) (disch := (first | omega | (simp; done) | (simp; omega))) [impl_boxText.l0, List.range_succ, bs_get, List.take_of_length_le, setAt, str_add, bxS, hi, h6, e5, encMail])
    (fun s x => by
      obtain ⟨v, x⟩ := x
      simp only [Prod.exists]
      simp (maxSteps := 1000000) [impl_boxText.l0, List.range_succ, bs_get, setAt, bxS, bxE]) (boxP b) hp
  have q1 : texts varI [b.gid] = varI b.gid := by simp [texts]
  have q3 : texts varI [b.time, b.who, b.next, (b.mails.length : Int)] = varI b.time ++ (varI b.who ++ (varI b.next ++ varT b.mails.length)) := by simp [texts, varI]
  have q4 : texts varI [(b.gone.length : Int)] = varT b.gone.length := by simp [texts, varI]
  rw [q1] at h1
  rw [q3] at h3
  rw [q4] at h4
  simp only [ints, irow, List.map_cons, List.map_nil, shortT] at h1 h2 h3 h4
  simp [bxS, bxE] at hr
  have e1 := str_add (varI b.gid) (varT b.name.length ++ b.name) (by simp; omega)
  have e2 := str_add (varI b.gid ++ (varT b.name.length ++ b.name)) (varI b.time ++ (varI b.who ++ (varI b.next ++ varT b.mails.length))) (by simp; omega)
  have e3 : boxP b = (varI b.gid ++ (varT b.name.length ++ b.name)) ++ (varI b.time ++ (varI b.who ++ (varI b.next ++ varT b.mails.length))) := by simp [boxP]
  rw [← e3] at e2
  have e4 := str_add (boxP b ++ texts mailT b.mails) (varT b.gone.length) (by simp; omega)
  have e5 := str_add (boxP b ++ texts mailT b.mails ++ varT b.gone.length) (texts varI b.gone) (by simp; omega)
  simp only [List.append_assoc] at e1 e2 e4 e5
  simp only [boxT]
  generalize boxP b = p at *
  generalize texts mailT b.mails = q at *
  generalize texts varI b.gone = r at *
  simp (maxSteps := 1000000) [exB, impl_boxText.m, impl_boxText.b, List.range_succ, bs_get, setAt, hr, h1, h2, h3, h4, h5, e1, e2, e4, e5, List.take_of_length_le]
theorem impl_BoxText.says (h : impl_BoxText.k M) (b : Box) (hml : b.mails.length ≤ 1048576) (hgl : b.gone.length ≤ 4611686018427387904) (hnl : b.name.length ≤ 4611686018427387904) (hw : ∀ m ∈ b.mails, m.flags.length ≤ 1048576) :
    run M 35 [.a (encBox b)] [] = some (.tup [.c (S (if boxOk b = true then boxT b else [])), .c (.bool (boxOk b))], []) := by
  obtain ⟨h0, ko, kt⟩ := h
  have h1 := impl_BoxOk.says ko b hml hgl hnl hw
  refine run_code (b := impl_BoxText.m) h0 ⟨0, ?_⟩
  simp only [encBox] at h1
  cases c : boxOk b
  · rw [c] at h1
    simp (maxSteps := 1000000) [exB, impl_BoxText.m, impl_BoxText.b, List.range_succ, bs_get, setAt, h1]
  rw [c] at h1
  have h2 := impl_boxText.says kt b c
  simp only [encBox] at h2
  simp (maxSteps := 1000000) [exB, impl_BoxText.m, impl_BoxText.b, List.range_succ, bs_get, setAt, h1, h2]
def btS (b : Box) (i : Nat) (s : List UInt8) (x : Nat × Nat) : St := { t := [(1, .c (.ptr 1 x.1 0 0)), (4, .c (S s)), (5, .c (I i))], o := [(1, ⟨x.1, 7, true, true, [encBox b]⟩)], n := x.2 }
def btE (b : Box) (s : List UInt8) (x : Nat × Nat) : St := { t := [(1, .c (.ptr 1 x.1 0 0)), (4, .c (S s)), (5, .c (I b.mails.length)), (46, .c (.bool false))], o := [(1, ⟨x.1, 7, true, true, [encBox b]⟩)], n := x.2 }
def bgS (b : Box) (i : Nat) (s : List UInt8) (x : Nat × Nat) : St := { t := [(1, .c (.ptr 1 x.1 0 0)), (4, .c (S s)), (8, .c (I i))], o := [(1, ⟨x.1, 7, true, true, [encBox b]⟩)], n := x.2 }
def bgE (b : Box) (s : List UInt8) (x : Nat × Nat) : St := { t := [(1, .c (.ptr 1 x.1 0 0)), (4, .c (S s)), (8, .c (I b.gone.length)), (71, .c (.bool false))], o := [(1, ⟨x.1, 7, true, true, [encBox b]⟩)], n := x.2 }
set_option maxHeartbeats 1000000 in
theorem spec_BoxText.says (h : spec_BoxText.k M) (b : Box) (hml : b.mails.length ≤ 1048576) (hgl : b.gone.length ≤ 4611686018427387904) (hnl : b.name.length ≤ 4611686018427387904) (hw : ∀ m ∈ b.mails, m.flags.length ≤ 1048576) :
    run M 34 [.a (encBox b)] [] = some (.tup [.c (S (if boxOk b = true then boxT b else [])), .c (.bool (boxOk b))], []) := by
  obtain ⟨h0, ko, kv, km⟩ := h
  have h1 := spec_BoxOk.says ko b hml hgl hnl hw
  refine run_code (b := spec_BoxText.m) h0 ⟨b.mails.length + b.gone.length + 1, ?_⟩
  simp only [encBox] at h1
  cases c : boxOk b
  · rw [c] at h1
    simp (maxSteps := 1000000) [exB, spec_BoxText.m, spec_BoxText.b, List.range_succ, bs_get, setAt, h1]
  rw [c] at h1
  obtain ⟨v1, v2, v3, v4, v5, v6, v7, v8, v9⟩ := boxOk_vars c
  have g1 := spec_l01Var.int kv b.gid v1.1 (by have := v1.2; omega)
  have g2 := spec_l01Var.says kv b.name.length (by omega)
  have g3 := spec_l01Var.int kv b.time v3.1 (by have := v3.2; omega)
  have g4 := spec_l01Var.int kv b.who v4.1 (by have := v4.2; omega)
  have g5 := spec_l01Var.int kv b.next v5.1 (by have := v5.2; omega)
  have g6 := spec_l01Var.says kv b.mails.length (by omega)
  have g7 := spec_l01Var.says kv b.gone.length (by omega)
  have l1 := isVar_len v1; have l3 := isVar_len v3; have l4 := isVar_len v4; have l5 := isVar_len v5
  have l6 := varT_len (n := b.name.length) (by omega); have l7 := varT_len (n := b.mails.length) (by omega); have l8 := varT_len (n := b.gone.length) (by omega)
  have l9 := texts_len varI b.gone 10 fun n hn => isVar_len (v8 n hn)
  have l10 := texts_len mailT b.mails 1000 fun m hm => mailT_len (v9 m hm)
  have hp := boxP_len c
  obtain ⟨g, hr⟩ := text_loop (f := exC (run M) (b.mails.length + b.gone.length + 1) spec_BoxText.l0) b.mails mailT 1000 200 (fun m hm => mailT_len (v9 m hm)) (btS b) 0 (btE b)
    (fun i hi s x hs => by
      obtain ⟨v, x⟩ := x
      have e5 : IntKind.i64.wrap ((i : Int) + 1) = (i : Int) + 1 := wrap_i64 (by omega) (by omega)
      have hx := v9 _ (List.getElem_mem hi)
      have h6 := spec_MailText.says km b.mails[i] (by have := (mailOk_vars hx).2.2.1; omega)
      rw [if_pos hx, hx] at h6
      have h7 := mailT_len hx
      simp only [encMail] at h6
      simp only [Prod.exists]
      have e6 := str_add s (mailT b.mails[i]) (by omega)
      simp (maxSteps := 1000000) [spec_BoxText.l0, List.range_succ, bs_get, setAt, btS, hi, h6, e5, e6, encMail])
    (fun s x => by
      obtain ⟨v, x⟩ := x
      simp only [Prod.exists]
      simp (maxSteps := 1000000) [spec_BoxText.l0, List.range_succ, bs_get, setAt, btS, btE]) (boxP b) hp
  obtain ⟨g', hr'⟩ := text_loop (f := exC (run M) (b.mails.length + b.gone.length + 1) spec_BoxText.l1) b.gone varI 10 11000 (fun n hn => isVar_len (v8 n hn)) (bgS b) 2 (bgE b)
    (fun i hi s x hs => by
      obtain ⟨v, x⟩ := x
      have e5 : IntKind.i64.wrap ((i : Int) + 1) = (i : Int) + 1 := wrap_i64 (by omega) (by omega)
      have hx := v8 _ (List.getElem_mem hi)
      have h6 := spec_l01Var.int kv b.gone[i] hx.1 (by have := hx.2; omega)
      have h7 := isVar_len hx
      simp only [Prod.exists]
      have e6 := str_add s (varI b.gone[i]) (by omega)
      simp (maxSteps := 1000000) [spec_BoxText.l1, List.range_succ, bs_get, setAt, bgS, hi, h6, e5, e6])
    (fun s x => by
      obtain ⟨v, x⟩ := x
      simp only [Prod.exists]
      simp (maxSteps := 1000000) [spec_BoxText.l1, List.range_succ, bs_get, setAt, bgS, bgE]) (boxP b ++ texts mailT b.mails ++ varT b.gone.length) (by simp; omega)
  have e1 := str_add (varI b.gid) (varT b.name.length) (by omega)
  have e2 := str_add (varI b.gid ++ varT b.name.length) b.name (by simp; omega)
  have e3 := str_add (varI b.gid ++ varT b.name.length ++ b.name) (varI b.time) (by simp; omega)
  have e4 := str_add (varI b.gid ++ varT b.name.length ++ b.name ++ varI b.time) (varI b.who) (by simp; omega)
  have e5 := str_add (varI b.gid ++ varT b.name.length ++ b.name ++ varI b.time ++ varI b.who) (varI b.next) (by simp; omega)
  have e6 := str_add (varI b.gid ++ varT b.name.length ++ b.name ++ varI b.time ++ varI b.who ++ varI b.next) (varT b.mails.length) (by simp; omega)
  have e7 : boxP b = varI b.gid ++ varT b.name.length ++ b.name ++ varI b.time ++ varI b.who ++ varI b.next ++ varT b.mails.length := by simp [boxP]
  rw [← e7] at e6
  have e8 := str_add (boxP b ++ texts mailT b.mails) (varT b.gone.length) (by simp; omega)
  simp only [List.append_assoc] at e1 e2 e3 e4 e5 e6 e8
  simp [btS, btE] at hr
  simp [bgS, bgE] at hr'
  simp only [boxT]
  have m1 : b.mails.length + 1 ≤ b.mails.length + b.gone.length + 1 := by omega
  have m2 : b.gone.length + 1 ≤ b.mails.length + b.gone.length + 1 := by omega
  have hr2 := fun x y => loopN_le (hr x y) m1
  have hr3 := fun x y => loopN_le (hr' x y) m2
  generalize boxP b = p at *
  generalize texts mailT b.mails = q at *
  generalize texts varI b.gone = r at *
  simp (maxSteps := 1000000) [exB, spec_BoxText.m, spec_BoxText.b, List.range_succ, bs_get, setAt, hr2, hr3, h1, g1, g2, g3, g4, g5, g6, g7, e1, e2, e3, e4, e5, e6, e8]
theorem wBox_all {b : Box} {n : Nat} (h : wBox b ≤ n) : b.mails.length ≤ n ∧ b.gone.length ≤ n ∧ b.name.length ≤ n ∧ ∀ m ∈ b.mails, m.flags.length ≤ n := by
  unfold wBox at h
  refine ⟨by unfold wMails at h; omega, by omega, by omega, fun m hm => ?_⟩
  have := wMail_le hm; unfold wMail at this; omega
theorem laws_FnExactBoxText.says (h : laws_FnExactBoxText.k M) (b : Box) (hb : BoxFits b) : run M 368 [.a (encBox b)] [] = some (.c (.bool true), []) := by
  obtain ⟨h0, k1, k2, k5, k3, k4⟩ := h
  have h1 := laws_szBox.says k1 b hb 1048576 (by omega)
  refine run_code (b := laws_FnExactBoxText.m) h0 ⟨0, ?_⟩
  by_cases c : 1048576 < wBox b
  · rw [if_pos c] at h1
    simp only [Int.cast_ofNat_Int, encBox] at h1
    simp (maxSteps := 1000000) [exB, laws_FnExactBoxText.m, laws_FnExactBoxText.b, List.range_succ, bs_get, setAt, h1]
  · rw [if_neg c] at h1
    simp only [Int.cast_ofNat_Int] at h1
    have hw : wBox b ≤ 1048576 := by omega
    obtain ⟨w1, w2, w3, w4⟩ := wBox_all hw
    have e1 : ¬ (1048576 : Int) - wBox b < 0 := by omega
    have h2 := laws_toBox.says k2 b hw
    have h3 := spec_BoxText.says k3 b w1 (by omega) (by omega) w4
    have h4 := impl_BoxText.says k4 b w1 (by omega) (by omega) w4
    have h5 := laws_eqBox.says k5 b hw
    simp only [encBox, encBoxO] at h1 h2 h3 h4 h5
    generalize (if boxOk b = true then boxT b else []) = r at *
    generalize boxOk b = q at *
    simp (maxSteps := 1000000) [exB, laws_FnExactBoxText.m, laws_FnExactBoxText.b, List.range_succ, bs_get, setAt, h1, h2, h3, h4, h5, e1]
theorem laws_FnExactBoxText.row (h : laws_FnExactBoxText.k M) {as : List V} (ha : HasVs [.struct ctBox] as) : run M 368 as [] = some (.c (.bool true), []) := by
  cases ha with | cons h0 ha =>
  cases ha
  cases h0 with | struct h0 =>
  obtain ⟨b, rfl, hb⟩ := has_box h0
  exact laws_FnExactBoxText.says h b hb
end Mx
