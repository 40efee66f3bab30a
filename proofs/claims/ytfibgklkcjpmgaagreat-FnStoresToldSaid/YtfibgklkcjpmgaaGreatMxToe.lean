/-
  What more of the functions compute, each by a small evaluation; no condition beyond what each says.
-/
import Derived.Test.YtfibgklkcjpmgaaGreatMxTod
set_option linter.unusedSimpArgs false
set_option linter.unusedVariables false
namespace Mx
open Go
variable {M : Nat → Option Body}
/-- small enough to be held against another -/
structure BoxEq (b : Box) : Prop where
  m : b.mails.length ≤ 1048576
  g : b.gone.length ≤ 1048576
  f : ∀ m ∈ b.mails, m.flags.length ≤ 1048576
structure StoreEq (s : Store) : Prop where
  b : s.boxes.length ≤ 1048576
  g : s.gone.length ≤ 1048576
  box : ∀ b ∈ s.boxes, BoxEq b
def sbS (a b : Box) (i : Nat) (x : Nat × Nat × Nat) : St := { t := [(2, .c (.ptr 2 x.1 0 0)), (3, .c (.ptr 3 x.2.1 0 0)), (5, .c (I i))], o := [(2, ⟨x.1, 7, true, true, [encBox a]⟩), (3, ⟨x.2.1, 7, true, true, [encBox b]⟩)], n := x.2.2 }
def sbE (a b : Box) (x : Nat × Nat × Nat) : St := { t := [(2, .c (.ptr 2 x.1 0 0)), (3, .c (.ptr 3 x.2.1 0 0)), (5, .c (I a.mails.length)), (55, .c (.bool false))], o := [(2, ⟨x.1, 7, true, true, [encBox a]⟩), (3, ⟨x.2.1, 7, true, true, [encBox b]⟩)], n := x.2.2 }
def sb2S (a b : Box) (i : Nat) (x : Nat × Nat × Nat) : St := { t := [(2, .c (.ptr 2 x.1 0 0)), (3, .c (.ptr 3 x.2.1 0 0)), (6, .c (I i))], o := [(2, ⟨x.1, 7, true, true, [encBox a]⟩), (3, ⟨x.2.1, 7, true, true, [encBox b]⟩)], n := x.2.2 }
def sb2E (a b : Box) (x : Nat × Nat × Nat) : St := { t := [(2, .c (.ptr 2 x.1 0 0)), (3, .c (.ptr 3 x.2.1 0 0)), (6, .c (I a.gone.length)), (74, .c (.bool false))], o := [(2, ⟨x.1, 7, true, true, [encBox a]⟩), (3, ⟨x.2.1, 7, true, true, [encBox b]⟩)], n := x.2.2 }
theorem loopN_more {f : St → Option (Out × St)} : ∀ {n m : Nat} {s : St} {r : Out × St}, loopN f n s = some r → n ≤ m → loopN f m s = some r
  | 0, m, s, r, h, _ => by simp [loopN] at h
  | n + 1, 0, s, r, h, hm => by omega
  | n + 1, m + 1, s, r, h, hm => by
    simp only [loopN] at h ⊢
    split at h
    · exact loopN_more h (by omega)
    · exact h
theorem spec_l09Box.says (h : spec_l09Box.k M) (a b : Box) (ha : BoxEq a) : run M 116 [.a (encBox a), .a (encBox b)] [] = some (.c (.bool (decide (a = b))), []) := by
  obtain ⟨h0, k1⟩ := h
  refine run_code (b := spec_l09Box.m) h0 ⟨a.mails.length + a.gone.length + 1, ?_⟩
  by_cases c1 : a.gid = b.gid
  rotate_left
  · have hne : ¬ a = b := fun q => c1 (by rw [q])
    simp [exB, spec_l09Box.m, spec_l09Box.b, List.range_succ, c1, hne]
  by_cases c2 : a.name = b.name
  rotate_left
  · have hne : ¬ a = b := fun q => c2 (by rw [q])
    simp [exB, spec_l09Box.m, spec_l09Box.b, List.range_succ, c1, c2, hne]
  by_cases c3 : a.time = b.time
  rotate_left
  · have hne : ¬ a = b := fun q => c3 (by rw [q])
    simp [exB, spec_l09Box.m, spec_l09Box.b, List.range_succ, c1, c2, c3, hne, eqL, eqT]
  by_cases c4 : a.who = b.who
  rotate_left
  · have hne : ¬ a = b := fun q => c4 (by rw [q])
    simp [exB, spec_l09Box.m, spec_l09Box.b, List.range_succ, c1, c2, c3, c4, hne, eqL, eqT]
  by_cases c5 : a.next = b.next
  rotate_left
  · have hne : ¬ a = b := fun q => c5 (by rw [q])
    simp [exB, spec_l09Box.m, spec_l09Box.b, List.range_succ, c1, c2, c3, c4, c5, hne, eqL, eqT]
  by_cases c6 : a.mails.length = b.mails.length
  rotate_left
  · have hne : ¬ a = b := fun q => c6 (by rw [q])
    have c6' : ¬ (a.mails.length : Int) = b.mails.length := by omega
    simp [exB, spec_l09Box.m, spec_l09Box.b, List.range_succ, c1, c2, c3, c4, c5, c6, c6', hne, eqL, eqT]
  by_cases c7 : a.gone.length = b.gone.length
  rotate_left
  · have hne : ¬ a = b := fun q => c7 (by rw [q])
    have c7' : ¬ (a.gone.length : Int) = b.gone.length := by omega
    simp [exB, spec_l09Box.m, spec_l09Box.b, List.range_succ, c1, c2, c3, c4, c5, c6, c7, c7', hne, eqL, eqT]
  obtain ⟨K, hK⟩ : ∃ K, K = a.mails.length + a.gone.length + 1 := ⟨_, rfl⟩
  rw [← hK]
  have hml := ha.m
  have hgl := ha.g
  have hfl := ha.f
  obtain ⟨g, hr⟩ := eq_loop a.mails b.mails c6 (f := exC (run M) K spec_l09Box.l0) (sbS a b) 4 0 (sbE a b)
    (fun i hi hi' x c => by
      obtain ⟨v, w, x⟩ := x
      have e5 := wrap1 (i := i) (by omega)
      have hm := spec_SameMail.says k1 a.mails[i] b.mails[i] (hfl _ (List.getElem_mem hi))
      rw [decide_eq_true c] at hm
      simp only [encMail] at hm
      simp only [Prod.exists]
      simp [sbS, spec_l09Box.l0, hi, hi', e5, encMail, hm])
    (fun i hi hi' x c => by
      obtain ⟨v, w, x⟩ := x
      have hm := spec_SameMail.says k1 a.mails[i] b.mails[i] (hfl _ (List.getElem_mem hi))
      rw [decide_eq_false c] at hm
      simp only [encMail] at hm
      simp [sbS, spec_l09Box.l0, hi, hi', encMail, hm])
    (fun x => by
      obtain ⟨v, w, x⟩ := x
      simp only [Prod.exists]
      simp [sbS, sbE, spec_l09Box.l0])
  have hr' := fun x => loopN_more (hr x) (show a.mails.length + 1 ≤ K by omega)
  by_cases c8 : a.mails = b.mails
  rotate_left
  · have hne : ¬ a = b := fun q => c8 (by rw [q])
    simp only [c8, if_false] at hr'
    simp [sbS, encBox, c1, c2, c3, c4, c5] at hr'
    simp [exB, spec_l09Box.m, spec_l09Box.b, List.range_succ, encBox, c1, c2, c3, c4, c5, c6, c7, hne, eqL, eqT, hr']
  obtain ⟨g2, hr2⟩ := eq_loop a.gone b.gone c7 (f := exC (run M) K spec_l09Box.l1) (sb2S a b) 4 2 (sb2E a b)
    (fun i hi hi' x c => by
      obtain ⟨v, w, x⟩ := x
      have e5 := wrap1 (i := i) (by omega)
      simp only [Prod.exists]
      simp [sb2S, spec_l09Box.l1, hi, hi', e5, c])
    (fun i hi hi' x c => by
      obtain ⟨v, w, x⟩ := x
      simp [sb2S, spec_l09Box.l1, hi, hi', c])
    (fun x => by
      obtain ⟨v, w, x⟩ := x
      simp only [Prod.exists]
      simp [sb2S, sb2E, spec_l09Box.l1])
  have hr2' := fun x => loopN_more (hr2 x) (show a.gone.length + 1 ≤ K by omega)
  simp only [c8, if_true] at hr'
  by_cases c9 : a.gone = b.gone
  · have he : a = b := box_ext c1 c2 c3 c4 c5 c8 c9
    subst he
    simp only [if_true] at hr2'
    simp [sbS, sbE, encBox] at hr'
    simp [sb2S, sb2E, encBox] at hr2'
    simp [exB, spec_l09Box.m, spec_l09Box.b, List.range_succ, encBox, eqL, eqT, hr', hr2']
  · have hne : ¬ a = b := fun q => c9 (by rw [q])
    simp only [c9, if_false] at hr2'
    simp [sbS, sbE, encBox, c1, c2, c3, c4, c5, c8] at hr'
    simp [sb2S, sb2E, encBox, c1, c2, c3, c4, c5, c8] at hr2'
    simp [exB, spec_l09Box.m, spec_l09Box.b, List.range_succ, encBox, c1, c2, c3, c4, c5, c7, c8, hne, eqL, eqT, hr', hr2']
def alike (a b : Store) : Bool := decide (a.boxes = b.boxes) && decide (a.gone = b.gone)
def saS (a b : Store) (i : Nat) (x : Nat × Nat × Nat) : St := { t := [(2, .c (.ptr 2 x.1 0 0)), (3, .c (.ptr 3 x.2.1 0 0)), (5, .c (I i))], o := [(2, ⟨x.1, 4, true, true, [encStore a]⟩), (3, ⟨x.2.1, 4, true, true, [encStore b]⟩)], n := x.2.2 }
def saE (a b : Store) (x : Nat × Nat × Nat) : St := { t := [(2, .c (.ptr 2 x.1 0 0)), (3, .c (.ptr 3 x.2.1 0 0)), (5, .c (I a.boxes.length)), (27, .c (.bool false))], o := [(2, ⟨x.1, 4, true, true, [encStore a]⟩), (3, ⟨x.2.1, 4, true, true, [encStore b]⟩)], n := x.2.2 }
def sa2S (a b : Store) (i : Nat) (x : Nat × Nat × Nat) : St := { t := [(2, .c (.ptr 2 x.1 0 0)), (3, .c (.ptr 3 x.2.1 0 0)), (6, .c (I i))], o := [(2, ⟨x.1, 4, true, true, [encStore a]⟩), (3, ⟨x.2.1, 4, true, true, [encStore b]⟩)], n := x.2.2 }
def sa2E (a b : Store) (x : Nat × Nat × Nat) : St := { t := [(2, .c (.ptr 2 x.1 0 0)), (3, .c (.ptr 3 x.2.1 0 0)), (6, .c (I a.gone.length)), (46, .c (.bool false))], o := [(2, ⟨x.1, 4, true, true, [encStore a]⟩), (3, ⟨x.2.1, 4, true, true, [encStore b]⟩)], n := x.2.2 }
theorem spec_Alike.says (h : spec_Alike.k M) (a b : Store) (ha : StoreEq a) : run M 31 [.a (encStore a), .a (encStore b)] [] = some (.c (.bool (alike a b)), []) := by
  obtain ⟨h0, k1⟩ := h
  refine run_code (b := spec_Alike.m) h0 ⟨a.boxes.length + a.gone.length + 1, ?_⟩
  unfold alike
  by_cases c6 : a.boxes.length = b.boxes.length
  rotate_left
  · have hne : ¬ a.boxes = b.boxes := fun q => c6 (by rw [q])
    have c6' : ¬ (a.boxes.length : Int) = b.boxes.length := by omega
    simp [exB, spec_Alike.m, spec_Alike.b, List.range_succ, c6, c6', hne]
  by_cases c7 : a.gone.length = b.gone.length
  rotate_left
  · have hne : ¬ a.gone = b.gone := fun q => c7 (by rw [q])
    have c7' : ¬ (a.gone.length : Int) = b.gone.length := by omega
    simp [exB, spec_Alike.m, spec_Alike.b, List.range_succ, c6, c7, c7', hne]
  obtain ⟨K, hK⟩ : ∃ K, K = a.boxes.length + a.gone.length + 1 := ⟨_, rfl⟩
  rw [← hK]
  have hbl := ha.b
  have hgl := ha.g
  obtain ⟨g, hr⟩ := eq_loop a.boxes b.boxes c6 (f := exC (run M) K spec_Alike.l0) (saS a b) 4 0 (saE a b)
    (fun i hi hi' x c => by
      obtain ⟨v, w, x⟩ := x
      have e5 := wrap1 (i := i) (by omega)
      have hm := spec_l09Box.says k1 a.boxes[i] b.boxes[i] (ha.box _ (List.getElem_mem hi))
      rw [decide_eq_true c] at hm
      simp only [encBox] at hm
      simp only [Prod.exists]
      simp [saS, spec_Alike.l0, hi, hi', e5, encBox, hm])
    (fun i hi hi' x c => by
      obtain ⟨v, w, x⟩ := x
      have hm := spec_l09Box.says k1 a.boxes[i] b.boxes[i] (ha.box _ (List.getElem_mem hi))
      rw [decide_eq_false c] at hm
      simp only [encBox] at hm
      simp [saS, spec_Alike.l0, hi, hi', encBox, hm])
    (fun x => by
      obtain ⟨v, w, x⟩ := x
      simp only [Prod.exists]
      simp [saS, saE, spec_Alike.l0])
  have hr' := fun x => loopN_more (hr x) (show a.boxes.length + 1 ≤ K by omega)
  by_cases c8 : a.boxes = b.boxes
  rotate_left
  · simp only [c8, if_false] at hr'
    simp [saS, encStore] at hr'
    simp [exB, spec_Alike.m, spec_Alike.b, List.range_succ, encStore, c6, c7, c8, hr']
  obtain ⟨g2, hr2⟩ := eq_loop a.gone b.gone c7 (f := exC (run M) K spec_Alike.l1) (sa2S a b) 4 2 (sa2E a b)
    (fun i hi hi' x c => by
      obtain ⟨v, w, x⟩ := x
      have e5 := wrap1 (i := i) (by omega)
      simp only [Prod.exists]
      simp [sa2S, spec_Alike.l1, hi, hi', e5, c])
    (fun i hi hi' x c => by
      obtain ⟨v, w, x⟩ := x
      simp [sa2S, spec_Alike.l1, hi, hi', c])
    (fun x => by
      obtain ⟨v, w, x⟩ := x
      simp only [Prod.exists]
      simp [sa2S, sa2E, spec_Alike.l1])
  have hr2' := fun x => loopN_more (hr2 x) (show a.gone.length + 1 ≤ K by omega)
  simp only [c8, if_true] at hr'
  by_cases c9 : a.gone = b.gone
  · simp only [c9, if_true] at hr2'
    simp [saS, saE, encStore, c8, c9] at hr'
    simp [sa2S, sa2E, encStore, c8, c9] at hr2'
    simp [exB, spec_Alike.m, spec_Alike.b, List.range_succ, encStore, c8, c9, hr', hr2']
  · simp only [c9, if_false] at hr2'
    simp [saS, saE, encStore, c8] at hr'
    simp [sa2S, sa2E, encStore, c8] at hr2'
    simp [exB, spec_Alike.m, spec_Alike.b, List.range_succ, encStore, c7, c8, c9, hr', hr2']
end Mx

namespace Mx
open Go
variable {M : Nat → Option Body}
theorem impl_BoxAt_1.says (h : impl_BoxAt_1.k M) (b : Box) (g : Int) : run M 199 [.a (encBox b), .c (.vp [I g] 0)] [] = some (.c (.bool (decide (b.gid = g))), []) := by
  refine run_code (b := impl_BoxAt_1.m) h ⟨0, ?_⟩
  simp (maxSteps := 1000000) [exB, impl_BoxAt_1.m, impl_BoxAt_1.b, List.range_succ, bs_get, setAt, encBox]
theorem impl_BoxAt.says (h : impl_BoxAt.k M) (s : Store) (g : Int) (hl : s.boxes.length ≤ 1048576) : run M 95 [.a (encStore s), .c (I g)] [] = some (.c (I (intO (boxO s.boxes g))), []) := by
  have h1 := slices_IndexFunc_impl_Box_impl_Box.gen h.2.2 (fun b => impl_BoxAt_1.says h.2.1 b g) s.boxes hl
  refine run_code (b := impl_BoxAt.m) h.1 ⟨0, ?_⟩
  unfold boxO
  simp only [encStore, boxes, ints] at h1 ⊢
  generalize s.boxes.map encBox = r at *
  generalize irow s.gone = rg at *
  simp (maxSteps := 1000000) [exB, impl_BoxAt.m, impl_BoxAt.b, List.range_succ, bs_get, setAt, h1]
end Mx

namespace Mx
open Go
def keepR (kt ko : List Nat) (n : Nat) : Option (List (Nat × V) × List (Nat × Ob)) → Option (Out × St)
  | none => none
  | some r => some (.normal, { t := keep kt r.1, o := keep ko r.2, n := n })
theorem keepR_some (kt ko : List Nat) (n : Nat) (t : List (Nat × V)) (o : List (Nat × Ob)) : keepR kt ko n (some (t, o)) = some (.normal, { t := keep kt t, o := keep ko o, n := n }) := rfl
theorem keepR_none (kt ko : List Nat) (n : Nat) : keepR kt ko n none = none := rfl
theorem exC_reg (cf : CallF) (k : Nat) (s : St) (ops : List Mop) (kt ko : List Nat) : exC cf k (.reg ops kt ko) s = keepR kt ko (s.n + 16 * ops.length) (steps cf s.n 0 ops s.t s.o) := by
  simp only [exC]; cases steps cf s.n 0 ops s.t s.o <;> rfl
theorem exC_regd (cf : CallF) (k : Nat) (s : St) (ops : List Mop) (anc : List (List Nat)) (kt ko : List Nat) : exC cf k (.regd ops anc kt ko) s = keepR kt ko (s.n + 16 * ops.length) (stepsD cf s.n 0 ops anc s.t s.o []) := by
  simp only [exC]; cases stepsD cf s.n 0 ops anc s.t s.o [] <;> rfl
theorem exC_skip (cf : CallF) (k : Nat) (s : St) : exC cf k .skip s = some (.normal, s) := rfl
theorem exC_seq (cf : CallF) (k : Nat) (s : St) (a b : C) : exC cf k (.seq a b) s = match exC cf k a s with | some (.normal, s') => exC cf k b s' | r => r := rfl
theorem exC_cond (cf : CallF) (k : Nat) (s : St) (c : Nat) (a b : C) : exC cf k (.cond (.t c) a b) s = match lookB s.t (.t c) with | some true => exC cf k a s | some false => exC cf k b s | none => none := rfl
theorem exC_block (cf : CallF) (k : Nat) (s : St) (id : Nat) (a : C) : exC cf k (.block id a) s = match exC cf k a s with | some (.exit id', s') => some (if id' = id then (.normal, s') else (.exit id', s')) | r => r := rfl
theorem exC_loop (cf : CallF) (k : Nat) (s : St) (a : C) : exC cf k (.loop a) s = loopN (exC cf k a) k s := rfl
theorem exC_exit (cf : CallF) (k : Nat) (s : St) (id : Nat) : exC cf k (.exit id) s = some (.exit id, s) := rfl
theorem exC_ret (cf : CallF) (k : Nat) (s : St) : exC cf k .ret s = some (.ret, s) := rfl
theorem exC_shut (cf : CallF) (k : Nat) (s : St) (ids : List Nat) (a : C) : exC cf k (.shut ids a) s = exC cf k a { s with o := sealOb ids s.o } := rfl
theorem lr_has (n i : Nat) : (lr n).contains i = decide (i < n) := by
  simp only [lr, List.contains_eq_mem, List.mem_range]
theorem lr_has2 (n i : Nat) (l : List Nat) : (lr n ++ l).contains i = (decide (i < n) || l.contains i) := by
  simp only [lr, List.contains_eq_mem, List.mem_append, List.mem_range, Bool.decide_or]
def idsB : Option Ob → List Nat
  | some b => if b.bx then b.rows.flatMap fun r => r.flatMap idsT else []
  | none => []
def idsN (o : List (Nat × Ob)) : List Nat → List Nat
  | [] => []
  | id :: r => idsB (get o id) ++ idsN o r
def idsKL (o : List (Nat × Ob)) : List T → List Nat
  | [] => []
  | t :: ts => (idsT t ++ idsN o (idsT t)) ++ idsKL o ts
def idsG (o : List (Nat × Ob)) : Option V → List Nat
  | some (.c t) => idsT t ++ idsN o (idsT t)
  | some (.a ts) => idsKL o ts
  | _ => []
def touchL (t : List (Nat × V)) (o : List (Nat × Ob)) : List Nat → List Nat
  | [] => []
  | x :: xs => idsG o (get t x) ++ touchL t o xs
theorem idsN_eq (o : List (Nat × Ob)) : ∀ l, l.flatMap (idsO o) = idsN o l
  | [] => rfl
  | x :: l => by
    rw [List.flatMap_cons, idsN_eq o l, idsN]
    congr 1
theorem idsKL_eq (o : List (Nat × Ob)) : ∀ ts : List T, (ts.flatMap fun t => idsT t ++ (idsT t).flatMap (idsO o)) = idsKL o ts
  | [] => rfl
  | t :: ts => by rw [List.flatMap_cons, idsKL_eq o ts, idsKL, idsN_eq]
theorem touchL_eq (t : List (Nat × V)) (o : List (Nat × Ob)) : ∀ l : List Nat, (l.flatMap fun x => match get t x with | some v => idsV o v | none => []) = touchL t o l
  | [] => rfl
  | x :: l => by
    rw [List.flatMap_cons, touchL_eq t o l, touchL]
    congr 1
    cases h : get t x with
    | none => rfl
    | some v =>
      cases v with
      | c t => simp only [idsV, idsG, idsN_eq]
      | a ts => simp only [idsV, idsG, idsKL_eq]
      | _ => rfl
theorem touch_eq (t : List (Nat × V)) (o : List (Nat × Ob)) (m : MO) : touch t o m = touchL t o m.eyes := touchL_eq t o _
attribute [simp] idsB idsN idsKL idsG touchL
def stepK (t : List (Nat × V)) (o : List (Nat × Ob)) (d : Option Nat) : Done → Option (List (Nat × V) × List (Nat × Ob))
  | none => none
  | some r => some (setT t d r.1, r.2 ++ o)
theorem stepK_some (t : List (Nat × V)) (o : List (Nat × Ob)) (d : Option Nat) (v : V) (u : List (Nat × Ob)) : stepK t o d (some (v, u)) = some (setT t d v, u ++ o) := rfl
theorem stepK_none (t : List (Nat × V)) (o : List (Nat × Ob)) (d : Option Nat) : stepK t o d none = none := rfl
theorem step_eq (cf : CallF) (n i : Nat) (m : Mop) (t : List (Nat × V)) (o : List (Nat × Ob)) : step cf n i m t o = match wanted t m.guard with
    | some true => stepK t o m.dst (act cf (n + 16 * i) (m.dst.getD 0) t o m.op)
    | some false => some (setT t m.dst .undef, o)
    | none => none := by
  unfold step
  cases wanted t m.guard with
  | none => rfl
  | some b => cases b with
    | false => rfl
    | true => simp only []; cases act cf (n + 16 * i) (m.dst.getD 0) t o m.op <;> rfl
def stepH (t : List (Nat × V)) (d : Option Nat) : Done → Option (List (Nat × V))
  | none => none
  | some r => some (setT t d r.1)
theorem stepH_some (t : List (Nat × V)) (d : Option Nat) (r : V × List (Nat × Ob)) : stepH t d (some r) = some (setT t d r.1) := rfl
theorem stepH_none (t : List (Nat × V)) (d : Option Nat) : stepH t d none = none := rfl
theorem stepE_eq (cf : CallF) (n i : Nat) (m : Mop) (t : List (Nat × V)) (o : List (Nat × Ob)) : stepE cf n i m t o = match wanted t m.guard with
    | some true => stepH t m.dst (actE cf (n + 16 * i) (m.dst.getD 0) t o m.op)
    | some false => some (setT t m.dst .undef)
    | none => none := by
  unfold stepE
  cases wanted t m.guard with
  | none => rfl
  | some b => cases b with
    | false => rfl
    | true => simp only []; cases actE cf (n + 16 * i) (m.dst.getD 0) t o m.op <;> rfl
def numbered {α : Type} : Nat → List α → List (Nat × α)
  | _, [] => []
  | i, x :: xs => (i, x) :: numbered (i + 1) xs
theorem zip_from {α : Type} : ∀ (l : List α) (a n : Nat), l.length ≤ n → (List.range' a n).zip l = numbered a l
  | [], a, n, _ => by simp [numbered]
  | x :: xs, a, 0, h => by simp at h
  | x :: xs, a, n + 1, h => by
    simp only [List.length_cons] at h
    rw [List.range'_succ, List.zip_cons_cons, numbered, zip_from xs (a + 1) n (by omega)]
theorem zip_range {α : Type} (n : Nat) (l : List α) (h : l.length ≤ n) : (List.range n).zip l = numbered 0 l := by
  rw [List.range_eq_range', zip_from l 0 n h]
attribute [simp] numbered zip_range
def verO : Option Ob → Nat
  | none => 0
  | some b => b.ver
def lendK (o : List (Nat × Ob)) : List (Nat × Nat × Ob) → List (Nat × Nat × Nat)
  | [] => []
  | l :: r => (l.1, l.2.1, verO (get o l.2.1)) :: lendK o r
theorem lendK_eq (o : List (Nat × Ob)) : ∀ ls : List (Nat × Nat × Ob), (ls.map fun l => (l.1, l.2.1, (get o l.2.1).elim 0 (·.ver))) = lendK o ls
  | [] => rfl
  | l :: r => by
    rw [List.map_cons, lendK_eq o r, lendK]
    congr 2
    cases get o l.2.1 <;> rfl
theorem doCall_eq (cf : CallF) (n : Nat) (o : List (Nat × Ob)) (f : Nat) (vals : List V) (lend : List Nat) (thaw : List (Nat × Nat)) : doCall cf n o f vals lend thaw =
  match args o lend 0 vals with
  | none => none
  | some (as, ls, b) =>
    if vals.length ≤ 1000 ∧ (ls.map (·.2.1)).all (fun id => !b.contains id) ∧ (ls.map (·.2.1)).Nodup then
      match cf f as (ls.map fun l => (l.1, l.2.2)) with
      | none => none
      | some (res, after) =>
        match lentBack n o after ls, back n (lendK o ls) thaw res with
        | some ups, some (v, ups') => if b.isEmpty ∨ (res.flat ∧ ups.all fun u => u.2.rows.all (·.all T.scalar)) then some (v, ups ++ ups') else none
        | _, _ => none
    else none := by
  unfold doCall
  cases args o lend 0 vals with
  | none => rfl
  | some r => obtain ⟨as, ls, b⟩ := r; simp only [lendK_eq]; rfl
attribute [simp] verO lendK
attribute [simp] keepR_some keepR_none exC_reg exC_regd exC_skip exC_seq exC_cond exC_block exC_loop exC_exit exC_ret exC_shut lr_has lr_has2 touch_eq stepK_some stepK_none step_eq stepH_some stepH_none stepE_eq doCall_eq
end Mx

namespace Mx
open Go
attribute [-simp] exC step stepE touch idsV idsO doCall
variable {M : Nat → Option Body}
def cbS (l : List Box) (i : Nat) (x : Nat × Nat) : St := { t := [(3, .c (.row 6 x.1 0 i)), (7, .c (boxes l)), (8, .c (I l.length)), (9, .c (I i))], o := [(6, ⟨x.1, 7, true, false, (l.take i).map encBox⟩)], n := x.2 }
def cbE (l : List Box) (x : Nat × Nat) : St := { t := [(3, .c (.row 6 x.1 0 l.length)), (7, .c (boxes l)), (8, .c (I l.length)), (9, .c (I l.length)), (10, .c (.bool false))], o := [(6, ⟨x.1, 7, true, false, (l.take l.length).map encBox⟩)], n := x.2 }
set_option maxHeartbeats 1000000 in
theorem impl_copyBoxes.says (h : impl_copyBoxes.k M) (l : List Box) (hl : l.length ≤ 1048576) (hb : ∀ b ∈ l, BoxIn b) : run M 270 [.c (boxes l)] [] = some (.c (.sl true 7 (l.map encBox)), []) := by
  obtain ⟨h0, k1⟩ := h
  refine run_code (b := impl_copyBoxes.m) h0 ⟨l.length + 1, ?_⟩
  have er : (l.map encBox).length = l.length := by simp
  obtain ⟨g, hr⟩ := count_loop (f := exC (run M) (l.length + 1) impl_copyBoxes.l0) l.length (cbS l) 0 (cbE l)
    (fun i hi x => by
      obtain ⟨v, n⟩ := x
      have h2 := impl_copyBox.says k1 l[i] (hb _ (List.getElem_mem hi))
      have e5 := wrap1 (i := i) (by omega)
      have e6 : i + 1 ≤ 4294967296 := by omega
      have e7 : ((l.take i).map encBox).length = i := by simp; omega
      have e8 : ((l.take (i + 1)).map encBox) = (l.take i).map encBox ++ [encBox l[i]] := by rw [take_snoc _ _ hi, List.map_append]; rfl
      have a1 : ∀ hh, (l.map encBox)[i]'hh = encBox l[i] := by intro hh; simp
      simp only [Prod.exists, cbS, e8, boxes]
      simp only [encBox, encBoxO, mails, ints] at h2 a1 ⊢
      generalize (l.take i).map encBox = rr at *
      generalize l.map encBox = rb at *
      generalize l[i].mails.map encMail = rm at *
      generalize irow l[i].gone = rg at *
      simp (maxSteps := 1000000) [impl_copyBoxes.l0, bs_get, List.take_of_length_le, setAt, str_add, hi, h2, e5, e6, e7, er, a1])
    (fun x => by
      obtain ⟨v, n⟩ := x
      simp only [Prod.exists, cbS, cbE, boxes]
      generalize (l.take l.length).map encBox = rr at *
      generalize l.map encBox = rb at *
      simp (maxSteps := 1000000) [impl_copyBoxes.l0, bs_get, List.take_of_length_le, setAt, str_add, er])
  have hr0 := hr (2000016, 2000096)
  generalize g (2000016, 2000096) = y at *
  obtain ⟨v, n⟩ := y
  have ez : ((0 : Nat) : Int) = 0 := rfl
  simp only [cbS, cbE, ez, List.take_zero, List.map_nil, List.take_length, boxes] at hr0
  simp only [boxes]
  generalize l.map encBox = rb at *
  simp (maxSteps := 1000000) [exB, impl_copyBoxes.m, impl_copyBoxes.b, bs_get, List.take_of_length_le, setAt, str_add, hr0, er]
theorem impl_copyStore.says (h : impl_copyStore.k M) (s : Store) (hs : StoreIn s) : run M 220 [.a (encStore s)] [] = some (.a (encStoreO s), []) := by
  obtain ⟨h0, k1, k2⟩ := h
  have h1 := impl_copyInts.says k1 s.gone hs.g
  have h2 := impl_copyBoxes.says k2 s.boxes hs.b hs.i
  have er : (s.boxes.map encBox).length = s.boxes.length := by simp
  have eg := irow_length s.gone
  refine run_code (b := impl_copyStore.m) h0 ⟨0, ?_⟩
  simp only [encStore, encStoreO, boxes, ints] at *
  generalize s.boxes.map encBox = rb at *
  generalize irow s.gone = rs at *
  simp (maxSteps := 1000000) [exB, impl_copyStore.m, impl_copyStore.b, bs_get, List.take_of_length_le, setAt, str_add, h1, h2, er, eg]
theorem impl_NextStamp.says (h : impl_NextStamp.k M) (s : Store) (hs : -1000000000 ≤ s.time ∧ s.time ≤ 1000000000) : run M 431 [.a (encStore s)] [] = some (.a [I (s.time + 1), I s.who], []) := by
  refine run_code (b := impl_NextStamp.m) h ⟨0, ?_⟩
  have e5 : IntKind.i64.wrap (s.time + 1) = s.time + 1 := wrap_i64 (by omega) (by omega)
  simp only [encStore, boxes, ints]
  simp (maxSteps := 1000000) [exB, impl_NextStamp.m, impl_NextStamp.b, bs_get, List.take_of_length_le, setAt, str_add, e5]
theorem impl_orElse.says (h : impl_orElse.k M) (out s : Store) (ho : StoreIn out) (hs : StoreIn s) :
    run M 441 [.a (encStore out), .a (encStore s)] [] = some (.tup [.a (encStore (if storeOk out = true then out else s)), .c (.bool (storeOk out))], []) := by
  obtain ⟨h0, ko, kc⟩ := h
  have h1 := impl_StoreOk.says ko out ho
  have h2 := impl_copyStore.says kc s hs
  have er : (s.boxes.map encBox).length = s.boxes.length := by simp
  have eg := irow_length s.gone
  refine run_code (b := impl_orElse.m) h0 ⟨0, ?_⟩
  cases c : storeOk out with
  | true =>
    rw [c] at h1
    rw [if_pos rfl]
    simp only [encStore, encStoreO, boxes, ints] at *
    generalize s.boxes.map encBox = rb at *
    generalize irow s.gone = rs at *
    generalize out.boxes.map encBox = ob at *
    generalize irow out.gone = os at *
    simp (maxSteps := 1000000) [exB, impl_orElse.m, impl_orElse.b, bs_get, List.take_of_length_le, setAt, str_add, h1, er, eg]
  | false =>
    rw [c] at h1
    rw [if_neg (by simp)]
    simp only [encStore, encStoreO, boxes, ints] at *
    generalize s.boxes.map encBox = rb at *
    generalize irow s.gone = rs at *
    generalize out.boxes.map encBox = ob at *
    generalize irow out.gone = os at *
    simp (maxSteps := 1000000) [exB, impl_orElse.m, impl_orElse.b, bs_get, List.take_of_length_le, setAt, str_add, h1, h2, er, eg]
end Mx

namespace Mx
open Go
attribute [-simp] exC step stepE touch idsV idsO doCall
variable {M : Nat → Option Body}
def knwB (g : Int) (b : Box) : Bool := decide (b.gid = g) || knowsB b g
def knS (s : Store) (g : Int) (i : Nat) (x : Nat) : St := { t := [(1, .c (I g)), (2, .c (.ptr 2 2000000 0 0)), (8, .c (boxes s.boxes)), (9, .c (I s.boxes.length)), (10, .c (I i))], o := [(2, ⟨2000000, 4, true, true, [encStore s]⟩)], n := x }
def knE (s : Store) (g : Int) (x : Nat) : St := { t := [(1, .c (I g)), (2, .c (.ptr 2 2000000 0 0)), (8, .c (boxes s.boxes)), (9, .c (I s.boxes.length)), (10, .c (I s.boxes.length)), (11, .c (.bool false))], o := [(2, ⟨2000000, 4, true, true, [encStore s]⟩)], n := x }
theorem boxO_any (l : List Box) (g : Int) : (boxO l g).isSome = l.any fun b => decide (b.gid = g) := by
  unfold boxO
  rw [any_first2]
set_option maxHeartbeats 2000000 in
theorem impl_Knows.says (h : impl_Knows.k M) (s : Store) (g : Int) (hs : StoreIn s) : run M 413 [.a (encStore s), .c (I g)] [] = some (.c (.bool (knows s g)), []) := by
  obtain ⟨h0, ka, ki⟩ := h
  have hbl := hs.b
  have hgl := hs.g
  have h2 := slices_Contains_int_int.says ki s.gone g (by omega)
  refine run_code (b := impl_Knows.m) h0 ⟨s.boxes.length + 1, ?_⟩
  have er : (s.boxes.map encBox).length = s.boxes.length := by simp
  obtain ⟨g', hr⟩ := early_loop (f := exC (run M) (s.boxes.length + 1) impl_Knows.l0) s.boxes.length (pAt (knwB g) s.boxes) (knS s g) 4 (.bool true) 0 (knE s g)
    (fun i hi x c => by
      rw [pAt_at _ _ _ hi] at c
      have hb := hs.i _ (List.getElem_mem hi)
      have h3 := impl_MailAt.says ka s.boxes[i] g hb.m
      have h4 := slices_Contains_int_int.says ki s.boxes[i].gone g (by have := hb.g; omega)
      have e5 := wrap1 (i := i) (by omega)
      have a1 : ∀ hh, (s.boxes.map encBox)[i]'hh = encBox s.boxes[i] := by intro hh; simp
      unfold knwB knowsB at c
      simp only [Bool.or_eq_false_iff, decide_eq_false_iff_not] at c
      obtain ⟨c0, c1, c2⟩ := c
      have c2' : decide (g ∈ s.boxes[i].gone) = false := decide_eq_false c2
      rw [c2'] at h4
      have c3 : ¬ (0 : Int) ≤ intO (mailO s.boxes[i].mails g) := by
        have := intO_nonneg (mailO s.boxes[i].mails g)
        rw [c1] at this; simpa using this
      simp only [knS, encStore, boxes, ints]
      simp only [encBox, mails, ints] at h3 h4 a1
      generalize intO (mailO s.boxes[i].mails g) = z at *
      generalize s.boxes.map encBox = rb at *
      generalize s.boxes[i].mails.map encMail = rm at *
      generalize irow s.boxes[i].gone = rg at *
      simp (maxSteps := 1000000) [impl_Knows.l0, bs_get, List.take_of_length_le, setAt, str_add, hi, c0, h3, h4, c3, e5, er, a1])
    (fun i hi x c => by
      rw [pAt_at _ _ _ hi] at c
      have hb := hs.i _ (List.getElem_mem hi)
      have h3 := impl_MailAt.says ka s.boxes[i] g hb.m
      have h4 := slices_Contains_int_int.says ki s.boxes[i].gone g (by have := hb.g; omega)
      have a1 : ∀ hh, (s.boxes.map encBox)[i]'hh = encBox s.boxes[i] := by intro hh; simp
      unfold knwB knowsB at c
      have c3 := intO_nonneg (mailO s.boxes[i].mails g)
      simp only [knS, encStore, boxes, ints]
      simp only [encBox, mails, ints] at h3 h4 a1
      generalize intO (mailO s.boxes[i].mails g) = z at *
      generalize (mailO s.boxes[i].mails g).isSome = w at *
      generalize decide (g ∈ s.boxes[i].gone) = w2 at *
      generalize s.boxes.map encBox = rb at *
      generalize s.boxes[i].mails.map encMail = rm at *
      generalize irow s.boxes[i].gone = rg at *
      by_cases c0 : s.boxes[i].gid = g
      · simp (maxSteps := 1000000) [impl_Knows.l0, bs_get, List.take_of_length_le, setAt, str_add, hi, c0, er, a1]
      rw [decide_eq_false c0] at c
      cases w
      · simp only [decide_eq_false_iff_not] at c3
        simp only [Bool.false_or] at c
        subst c
        simp (maxSteps := 1000000) [impl_Knows.l0, bs_get, List.take_of_length_le, setAt, str_add, hi, c0, h3, h4, c3, er, a1]
      · simp only [decide_eq_true_eq] at c3
        simp (maxSteps := 1000000) [impl_Knows.l0, bs_get, List.take_of_length_le, setAt, str_add, hi, c0, h3, c3, er, a1])
    (fun x => by
      simp only [knS, knE, encStore, boxes, ints]
      generalize s.boxes.map encBox = rb at *
      simp (maxSteps := 1000000) [impl_Knows.l0, bs_get, List.take_of_length_le, setAt, str_add, er])
  have hany : knows s g = ((firstN (pAt (knwB g) s.boxes) s.boxes.length).isSome || decide (g ∈ s.gone)) := by
    unfold knows
    rw [boxO_any, ← any_first2]
    have : s.boxes.any (knwB g) = ((s.boxes.any fun b => decide (b.gid = g)) || s.boxes.any fun b => knowsB b g) := by
      induction s.boxes with
      | nil => rfl
      | cons x l ih =>
        simp only [List.any_cons, ih, knwB]
        cases decide (x.gid = g) <;> cases knowsB x g <;> simp
    rw [this]
    generalize (s.boxes.any fun b => decide (b.gid = g)) = p
    generalize (s.boxes.any fun b => knowsB b g) = q
    cases p <;> cases q <;> cases decide (g ∈ s.gone) <;> rfl
  rw [hany]
  generalize decide (g ∈ s.gone) = w2 at *
  have ez : ((0 : Nat) : Int) = 0 := rfl
  cases hq : firstN (pAt (knwB g) s.boxes) s.boxes.length with
  | none =>
    simp only [knS, knE, hq, fin1, ez] at hr
    simp only [encStore, boxes, ints] at *
    simp (maxSteps := 1000000) [exB, impl_Knows.m, impl_Knows.b, bs_get, List.take_of_length_le, setAt, str_add, h2, hr]
  | some q =>
    simp only [knS, hq, fin1, ez] at hr
    simp only [encStore, boxes, ints] at *
    simp (maxSteps := 1000000) [exB, impl_Knows.m, impl_Knows.b, bs_get, List.take_of_length_le, setAt, str_add, h2, hr]
end Mx

namespace Mx
open Go
attribute [-simp] exC step stepE touch idsV idsO doCall
variable {M : Nat → Option Body}
theorem orElse_stamped (h : impl_orElse.k M) (s : Store) (i : Nat) (b : Box) (ho : StoreIn (stampedTo s i b)) (hs : StoreIn s) :
    run M 441 [.a [I s.who, I (s.time + 1), .sl false 7 ((s.boxes.map encBox).set i (encBox b)), ints s.gone], .a (encStore s)] [] = some (.tup [.a (encStore (stamped s i b).1), .c (.bool (stamped s i b).2)], []) := by
  have h1 := impl_orElse.says h (stampedTo s i b) s ho hs
  have e : encStore (stampedTo s i b) = [I s.who, I (s.time + 1), .sl false 7 ((s.boxes.map encBox).set i (encBox b)), ints s.gone] := by simp only [encStore, stampedTo, boxes, List.map_set]
  rw [e] at h1
  rw [h1]
  unfold stamped
  cases storeOk (stampedTo s i b) <;> rfl
set_option maxHeartbeats 4000000 in
theorem impl_PutMail.says (h : impl_PutMail.k M) (s : Store) (hs : StoreT s) (g m f : Int) (x : List UInt8) :
    run M 410 [.a (encStore s), .c (I g), .c (I m), .c (I f), .c (S x)] [] = some (.tup [.a (encStore (putMail s g m f x).1), .c (.bool (putMail s g m f x).2)], []) := by
  obtain ⟨h0, ka, kb, ko, kc, kk, kn, kst⟩ := h
  have ht := hs.time
  have e5 : IntKind.i64.wrap (s.time + 1) = s.time + 1 := wrap_i64 (by omega) (by omega)
  have h1 := impl_BoxAt.says kb s g hs.in_.b
  have h2 := impl_StoreOk.says ko s hs.in_
  have h3 := impl_Knows.says kk s m hs.in_
  have h4 := impl_copyStore.says kc s hs.in_
  have h5 := impl_NextStamp.says kn s hs.time
  have er : (s.boxes.map encBox).length = s.boxes.length := by simp
  have eg := irow_length s.gone
  refine run_code (b := impl_PutMail.m) h0 ⟨0, ?_⟩
  unfold putMail
  cases c1 : storeOk s with
  | false =>
    rw [c1] at h2
    simp only [Bool.false_eq_true, false_and, if_false]
    simp only [encStore, encStoreO, boxes, ints] at *
    generalize s.boxes.map encBox = rb at *
    generalize irow s.gone = rs at *
    simp (maxSteps := 1000000) [exB, impl_PutMail.m, impl_PutMail.b, bs_get, List.take_of_length_le, setAt, str_add, h1, h2, h4, er, eg]
  | true =>
    rw [c1] at h2
    cases c2 : knows s m with
    | true =>
      rw [c2] at h3
      simp only [Bool.true_eq_false, and_false, if_false]
      simp only [encStore, encStoreO, boxes, ints] at *
      generalize s.boxes.map encBox = rb at *
      generalize irow s.gone = rs at *
      simp (maxSteps := 1000000) [exB, impl_PutMail.m, impl_PutMail.b, bs_get, List.take_of_length_le, setAt, str_add, h1, h2, h3, h4, er, eg]
    | false =>
      rw [c2] at h3
      rw [if_pos ⟨rfl, rfl⟩]
      cases c3 : boxO s.boxes g with
      | none =>
        rw [c3] at h1
        rw [at_none c3]
        simp only [encStore, encStoreO, boxes, ints, intO] at *
        generalize s.boxes.map encBox = rb at *
        generalize irow s.gone = rs at *
        simp (maxSteps := 1000000) [exB, impl_PutMail.m, impl_PutMail.b, bs_get, List.take_of_length_le, setAt, str_add, h1, h2, h3, h4, er, eg]
      | some i =>
        rw [c3] at h1
        obtain ⟨hi, _⟩ := boxO_some c3
        rw [at_some c3 hi]
        have hG := (storeOk_good c1).boxes.good _ (List.getElem_mem hi)
        have h6 := impl_AddMail.says ka s.boxes[i] hG.inB m f x (s.time + 1) s.who
        have hin := addMail_in hG.inB m f x (s.time + 1) s.who
        have h7 := orElse_stamped kst s i (addMail s.boxes[i] m f x (s.time + 1) s.who).1 (stampedTo_in hs.in_ hi hin (by have := good_gids c1; have := addMail_small hG m f x (s.time + 1) s.who; omega)) hs.in_
        have a1 : ∀ hh, (s.boxes.map encBox)[i]'hh = encBox s.boxes[i] := by intro hh; simp
        have ni : ¬ (i : Int) < 0 := by omega
        generalize addMail s.boxes[i] m f x (s.time + 1) s.who = A at *
        obtain ⟨b', ok⟩ := A
        generalize stamped s i b' = B at *
        obtain ⟨s', ok'⟩ := B
        have er2 : (s'.boxes.map encBox).length = s'.boxes.length := by simp
        have eg2 := irow_length s'.gone
        simp only [encStore, encStoreO, boxes, ints, intO] at h1 h2 h3 h4 h5 h7 ⊢
        simp only [encBox, encBoxO, mails, ints] at h6 h7 a1
        generalize hrb : s.boxes.map encBox = rb at *
        generalize hrs : irow s.gone = rs at *
        generalize s.boxes[i].mails.map encMail = r1 at *
        generalize irow s.boxes[i].gone = r2 at *
        generalize b'.mails.map encMail = r3 at *
        generalize irow b'.gone = r4 at *
        cases ok
        · simp only [Bool.false_eq_true, if_false]
          simp (maxSteps := 1000000) [exB, impl_PutMail.m, impl_PutMail.b, bs_get, List.take_of_length_le, setAt, str_add, hi, ni, h1, h2, h3, h4, h5, h6, er, eg, a1]
          exact ⟨hrb.symm, hrs.symm⟩
        · simp only [if_true]
          generalize s'.boxes.map encBox = rb' at *
          generalize irow s'.gone = rs' at *
          simp (maxSteps := 1000000) [exB, impl_PutMail.m, impl_PutMail.b, bs_get, List.take_of_length_le, setAt, str_add, hi, ni, h1, h2, h3, h4, h5, h6, h7, e5, er, eg, er2, eg2, a1]
set_option maxHeartbeats 4000000 in
theorem impl_MarkMail.says (h : impl_MarkMail.k M) (s : Store) (hs : StoreT s) (g m f : Int) :
    run M 428 [.a (encStore s), .c (I g), .c (I m), .c (I f)] [] = some (.tup [.a (encStore (markMail s g m f).1), .c (.bool (markMail s g m f).2)], []) := by
  obtain ⟨h0, ka, kb, ko, kc, kn, kst⟩ := h
  have ht := hs.time
  have e5 : IntKind.i64.wrap (s.time + 1) = s.time + 1 := wrap_i64 (by omega) (by omega)
  have h1 := impl_BoxAt.says kb s g hs.in_.b
  have h2 := impl_StoreOk.says ko s hs.in_
  have h4 := impl_copyStore.says kc s hs.in_
  have h5 := impl_NextStamp.says kn s hs.time
  have er : (s.boxes.map encBox).length = s.boxes.length := by simp
  have eg := irow_length s.gone
  refine run_code (b := impl_MarkMail.m) h0 ⟨0, ?_⟩
  unfold markMail
  cases c1 : storeOk s with
  | false =>
    rw [c1] at h2
    simp only [Bool.false_eq_true, if_false]
    simp only [encStore, encStoreO, boxes, ints] at *
    generalize s.boxes.map encBox = rb at *
    generalize irow s.gone = rs at *
    simp (maxSteps := 1000000) [exB, impl_MarkMail.m, impl_MarkMail.b, bs_get, List.take_of_length_le, setAt, str_add, h1, h2, h4, er, eg]
  | true =>
    rw [c1] at h2
    rw [if_pos rfl]
    cases c3 : boxO s.boxes g with
    | none =>
      rw [c3] at h1
      rw [at_none c3]
      simp only [encStore, encStoreO, boxes, ints, intO] at *
      generalize s.boxes.map encBox = rb at *
      generalize irow s.gone = rs at *
      simp (maxSteps := 1000000) [exB, impl_MarkMail.m, impl_MarkMail.b, bs_get, List.take_of_length_le, setAt, str_add, h1, h2, h4, er, eg]
    | some i =>
      rw [c3] at h1
      obtain ⟨hi, _⟩ := boxO_some c3
      rw [at_some c3 hi]
      have hG := (storeOk_good c1).boxes.good _ (List.getElem_mem hi)
      have h6 := impl_FlagMail.says ka s.boxes[i] hG.inB m f (s.time + 1) s.who
      have hin := flagMail_in hG.inB m f (s.time + 1) s.who
      have h7 := orElse_stamped kst s i (flagMail s.boxes[i] m f (s.time + 1) s.who).1 (stampedTo_in hs.in_ hi hin (by have := good_gids c1; have := flagMail_small hG m f (s.time + 1) s.who; omega)) hs.in_
      have a1 : ∀ hh, (s.boxes.map encBox)[i]'hh = encBox s.boxes[i] := by intro hh; simp
      have ni : ¬ (i : Int) < 0 := by omega
      generalize flagMail s.boxes[i] m f (s.time + 1) s.who = A at *
      obtain ⟨b', ok⟩ := A
      generalize stamped s i b' = B at *
      obtain ⟨s', ok'⟩ := B
      have er2 : (s'.boxes.map encBox).length = s'.boxes.length := by simp
      have eg2 := irow_length s'.gone
      simp only [encStore, encStoreO, boxes, ints, intO] at h1 h2 h4 h5 h7 ⊢
      simp only [encBox, encBoxO, mails, ints] at h6 h7 a1
      generalize hrb : s.boxes.map encBox = rb at *
      generalize hrs : irow s.gone = rs at *
      generalize s.boxes[i].mails.map encMail = r1 at *
      generalize irow s.boxes[i].gone = r2 at *
      generalize b'.mails.map encMail = r3 at *
      generalize irow b'.gone = r4 at *
      cases ok
      · simp only [Bool.false_eq_true, if_false]
        simp (maxSteps := 1000000) [exB, impl_MarkMail.m, impl_MarkMail.b, bs_get, List.take_of_length_le, setAt, str_add, hi, ni, h1, h2, h4, h5, h6, er, eg, a1]
        exact ⟨hrb.symm, hrs.symm⟩
      · simp only [if_true]
        generalize s'.boxes.map encBox = rb' at *
        generalize irow s'.gone = rs' at *
        simp (maxSteps := 1000000) [exB, impl_MarkMail.m, impl_MarkMail.b, bs_get, List.take_of_length_le, setAt, str_add, hi, ni, h1, h2, h4, h5, h6, h7, e5, er, eg, er2, eg2, a1]
set_option maxHeartbeats 4000000 in
theorem impl_DropMail.says (h : impl_DropMail.k M) (s : Store) (hs : StoreT s) (g m : Int) :
    run M 429 [.a (encStore s), .c (I g), .c (I m)] [] = some (.tup [.a (encStore (dropMail s g m).1), .c (.bool (dropMail s g m).2)], []) := by
  obtain ⟨h0, kt, kb, ko, kc⟩ := h
  have h1 := impl_BoxAt.says kb s g hs.in_.b
  have h2 := impl_StoreOk.says ko s hs.in_
  have h4 := impl_copyStore.says kc s hs.in_
  have er : (s.boxes.map encBox).length = s.boxes.length := by simp
  have eg := irow_length s.gone
  refine run_code (b := impl_DropMail.m) h0 ⟨0, ?_⟩
  unfold dropMail
  cases c1 : storeOk s with
  | false =>
    rw [c1] at h2
    simp only [Bool.false_eq_true, if_false]
    simp only [encStore, encStoreO, boxes, ints] at *
    generalize s.boxes.map encBox = rb at *
    generalize irow s.gone = rs at *
    simp (maxSteps := 1000000) [exB, impl_DropMail.m, impl_DropMail.b, bs_get, List.take_of_length_le, setAt, str_add, h1, h2, h4, er, eg]
  | true =>
    rw [c1] at h2
    rw [if_pos rfl]
    cases c3 : boxO s.boxes g with
    | none =>
      rw [c3] at h1
      rw [at_none c3]
      simp only [encStore, encStoreO, boxes, ints, intO] at *
      generalize s.boxes.map encBox = rb at *
      generalize irow s.gone = rs at *
      simp (maxSteps := 1000000) [exB, impl_DropMail.m, impl_DropMail.b, bs_get, List.take_of_length_le, setAt, str_add, h1, h2, h4, er, eg]
    | some i =>
      rw [c3] at h1
      obtain ⟨hi, _⟩ := boxO_some c3
      rw [at_some c3 hi]
      have hG := (storeOk_good c1).boxes.good _ (List.getElem_mem hi)
      have h6 := impl_TakeOut.says kt s.boxes[i] hG.inB m
      have a1 : ∀ hh, (s.boxes.map encBox)[i]'hh = encBox s.boxes[i] := by intro hh; simp
      have ni : ¬ (i : Int) < 0 := by omega
      generalize takeOut s.boxes[i] m = A at *
      obtain ⟨b', ok⟩ := A
      have es : (s.boxes.set i b').map encBox = (s.boxes.map encBox).set i (encBox b') := List.map_set
      simp only [encStore, encStoreO, boxes, ints, intO] at h1 h2 h4 ⊢
      simp only [encBox, encBoxO, mails, ints] at h6 a1 es
      cases ok
      · simp only [Bool.false_eq_true, if_false]
        generalize s.boxes.map encBox = rb at *
        generalize irow s.gone = rs at *
        generalize s.boxes[i].mails.map encMail = r1 at *
        generalize irow s.boxes[i].gone = r2 at *
        generalize b'.mails.map encMail = r3 at *
        generalize irow b'.gone = r4 at *
        simp (maxSteps := 1000000) [exB, impl_DropMail.m, impl_DropMail.b, bs_get, List.take_of_length_le, setAt, str_add, hi, ni, h1, h2, h4, h6, er, eg, a1]
      · simp only [if_true, es]
        clear es
        generalize s.boxes.map encBox = rb at *
        generalize irow s.gone = rs at *
        generalize s.boxes[i].mails.map encMail = r1 at *
        generalize irow s.boxes[i].gone = r2 at *
        generalize b'.mails.map encMail = r3 at *
        generalize irow b'.gone = r4 at *
        simp (maxSteps := 1000000) [exB, impl_DropMail.m, impl_DropMail.b, bs_get, List.take_of_length_le, setAt, str_add, hi, ni, h1, h2, h4, h6, er, eg, a1]
set_option maxHeartbeats 4000000 in
theorem impl_RenameBox.says (h : impl_RenameBox.k M) (s : Store) (hs : StoreT s) (g : Int) (nm : List UInt8) (hn : nm.length ≤ 1048576) :
    run M 411 [.a (encStore s), .c (I g), .c (S nm)] [] = some (.tup [.a (encStore (renameBox s g nm).1), .c (.bool (renameBox s g nm).2)], []) := by
  obtain ⟨h0, kb, ko, kc, kn, kst, koe⟩ := h
  have ht := hs.time
  have h1 := impl_BoxAt.says kb s g hs.in_.b
  have h2 := impl_StoreOk.says ko s hs.in_
  have h3 := impl_BoxNamed.says kn s nm hs.in_.b
  have h4 := impl_copyStore.says kc s hs.in_
  have h5 := impl_NextStamp.says kst s hs.time
  have er : (s.boxes.map encBox).length = s.boxes.length := by simp
  have eg := irow_length s.gone
  have e5 : IntKind.i64.wrap (s.time + 1) = s.time + 1 := wrap_i64 (by omega) (by omega)
  refine run_code (b := impl_RenameBox.m) h0 ⟨0, ?_⟩
  unfold renameBox
  cases c1 : storeOk s with
  | false =>
    rw [c1] at h2
    simp only [Bool.false_eq_true, false_and, if_false]
    simp only [encStore, encStoreO, boxes, ints] at *
    generalize s.boxes.map encBox = rb at *
    generalize irow s.gone = rs at *
    simp (maxSteps := 1000000) [exB, impl_RenameBox.m, impl_RenameBox.b, bs_get, List.take_of_length_le, setAt, str_add, h1, h2, h4, er, eg]
  | true =>
    rw [c1] at h2
    cases c3 : boxO s.boxes g with
    | none =>
      rw [c3] at h1
      have e : (if true = true ∧ (named s.boxes nm).isSome = false then at_ s g fun i b => stamped s i (renamedB s nm b) else (s, false)) = (s, false) := by
        rw [at_none c3]; split <;> rfl
      rw [e]
      simp only [encStore, encStoreO, boxes, ints, intO] at *
      generalize s.boxes.map encBox = rb at *
      generalize irow s.gone = rs at *
      simp (maxSteps := 1000000) [exB, impl_RenameBox.m, impl_RenameBox.b, bs_get, List.take_of_length_le, setAt, str_add, h1, h2, h4, er, eg]
    | some i =>
      rw [c3] at h1
      obtain ⟨hi, _⟩ := boxO_some c3
      have ni : ¬ (i : Int) < 0 := by omega
      have c0 := intO_nonneg (named s.boxes nm)
      cases c2 : (named s.boxes nm).isSome with
      | true =>
        rw [c2] at c0
        simp only [decide_eq_true_eq] at c0
        simp only [Bool.true_eq_false, and_false, if_false]
        generalize intO (named s.boxes nm) = z at *
        simp only [encStore, encStoreO, boxes, ints, intO] at *
        generalize s.boxes.map encBox = rb at *
        generalize irow s.gone = rs at *
        simp (maxSteps := 1000000) [exB, impl_RenameBox.m, impl_RenameBox.b, bs_get, List.take_of_length_le, setAt, str_add, ni, c0, h1, h2, h3, h4, er, eg]
      | false =>
        rw [c2] at c0
        simp only [decide_eq_false_iff_not] at c0
        rw [if_pos ⟨rfl, rfl⟩, at_some c3 hi]
        have hG := (storeOk_good c1).boxes.good _ (List.getElem_mem hi)
        have hin : BoxIn (renamedB s nm s.boxes[i]) := ⟨hG.inB.m, hG.inB.g, hn, hG.inB.f⟩
        have h6 := orElse_stamped koe s i (renamedB s nm s.boxes[i]) (stampedTo_in hs.in_ hi hin (by have := good_gids c1; have := hG.len; simp only [renamedB]; omega)) hs.in_
        have a1 : ∀ hh, (s.boxes.map encBox)[i]'hh = encBox s.boxes[i] := by intro hh; simp
        generalize stamped s i (renamedB s nm s.boxes[i]) = B at *
        obtain ⟨s', ok'⟩ := B
        generalize intO (named s.boxes nm) = z at *
        simp only [encStore, encStoreO, boxes, ints, intO] at h1 h2 h3 h4 h5 h6 ⊢
        simp only [encBox, mails, ints, renamedB] at h6 a1 ⊢
        generalize s'.boxes.map encBox = rb' at *
        generalize irow s'.gone = rs' at *
        generalize s.boxes.map encBox = rb at *
        generalize irow s.gone = rs at *
        generalize s.boxes[i].mails.map encMail = r1 at *
        generalize irow s.boxes[i].gone = r2 at *
        simp (maxSteps := 1000000) [exB, impl_RenameBox.m, impl_RenameBox.b, bs_get, List.take_of_length_le, setAt, str_add, hi, ni, c0, h1, h2, h3, h4, h5, h6, e5, er, eg, a1]
end Mx

namespace Mx
open Go
attribute [-simp] exC step stepE touch idsV idsO doCall
variable {M : Nat → Option Body}
set_option maxHeartbeats 4000000 in
theorem slices_Delete_boxes (h : slices_Delete_impl_Box_impl_Box.k M) (p : List (List T)) (x : List T) (q : List (List T)) (hl : p.length + (q.length + 1) ≤ 1048576) :
    run M 442 [.c (.row 0 0 0 (p.length + (q.length + 1))), .c (I p.length), .c (I ((p.length : Int) + 1))] [(0, ⟨0, 7, true, false, p ++ x :: q⟩)] =
      some (.c (.row 0 0 0 (p.length + q.length)), [(0, ⟨0, 7, true, false, p ++ q ++ [bzero]⟩)]) := by
  refine run_code (b := slices_Delete_impl_Box_impl_Box.m) h ⟨0, ?_⟩
  obtain ⟨q', y, hy, hq'⟩ := last_of x q
  have g1 : (0 : Int) ≤ (p.length : Int) + 1 := by omega
  have g2 : ¬ (p.length : Int) = (p.length : Int) + 1 := by omega
  have g3 : (p ++ x :: q).take p.length = p := by simp
  have g4 : (p ++ x :: q).drop (p.length + 1) = q := by simp
  have g5 : (p ++ x :: q).drop (p.length + q.length) = [y] := by
    rw [hy, ← hq', List.drop_append]; simp
  have g6 : p.length + (q.length + 1) - (p.length + 1) = q.length := by omega
  have g7 : (p ++ x :: q).length = p.length + (q.length + 1) := by simp
  have g8 : p.length + (q.length + 1) - (p.length + q.length) = 1 := by omega
  have g9 : p.length + q.length ≤ p.length + (q.length + 1) := by omega
  have g10 : p.length + q.length ≤ 4294967296 := by omega
  have g11 : ¬ p.length + q.length = p.length + (q.length + 1) := by omega
  have g12 : (p ++ q ++ [y]).length = p.length + (q.length + 1) := by simp
  have g13 : (p ++ q ++ [y]).take (p.length + q.length) = p ++ q := by rw [← List.length_append, List.take_left]
  have g19 : (1 : Int) ≤ (q.length : Int) + 1 := by omega
  have g20 : 1 ≤ q.length + 1 := by omega
  have g14 : (p ++ q ++ [y]).drop (p.length + (q.length + 1)) = [] := List.drop_eq_nil_of_le (by rw [g12]; omega)
  have g15 : p.length + 1 ≤ p.length + (q.length + 1) := by omega
  have g16 : p.length + q.length + 1 = p.length + (q.length + 1) := by omega
  have g17 : (0 : Int) ≤ (p.length : Int) + (q.length : Int) := by omega
  have g18 : (0 : Int) ≤ (p.length : Int) + ((q.length : Int) + 1) := by omega
  have g21 : p.length + 1 + q.length ≤ p.length + (q.length + 1) := by omega
  have g22 : 1 + q.length ≤ q.length + 1 := by omega
  generalize hR : p ++ x :: q = R at *
  simp only [List.append_assoc] at g12 g13 g14
  by_cases hq0 : q = []
  · subst hq0
    by_cases hz : p.length = 0
    · have hp : p = [] := List.eq_nil_of_length_eq_zero hz
      subst hp
      simp at g1 g2 g3 g4 g5 g6 g7 g8 g9 g10 g11 g12 g13 g14 g15 g16 g17 g18
      simp (maxSteps := 1000000) (disch := (first | omega | (simp; done) | (simp; omega))) [exB, slices_Delete_impl_Box_impl_Box.m, slices_Delete_impl_Box_impl_Box.b, bs_get, List.take_of_length_le, setAt, str_add, g1, g2, g3, g4, g5, g6, g7, g8, g9, g10, g11, g12, g13, g14, g15, g16, g17, g18, g19, g20]
    · simp at g1 g2 g3 g4 g5 g6 g7 g8 g9 g10 g11 g12 g13 g14 g15 g16 g17 g18
      simp (maxSteps := 1000000) (disch := (first | omega | (simp; done) | (simp; omega))) [exB, slices_Delete_impl_Box_impl_Box.m, slices_Delete_impl_Box_impl_Box.b, bs_get, List.take_of_length_le, setAt, str_add, g1, g2, g3, g4, g5, g6, g7, g8, g9, g10, g11, g12, g13, g14, g15, g16, g17, g18, g19, g20, hz]
  · have g23 : ((p.length : Int) + (q.length : Int)).toNat = p.length + q.length := by omega
    have g24 : ((p.length : Int) + ((q.length : Int) + 1)).toNat = p.length + (q.length + 1) := by omega
    have g25 : max ((p.length : Int) + (q.length : Int)) 0 ≤ (p.length : Int) + ((q.length : Int) + 1) := by omega
    by_cases hz : p.length = 0
    · have hp : p = [] := List.eq_nil_of_length_eq_zero hz
      subst hp
      simp at g1 g2 g3 g4 g5 g6 g7 g8 g9 g10 g11 g12 g13 g14 g15 g16 g17 g18
      simp (maxSteps := 1000000) (disch := (first | omega | (simp; done) | (simp; omega))) [exB, slices_Delete_impl_Box_impl_Box.m, slices_Delete_impl_Box_impl_Box.b, bs_get, List.take_of_length_le, setAt, str_add, g1, g2, g3, g4, g5, g6, g7, g8, g9, g10, g11, g12, g13, g14, g15, g16, g17, g18, g19, g20, g22, hq0]
    · simp (maxSteps := 1000000) (disch := (first | omega | (simp; done) | (simp; omega))) [exB, slices_Delete_impl_Box_impl_Box.m, slices_Delete_impl_Box_impl_Box.b, bs_get, List.take_of_length_le, setAt, str_add, g1, g2, g3, g4, g5, g6, g7, g8, g9, g10, g11, g12, g13, g14, g15, g16, g17, g18, g19, g20, g21, g23, g24, g25, hz, hq0]
theorem slices_Delete_box (h : slices_Delete_impl_Box_impl_Box.k M) (r : List (List T)) (k : Nat) (hk : k < r.length) (hl : r.length ≤ 1048576) :
    run M 442 [.c (.row 0 0 0 r.length), .c (I k), .c (I ((k : Int) + 1))] [(0, ⟨0, 7, true, false, r⟩)] =
      some (.c (.row 0 0 0 (r.length - 1)), [(0, ⟨0, 7, true, false, r.take k ++ r.drop (k + 1) ++ [bzero]⟩)]) := by
  have e : r.take k ++ r[k] :: r.drop (k + 1) = r := by simp
  have := slices_Delete_boxes h (r.take k) r[k] (r.drop (k + 1)) (by simp; omega)
  rw [e] at this
  have e1 : (r.take k).length = k := by simp; omega
  have e2 : (r.drop (k + 1)).length = r.length - (k + 1) := by simp
  rw [e1, e2] at this
  have e3 : k + (r.length - (k + 1) + 1) = r.length := by omega
  have e4 : k + (r.length - (k + 1)) = r.length - 1 := by omega
  rw [e3, e4] at this
  exact this
set_option maxHeartbeats 4000000 in
theorem impl_DropBox.says (h : impl_DropBox.k M) (s : Store) (hs : StoreT s) (g : Int) :
    run M 412 [.a (encStore s), .c (I g)] [] = some (.tup [.a (encStore (dropBox s g).1), .c (.bool (dropBox s g).2)], []) := by
  obtain ⟨h0, kb, ko, kp, kc, kd⟩ := h
  have h1 := impl_BoxAt.says kb s g hs.in_.b
  have h2 := impl_StoreOk.says ko s hs.in_
  have h4 := impl_copyStore.says kc s hs.in_
  have h5 := impl_added.says kp s.gone g hs.in_.g
  have er : (s.boxes.map encBox).length = s.boxes.length := by simp
  have eg := irow_length s.gone
  have hbl := hs.in_.b
  refine run_code (b := impl_DropBox.m) h0 ⟨0, ?_⟩
  unfold dropBox
  cases c1 : storeOk s with
  | false =>
    rw [c1] at h2
    simp only [Bool.false_eq_true, false_and, if_false]
    simp only [encStore, encStoreO, boxes, ints] at *
    generalize s.boxes.map encBox = rb at *
    generalize irow s.gone = rs at *
    simp (maxSteps := 1000000) [exB, impl_DropBox.m, impl_DropBox.b, bs_get, List.take_of_length_le, setAt, str_add, h1, h2, h4, er, eg]
  | true =>
    rw [c1] at h2
    cases c3 : boxO s.boxes g with
    | none =>
      rw [c3] at h1
      have e : (if true = true ∧ s.gone.length < 20 then at_ s g fun i _ => ({ s with boxes := s.boxes.take i ++ s.boxes.drop (i + 1), gone := gput s.gone g }, true) else (s, false)) = (s, false) := by
        rw [at_none c3]; split <;> rfl
      rw [e]
      simp only [encStore, encStoreO, boxes, ints, intO] at *
      generalize s.boxes.map encBox = rb at *
      generalize irow s.gone = rs at *
      simp (maxSteps := 1000000) [exB, impl_DropBox.m, impl_DropBox.b, bs_get, List.take_of_length_le, setAt, str_add, h1, h2, h4, er, eg]
    | some i =>
      rw [c3] at h1
      obtain ⟨hi, _⟩ := boxO_some c3
      have ni : ¬ (i : Int) < 0 := by omega
      by_cases c2 : s.gone.length < 20
      · have n2 : ¬ s.gone.length = 20 := by omega
        have n3 : ¬ (s.gone.length : Int) = 20 := by omega
        rw [if_pos ⟨rfl, c2⟩, at_some c3 hi]
        rw [added_eq (storeOk_iff.1 c1).gone] at h5
        have h6 := slices_Delete_box kd (s.boxes.map encBox) i (by rw [er]; exact hi) (by rw [er]; exact hbl)
        rw [er] at h6
        have e9 := wrap1 (i := i) (by omega)
        have e10 : (s.boxes.take i ++ s.boxes.drop (i + 1)).map encBox = (s.boxes.map encBox).take i ++ (s.boxes.map encBox).drop (i + 1) := by simp [List.map_take, List.map_drop]
        have e11 : ((s.boxes.map encBox).take i ++ ((s.boxes.map encBox).drop (i + 1) ++ [bzero])).take (s.boxes.length - 1) = (s.boxes.map encBox).take i ++ (s.boxes.map encBox).drop (i + 1) := by
          rw [← List.append_assoc]; exact List.take_left' (by simp; omega)
        have e12 := irow_length (gput s.gone g)
        have e13 : s.boxes.length ≤ min i s.boxes.length + (s.boxes.length - (i + 1) + 1) + 1 := by omega
        simp only [encStore, encStoreO, boxes, ints, intO, e10] at h1 h2 h4 h5 h6 ⊢
        generalize irow (gput s.gone g) = rp at *
        generalize s.boxes.map encBox = rb at *
        generalize irow s.gone = rs at *
        simp (maxSteps := 1000000) [exB, impl_DropBox.m, impl_DropBox.b, bs_get, List.take_of_length_le, setAt, str_add, hi, ni, n2, n3, h1, h2, h4, h5, h6, e9, e11, e12, e13, er, eg]
      · have c2' : (s.gone.length : Int) = 20 := by have := (storeOk_iff.1 c1).goneL; omega
        have c2'' : s.gone.length = 20 := by have := (storeOk_iff.1 c1).goneL; omega
        simp only [c2, and_false, if_false]
        simp only [encStore, encStoreO, boxes, ints, intO] at *
        generalize s.boxes.map encBox = rb at *
        generalize irow s.gone = rs at *
        simp (maxSteps := 1000000) [exB, impl_DropBox.m, impl_DropBox.b, bs_get, List.take_of_length_le, setAt, str_add, ni, c2', c2'', h1, h2, h4, er, eg]
end Mx

namespace Mx
open Go
attribute [-simp] exC step stepE touch idsV idsO doCall
variable {M : Nat → Option Body}
theorem tw_at (p : Box → Bool) : ∀ l : List Box, (∀ i (h : i < l.length), i < (l.takeWhile p).length → p l[i] = true) ∧ (∀ h : (l.takeWhile p).length < l.length, p l[(l.takeWhile p).length] = false)
  | [] => ⟨fun i h => by simp at h, fun h => by simp at h⟩
  | x :: l => by
    obtain ⟨h1, h2⟩ := tw_at p l
    by_cases c : p x = true
    · simp only [List.takeWhile_cons, c, if_true, List.length_cons]
      refine ⟨fun i h hi => ?_, fun h => ?_⟩
      · cases i with
        | zero => simpa using c
        | succ i => simpa using h1 i (by simpa using h) (by omega)
      · simpa using h2 (by omega)
    · have c' : p x = false := by simpa using c
      simp only [List.takeWhile_cons, c', Bool.false_eq_true, if_false, List.length_nil]
      exact ⟨fun i h hi => by omega, fun _ => by simpa using c'⟩
theorem tw_len (p : Box → Bool) (l : List Box) : (l.takeWhile p).length ≤ l.length := by
  have := congrArg List.length (List.takeWhile_append_dropWhile (p := p) (l := l))
  simp only [List.length_append] at this; omega
theorem tw_take (p : Box → Bool) (l : List Box) : l.take (l.takeWhile p).length = l.takeWhile p := by
  have := List.takeWhile_append_dropWhile (p := p) (l := l)
  exact (congrArg (List.take _) this.symm).trans (List.take_left' rfl)
theorem tw_drop (p : Box → Bool) (l : List Box) : l.drop (l.takeWhile p).length = l.dropWhile p := by
  have := List.takeWhile_append_dropWhile (p := p) (l := l)
  exact (congrArg (List.drop _) this.symm).trans (List.drop_left' rfl)
theorem tw_filter (g : Int) : ∀ l : List Box, (l.Pairwise fun x y => x.gid < y.gid) → (∀ b ∈ l, b.gid ≠ g) →
    l.takeWhile (fun b => decide (b.gid < g)) = l.filter (fun b => decide (b.gid < g)) ∧ l.dropWhile (fun b => decide (b.gid < g)) = l.filter (fun b => decide (g < b.gid))
  | [], _, _ => ⟨rfl, rfl⟩
  | x :: l, ha, hn => by
    rw [List.pairwise_cons] at ha
    obtain ⟨h1, h2⟩ := tw_filter g l ha.2 fun b hb => hn b (List.mem_cons_of_mem _ hb)
    have hx := hn x (List.mem_cons_self ..)
    by_cases c : x.gid < g
    · have c' : ¬ g < x.gid := by omega
      simp only [List.takeWhile_cons, List.dropWhile_cons, List.filter_cons, c, c', decide_true, decide_false, if_true, Bool.false_eq_true, if_false, h1, h2, and_self]
    · have c' : g < x.gid := by omega
      simp only [List.takeWhile_cons, List.dropWhile_cons, List.filter_cons, c, c', decide_true, decide_false, if_true, Bool.false_eq_true, if_false]
      have f1 : l.filter (fun b => decide (b.gid < g)) = [] := List.filter_eq_nil_iff.2 fun b hb => by have := ha.1 b hb; simp; omega
      have f2 : l.filter (fun b => decide (g < b.gid)) = l := List.filter_eq_self.2 fun b hb => by have := ha.1 b hb; simp; omega
      rw [f1, f2]; exact ⟨rfl, rfl⟩
structure KbC where
  s : Store
  g : Int
  nm : List UInt8
  u3 : Nat
  u6 : Nat
  u8 : Nat
  w2 : Nat
  w3 : Nat
def kbO (c : KbC) : List (Nat × Ob) := [(3, ⟨c.u3, 4, true, true, [encStore c.s]⟩), (6, ⟨c.u6, 4, true, true, [szero]⟩), (8, ⟨c.u8, 4, true, true, [[I c.s.who, I c.s.time, .row 11102 c.w2 0 c.s.boxes.length, .row 11103 c.w3 0 c.s.gone.length]]⟩), (11102, ⟨c.w2, 7, true, false, c.s.boxes.map encBox⟩), (11103, ⟨c.w3, 1, true, false, irow c.s.gone⟩)]
def kbS (c : KbC) (i : Nat) (n : Nat) : St := { t := [(1, .c (I c.g)), (2, .c (S c.nm)), (3, .c (.ptr 3 c.u3 0 0)), (6, .c (.ptr 6 c.u6 0 0)), (8, .c (.ptr 8 c.u8 0 0)), (9, .c (I i))], o := kbO c, n := n }
def kbE (c : KbC) (i : Nat) (n : Nat) : St := { t := [(1, .c (I c.g)), (2, .c (S c.nm)), (3, .c (.ptr 3 c.u3 0 0)), (6, .c (.ptr 6 c.u6 0 0)), (8, .c (.ptr 8 c.u8 0 0)), (9, .c (I i)), (41, .c (.bool false))], o := kbO c, n := n }
theorem kb_loop (k : Nat) (c : KbC) (hl : c.s.boxes.length ≤ 1048576) :
    ∃ f : Nat → Nat, ∀ n, loopN (exC (run M) k impl_MakeBox.l0) ((c.s.boxes.takeWhile fun b => decide (b.gid < c.g)).length + 1) (kbS c 0 n) = some (.exit 0, kbE c (c.s.boxes.takeWhile fun b => decide (b.gid < c.g)).length (f n)) := by
  have er : (c.s.boxes.map encBox).length = c.s.boxes.length := by simp
  have htl := tw_len (fun b : Box => decide (b.gid < c.g)) c.s.boxes
  obtain ⟨t1, t2⟩ := tw_at (fun b : Box => decide (b.gid < c.g)) c.s.boxes
  generalize (c.s.boxes.takeWhile fun b => decide (b.gid < c.g)).length = at' at *
  exact count_loop (f := exC (run M) k impl_MakeBox.l0) at' (kbS c) 0 (kbE c at')
    (fun i hi n => by
      have hi2 : i < c.s.boxes.length := by omega
      have q := t1 i hi2 hi
      simp only [decide_eq_true_eq] at q
      have e5 := wrap1 (i := i) (by omega)
      have a1 : ∀ hh, (c.s.boxes.map encBox)[i]'hh = encBox c.s.boxes[i] := by intro hh; simp
      simp only [kbS, kbO, encStore, boxes, ints]
      simp only [encBox, mails, ints] at a1
      generalize c.s.boxes.map encBox = rb at *
      generalize irow c.s.gone = rs at *
      generalize c.s.boxes[i].mails.map encMail = r1 at *
      generalize irow c.s.boxes[i].gone = r2 at *
      simp (maxSteps := 1000000) [impl_MakeBox.l0, bs_get, List.take_of_length_le, setAt, str_add, hi2, q, e5, er, a1])
    (fun n => by
      simp only [kbS, kbE, kbO, encStore, boxes, ints]
      by_cases c9 : at' < c.s.boxes.length
      · have q := t2 c9
        simp only [decide_eq_false_iff_not] at q
        have a1 : ∀ hh, (c.s.boxes.map encBox)[at']'hh = encBox c.s.boxes[at'] := by intro hh; simp
        simp only [encBox, mails, ints] at a1
        generalize c.s.boxes.map encBox = rb at *
        generalize irow c.s.gone = rs at *
        generalize c.s.boxes[at'].mails.map encMail = r1 at *
        generalize irow c.s.boxes[at'].gone = r2 at *
        simp (maxSteps := 1000000) [impl_MakeBox.l0, bs_get, List.take_of_length_le, setAt, str_add, c9, q, er, a1]
      · generalize c.s.boxes.map encBox = rb at *
        generalize irow c.s.gone = rs at *
        simp (maxSteps := 1000000) [impl_MakeBox.l0, bs_get, List.take_of_length_le, setAt, str_add, c9, er])
theorem knows_gid {s : Store} {g : Int} (h : knows s g = false) : ∀ b ∈ s.boxes, b.gid ≠ g := by
  intro b hb e
  unfold knows at h
  rw [boxO_any] at h
  simp only [Bool.or_eq_false_iff, List.any_eq_false, decide_eq_true_eq] at h
  exact h.1.1 b hb e
theorem ins_row (h : M 440 = some (.ext insG)) (r : List (List T)) (x : List T) (i : Nat) (hi : i ≤ r.length) (hl : r.length ≤ 1048576) :
    run M 440 [.c (.row 0 0 0 r.length), .c (I i), .c (.row 2 2 0 1)] [(0, ⟨0, 7, true, false, r⟩), (2, ⟨2, 7, true, false, [x]⟩)] = some (.c (.sl true 7 (r.take i ++ [x] ++ r.drop i)), [(2, ⟨2, 7, true, false, [x]⟩)]) := by
  refine run_ext h ?_
  have h1 : (0 : Int) ≤ (i : Int) := by omega
  have h2 : (i : Int) ≤ (r.length : Int) := by omega
  simp only [insG, Int.toNat_natCast, List.length_singleton, Nat.le_refl, h1, h2, hl, and_self, if_true, List.take_length]
set_option maxHeartbeats 4000000 in
theorem impl_MakeBox.says (h : impl_MakeBox.k M) (s : Store) (hs : StoreT s) (g : Int) (nm : List UInt8) (hn : nm.length ≤ 1048576) :
    run M 409 [.a (encStore s), .c (I g), .c (S nm)] [] = some (.tup [.a (encStore (makeBox s g nm).1), .c (.bool (makeBox s g nm).2)], []) := by
  obtain ⟨h0, ko, kc, kn, kk, kst, ki, koe⟩ := h
  have ht := hs.time
  have hbl := hs.in_.b
  have h2 := impl_StoreOk.says ko s hs.in_
  have h3 := impl_BoxNamed.says kn s nm hs.in_.b
  have h7 := impl_Knows.says kk s g hs.in_
  have h4 := impl_copyStore.says kc s hs.in_
  have h5 := impl_NextStamp.says kst s hs.time
  have er : (s.boxes.map encBox).length = s.boxes.length := by simp
  have eg := irow_length s.gone
  have e5 : IntKind.i64.wrap (s.time + 1) = s.time + 1 := wrap_i64 (by omega) (by omega)
  have c0 := intO_nonneg (named s.boxes nm)
  refine run_code (b := impl_MakeBox.m) h0 ⟨(s.boxes.takeWhile fun b => decide (b.gid < g)).length + 1, ?_⟩
  unfold makeBox
  cases c1 : storeOk s with
  | false =>
    rw [c1] at h2
    simp only [Bool.false_eq_true, false_and, if_false]
    simp only [encStore, encStoreO, boxes, ints] at *
    generalize s.boxes.map encBox = rb at *
    generalize irow s.gone = rs at *
    simp (maxSteps := 1000000) [exB, impl_MakeBox.m, impl_MakeBox.b, bs_get, List.take_of_length_le, setAt, str_add, h2, h4, er, eg]
  | true =>
    rw [c1] at h2
    cases c2 : knows s g with
    | true =>
      rw [c2] at h7
      simp only [Bool.true_eq_false, false_and, and_false, if_false]
      simp only [encStore, encStoreO, boxes, ints] at *
      generalize s.boxes.map encBox = rb at *
      generalize irow s.gone = rs at *
      simp (maxSteps := 1000000) [exB, impl_MakeBox.m, impl_MakeBox.b, bs_get, List.take_of_length_le, setAt, str_add, h2, h4, h7, er, eg]
    | false =>
      rw [c2] at h7
      cases c3 : (named s.boxes nm).isSome with
      | true =>
        rw [c3] at c0
        simp only [decide_eq_true_eq] at c0
        simp only [Bool.true_eq_false, and_false, if_false]
        generalize intO (named s.boxes nm) = z at *
        simp only [encStore, encStoreO, boxes, ints] at *
        generalize s.boxes.map encBox = rb at *
        generalize irow s.gone = rs at *
        simp (maxSteps := 1000000) [exB, impl_MakeBox.m, impl_MakeBox.b, bs_get, List.take_of_length_le, setAt, str_add, c0, h2, h3, h4, h7, er, eg]
      | false =>
        rw [c3] at c0
        simp only [decide_eq_false_iff_not] at c0
        rw [if_pos ⟨rfl, rfl, rfl⟩]
        have h6 := impl_orElse.says koe (makeTo s g nm) s (makeTo_in c1 g nm hn) hs.in_
        obtain ⟨f, r1⟩ := kb_loop (M := M) ((s.boxes.takeWhile fun b => decide (b.gid < g)).length + 1) ⟨s, g, nm, 2000000, 2000016, 2000080, 2000066, 2000067⟩ hbl
        have hat := tw_len (fun b : Box => decide (b.gid < g)) s.boxes
        have h8 := ins_row ki (s.boxes.map encBox) (encBox (newBox s g nm)) (s.boxes.takeWhile fun b => decide (b.gid < g)).length (by rw [er]; exact hat) (by rw [er]; exact hbl)
        have em : (makeTo s g nm).boxes.map encBox = (s.boxes.map encBox).take (s.boxes.takeWhile fun b => decide (b.gid < g)).length ++ [encBox (newBox s g nm)] ++ (s.boxes.map encBox).drop (s.boxes.takeWhile fun b => decide (b.gid < g)).length := by
          obtain ⟨f1, f2⟩ := tw_filter g s.boxes (storeOk_iff.1 c1).asc (knows_gid c2)
          rw [← List.map_take, ← List.map_drop, tw_take, tw_drop, f1, f2]
          simp [makeTo]
        rw [← em, er] at h8
        have el : ((makeTo s g nm).boxes.map encBox).length = s.boxes.length + 1 := by rw [em]; simp; omega
        have ez : ((0 : Nat) : Int) = 0 := rfl
        have ew : (makeTo s g nm).who = s.who := rfl
        have et : (makeTo s g nm).time = s.time + 1 := rfl
        have egn : (makeTo s g nm).gone = s.gone := rfl
        have en : encBox (newBox s g nm) = [I g, S nm, I (s.time + 1), I s.who, I 1, .sl false 4 [], .sl false 1 []] := by simp [newBox, encBox, irow]
        have hres : (if storeOk (makeTo s g nm) = true then (makeTo s g nm, true) else (s, false)) = ((if storeOk (makeTo s g nm) = true then makeTo s g nm else s), storeOk (makeTo s g nm)) := by
          cases storeOk (makeTo s g nm) <;> rfl
        rw [hres]
        generalize hX : (if storeOk (makeTo s g nm) = true then makeTo s g nm else s) = X at *
        generalize storeOk (makeTo s g nm) = wX at *
        have hr0 := r1 2000352
        clear em hX
        simp only [kbS, kbE, kbO, ez] at hr0
        simp only [encStore, encStoreO, boxes, ints, ew, et, egn, en] at h2 h3 h4 h5 h6 h7 h8 hr0 ⊢
        generalize (makeTo s g nm).boxes.map encBox = rm at *
        generalize X.boxes.map encBox = rx at *
        generalize irow X.gone = gx at *
        generalize intO (named s.boxes nm) = z at *
        generalize s.boxes.map encBox = rb at *
        generalize irow s.gone = rs at *
        generalize (s.boxes.takeWhile fun b => decide (b.gid < g)).length = at' at *
        simp (maxSteps := 1000000) [exB, impl_MakeBox.m, impl_MakeBox.b, bs_get, List.take_of_length_le, setAt, str_add, c0, h2, h3, h4, h5, h6, h7, h8, hr0, e5, er, eg, el]
end Mx

namespace Mx
open Go
variable {M : Nat → Option Body}
def sameAll (a b : Store) : Bool := decide (a.who = b.who) && decide (a.time = b.time) && alike a b
theorem laws_sameAll.says (h : laws_sameAll.k M) (a b : Store) (ha : StoreEq a) : run M 421 [.a (encStore a), .a (encStore b)] [] = some (.c (.bool (sameAll a b)), []) := by
  obtain ⟨h0, ka⟩ := h
  have h1 := spec_Alike.says ka a b ha
  refine run_code (b := laws_sameAll.m) h0 ⟨0, ?_⟩
  unfold sameAll
  generalize alike a b = z at *
  simp only [encStore, boxes, ints] at h1 ⊢
  generalize a.boxes.map encBox = ra at *
  generalize irow a.gone = ga at *
  generalize b.boxes.map encBox = rb at *
  generalize irow b.gone = gb at *
  by_cases c1 : a.who = b.who
  · by_cases c2 : a.time = b.time
    · simp only [c1, c2] at h1
      simp (maxSteps := 1000000) [exB, laws_sameAll.m, laws_sameAll.b, List.range_succ, bs_get, setAt, h1, c1, c2]
    · simp (maxSteps := 1000000) [exB, laws_sameAll.m, laws_sameAll.b, List.range_succ, bs_get, setAt, h1, c1, c2]
  · simp (maxSteps := 1000000) [exB, laws_sameAll.m, laws_sameAll.b, List.range_succ, bs_get, setAt, h1, c1]
end Mx

namespace Mx
open Go
attribute [-simp] exC step stepE touch idsV idsO doCall
variable {M : Nat → Option Body}
theorem impl_StoreNew.new (h : impl_StoreNew.k M) (w : Int) : run M 114 [.c (I w)] [] = some (.a [I w, I 0, .sl true 7 [], .sl true 1 []], []) := by
  refine run_code (b := impl_StoreNew.m) h ⟨0, ?_⟩
  simp (maxSteps := 1000000) [exB, impl_StoreNew.m, impl_StoreNew.b, bs_get, List.take_of_length_le, setAt, str_add]
set_option maxHeartbeats 2000000 in
theorem spec_l07Some.says (h : spec_l07Some.k M) {R : List (List T)} (hR : Bytes R) :
    ∃ (s : Store) (a b : Int), WildS s ∧ run M 445 [.c (.sl false 1 R)] [] = some (.tup [.a (encStore s), .c (I a), .c (I b)], []) := by
  obtain ⟨h0, k1, kb, ka⟩ := h
  obtain ⟨q0, h1⟩ := spec_l01New.says k1 hR
  obtain ⟨x, i1, q1, hx, hi1, h2⟩ := spec_l01Below.says kb hR 0 q0 (Nat.zero_le _) 8 (by omega) (by omega)
  obtain ⟨s, i2, q2, hs, hi2, h3⟩ := spec_l07Any.says ka hR i1 q1 hi1
  have e0 : ((0 : Nat) : Int) = 0 := rfl
  simp only [e0, Int.cast_ofNat_Int] at h1 h2
  have er : (s.boxes.map encBox).length = s.boxes.length := by simp
  by_cases c : 0 < s.boxes.length ∧ 0 < x
  rotate_left
  · refine ⟨s, 55, 56, hs, run_code (b := spec_l07Some.m) h0 ⟨0, ?_⟩⟩
    simp only [curD, e0] at h2 h3
    simp only [encStore, encStoreO, boxes, ints] at h3 ⊢
    generalize s.boxes.map encBox = rb at *
    generalize irow s.gone = rs at *
    by_cases c1 : 0 < s.boxes.length
    · have c2 : ¬ 0 < x := fun z => c ⟨c1, z⟩
      have c2' : ¬ (0 : Int) < x := by omega
      simp (maxSteps := 1000000) [exB, spec_l07Some.m, spec_l07Some.b, bs_get, List.take_of_length_le, setAt, str_add, h1, h2, h3, er, c1, c2, c2']
    · simp (maxSteps := 1000000) [exB, spec_l07Some.m, spec_l07Some.b, bs_get, List.take_of_length_le, setAt, str_add, h1, h2, h3, er, c1]
  obtain ⟨c1, c2⟩ := c
  have c2' : (0 : Int) < x := by omega
  obtain ⟨y, i3, q3, hy, hi3, h4⟩ := spec_l01Below.says kb hR i2 q2 hi2 s.boxes.length c1 (by have := hs.b; omega)
  have hB := hs.box _ (List.getElem_mem hy)
  have a1 : ∀ hh, (s.boxes.map encBox)[y]'hh = encBox s.boxes[y] := by intro hh; simp
  by_cases d : 0 < s.boxes[y].mails.length ∧ 1 < x
  rotate_left
  · refine ⟨s, s.boxes[y].gid, 56, hs, run_code (b := spec_l07Some.m) h0 ⟨0, ?_⟩⟩
    have em : (s.boxes[y].mails.map encMail).length = s.boxes[y].mails.length := by simp
    simp only [curD, e0] at h2 h3 h4
    simp only [encStore, encStoreO, encBox, boxes, mails, ints] at h3 a1 ⊢
    generalize s.boxes.map encBox = rb at *
    generalize irow s.gone = rs at *
    generalize s.boxes[y].mails.map encMail = rm at *
    generalize irow s.boxes[y].gone = rg at *
    by_cases d1 : 0 < s.boxes[y].mails.length
    · have d2 : ¬ 1 < x := fun z => d ⟨d1, z⟩
      have d2' : ¬ (1 : Int) < x := by omega
      simp (maxSteps := 1000000) [exB, spec_l07Some.m, spec_l07Some.b, bs_get, List.take_of_length_le, setAt, str_add, h1, h2, h3, h4, er, em, hy, a1, c1, c2, c2', d1, d2, d2']
    · simp (maxSteps := 1000000) [exB, spec_l07Some.m, spec_l07Some.b, bs_get, List.take_of_length_le, setAt, str_add, h1, h2, h3, h4, er, em, hy, a1, c1, c2, c2', d1]
  obtain ⟨d1, d2⟩ := d
  have d2' : (1 : Int) < x := by omega
  obtain ⟨z, i4, q4, hz, hi4, h5⟩ := spec_l01Below.says kb hR i3 q3 hi3 s.boxes[y].mails.length d1 (by have := hB.m; omega)
  have em : (s.boxes[y].mails.map encMail).length = s.boxes[y].mails.length := by simp
  have a2 : ∀ hh : z < (s.boxes[y].mails.map encMail).length, (s.boxes[y].mails.map encMail)[z]'hh = encMail s.boxes[y].mails[z] := by intro hh; simp
  refine ⟨s, s.boxes[y].gid, s.boxes[y].mails[z].gid, hs, run_code (b := spec_l07Some.m) h0 ⟨0, ?_⟩⟩
  simp only [curD, e0] at h2 h3 h4 h5
  simp only [encStore, encStoreO, encBox, boxes, mails, ints, encMail] at h3 a1 a2 ⊢
  generalize s.boxes.map encBox = rb at *
  generalize irow s.gone = rs at *
  generalize s.boxes[y].mails.map encMail = rm at *
  generalize irow s.boxes[y].gone = rg at *
  simp (maxSteps := 1000000) [exB, spec_l07Some.m, spec_l07Some.b, bs_get, List.take_of_length_le, setAt, str_add, h1, h2, h3, h4, h5, er, em, hy, hz, a1, a2, c1, c2, c2', d1, d2, d2']
end Mx

namespace Mx
open Go
attribute [-simp] exC step stepE touch idsV idsO doCall
variable {M : Nat → Option Body}
def names4 : List (List UInt8) := [[105,110,98,111,120], [119,111,114,107], [110,101,119], [65]]
theorem names4_len {s : List UInt8} (h : s ∈ names4) : s.length ≤ 1048576 := by
  have : ∀ t ∈ names4, t.length ≤ 5 := by decide
  have := this s h; omega
theorem spec_DrawStoreOk.says (h : spec_DrawStoreOk.k M) {R : List (List T)} (hR : Bytes R) :
    ∃ s : Store, WildS s ∧ run M 430 [.c (.sl false 1 R)] [] = some (.a (encStore s), []) := by
  obtain ⟨h0, k1, k2⟩ := h
  obtain ⟨q0, h1⟩ := spec_l01New.says k1 hR
  obtain ⟨s, i', q', ho, hi', h2⟩ := spec_l07Any.says k2 hR 0 q0 (Nat.zero_le _)
  have e0 : ((0 : Nat) : Int) = 0 := rfl
  simp only [curD, e0] at h2
  refine ⟨s, ho, run_code (b := spec_DrawStoreOk.m) h0 ⟨0, ?_⟩⟩
  simp only [encStore, encStoreO, boxes, ints] at h2 ⊢
  generalize s.boxes.map encBox = ra at *
  generalize irow s.gone = ga at *
  simp (maxSteps := 1000000) [exB, spec_DrawStoreOk.m, spec_DrawStoreOk.b, bs_get, List.take_of_length_le, setAt, str_add, h1, h2]
theorem spec_DrawDropMail.says (h : spec_DrawDropMail.k M) {R : List (List T)} (hR : Bytes R) :
    ∃ (s : Store) (a b : Int), WildS s ∧ run M 427 [.c (.sl false 1 R)] [] = some (.tup [.a (encStore s), .c (I a), .c (I b)], []) := by
  obtain ⟨h0, k1⟩ := h
  obtain ⟨s, a, b, hs, h1⟩ := spec_l07Some.says k1 hR
  refine ⟨s, a, b, hs, run_code (b := spec_DrawDropMail.m) h0 ⟨0, ?_⟩⟩
  simp only [encStore, boxes, ints] at h1 ⊢
  generalize s.boxes.map encBox = ra at *
  generalize irow s.gone = ga at *
  simp (maxSteps := 1000000) [exB, spec_DrawDropMail.m, spec_DrawDropMail.b, bs_get, List.take_of_length_le, setAt, str_add, h1]
theorem spec_DrawDropBox.says (h : spec_DrawDropBox.k M) {R : List (List T)} (hR : Bytes R) :
    ∃ (s : Store) (a : Int), WildS s ∧ run M 424 [.c (.sl false 1 R)] [] = some (.tup [.a (encStore s), .c (I a)], []) := by
  obtain ⟨h0, k1⟩ := h
  obtain ⟨s, a, b, hs, h1⟩ := spec_l07Some.says k1 hR
  refine ⟨s, a, hs, run_code (b := spec_DrawDropBox.m) h0 ⟨0, ?_⟩⟩
  simp only [encStore, boxes, ints] at h1 ⊢
  generalize s.boxes.map encBox = ra at *
  generalize irow s.gone = ga at *
  simp (maxSteps := 1000000) [exB, spec_DrawDropBox.m, spec_DrawDropBox.b, bs_get, List.take_of_length_le, setAt, str_add, h1]
theorem spec_DrawMarkMail.says (h : spec_DrawMarkMail.k M) {R : List (List T)} (hR : Bytes R) :
    ∃ (s : Store) (a b f : Int), WildS s ∧ run M 426 [.c (.sl false 1 R)] [] = some (.tup [.a (encStore s), .c (I a), .c (I b), .c (I f)], []) := by
  obtain ⟨h0, k1, kb, ks⟩ := h
  obtain ⟨q0, h1⟩ := spec_l01New.says k1 hR
  obtain ⟨x, i1, q1, hx, hi1, h2⟩ := spec_l01Below.says kb hR 0 q0 (Nat.zero_le _) 10 (by omega) (by omega)
  obtain ⟨s, a, b, hs, h3⟩ := spec_l07Some.says ks hR
  have e0 : ((0 : Nat) : Int) = 0 := rfl
  have e1 : IntKind.i64.wrap ((x : Int) - 1) = (x : Int) - 1 := wrap_i64 (by omega) (by omega)
  simp only [curD, e0, Int.cast_ofNat_Int] at h1 h2
  refine ⟨s, a, b, (x : Int) - 1, hs, run_code (b := spec_DrawMarkMail.m) h0 ⟨0, ?_⟩⟩
  simp only [encStore, boxes, ints] at h3 ⊢
  generalize s.boxes.map encBox = ra at *
  generalize irow s.gone = ga at *
  simp (maxSteps := 1000000) [exB, spec_DrawMarkMail.m, spec_DrawMarkMail.b, bs_get, List.take_of_length_le, setAt, str_add, h1, h2, h3, e1]
theorem spec_DrawPutMail.says (h : spec_DrawPutMail.k M) {R : List (List T)} (hR : Bytes R) :
    ∃ (s : Store) (a b f : Int) (x : List UInt8), WildS s ∧ run M 425 [.c (.sl false 1 R)] [] = some (.tup [.a (encStore s), .c (I a), .c (I b), .c (I f), .c (S x)], []) := by
  obtain ⟨h0, k1, kb, kt, kp, ks⟩ := h
  obtain ⟨q0, h1⟩ := spec_l01New.says k1 hR
  obtain ⟨x, i1, q1, hx, hi1, h2⟩ := spec_l01Below.says kb hR 0 q0 (Nat.zero_le _) 10 (by omega) (by omega)
  obtain ⟨g, i2, q2, hg, hi2, h3⟩ := spec_l01PickInt.says kp hR i1 q1 hi1 [300, 400, 101, 0, 10000] (by decide) (by decide)
  obtain ⟨tx, i3, q3, htx, hi3, h4⟩ := spec_l05Text.says kt hR i2 q2 hi2
  obtain ⟨s, a, b, hs, h5⟩ := spec_l07Some.says ks hR
  have e0 : ((0 : Nat) : Int) = 0 := rfl
  have e1 : IntKind.i64.wrap ((x : Int) - 1) = (x : Int) - 1 := wrap_i64 (by omega) (by omega)
  simp only [curD, e0, Int.cast_ofNat_Int, List.map_cons, List.map_nil] at h1 h2 h3 h4
  refine ⟨s, a, g, (x : Int) - 1, tx, hs, run_code (b := spec_DrawPutMail.m) h0 ⟨0, ?_⟩⟩
  simp only [encStore, boxes, ints] at h5 ⊢
  generalize s.boxes.map encBox = ra at *
  generalize irow s.gone = ga at *
  simp (maxSteps := 1000000) [exB, spec_DrawPutMail.m, spec_DrawPutMail.b, bs_get, List.take_of_length_le, setAt, str_add, h1, h2, h3, h4, h5, e1]
theorem spec_DrawRenameBox.says (h : spec_DrawRenameBox.k M) {R : List (List T)} (hR : Bytes R) :
    ∃ (s : Store) (a : Int) (x : List UInt8), x.length ≤ 1048576 ∧ WildS s ∧ run M 423 [.c (.sl false 1 R)] [] = some (.tup [.a (encStore s), .c (I a), .c (S x)], []) := by
  obtain ⟨h0, k1, kp, ks⟩ := h
  obtain ⟨q0, h1⟩ := spec_l01New.says k1 hR
  obtain ⟨x, i1, q1, hx, hi1, h2⟩ := spec_l01Pick.says kp hR 0 q0 (Nat.zero_le _) names4 (by decide) (by decide)
  obtain ⟨s, a, b, hs, h3⟩ := spec_l07Some.says ks hR
  have e0 : ((0 : Nat) : Int) = 0 := rfl
  simp only [curD, e0, names4, List.map_cons, List.map_nil] at h1 h2
  refine ⟨s, a, x, names4_len hx, hs, run_code (b := spec_DrawRenameBox.m) h0 ⟨0, ?_⟩⟩
  simp only [encStore, boxes, ints] at h3 ⊢
  generalize s.boxes.map encBox = ra at *
  generalize irow s.gone = ga at *
  simp (maxSteps := 1000000) [exB, spec_DrawRenameBox.m, spec_DrawRenameBox.b, bs_get, List.take_of_length_le, setAt, str_add, h1, h2, h3]
theorem spec_DrawMakeBox.says (h : spec_DrawMakeBox.k M) {R : List (List T)} (hR : Bytes R) :
    ∃ (s : Store) (a : Int) (x : List UInt8), x.length ≤ 1048576 ∧ WildS s ∧ run M 422 [.c (.sl false 1 R)] [] = some (.tup [.a (encStore s), .c (I a), .c (S x)], []) := by
  obtain ⟨h0, k1, ko, ki, kp, ks⟩ := h
  obtain ⟨q0, h1⟩ := spec_l01New.says k1 hR
  obtain ⟨x, i1, q1, hx, hi1, h2⟩ := spec_l01Pick.says kp hR 0 q0 (Nat.zero_le _) names4 (by decide) (by decide)
  obtain ⟨g, i2, q2, hg, hi2, h3⟩ := spec_l01PickInt.says ki hR i1 q1 hi1 [55, 90, 300, 0, 10000] (by decide) (by decide)
  obtain ⟨o, i3, q3, hi3, h4⟩ := spec_l01Once.says ko hR i2 q2 hi2 6 (by omega) (by omega)
  obtain ⟨s, a, b, hs, h5⟩ := spec_l07Some.says ks hR
  have e0 : ((0 : Nat) : Int) = 0 := rfl
  simp only [curD, e0, names4, List.map_cons, List.map_nil, Int.cast_ofNat_Int] at h1 h2 h3 h4
  refine ⟨s, if o then a else g, x, names4_len hx, hs, run_code (b := spec_DrawMakeBox.m) h0 ⟨0, ?_⟩⟩
  simp only [encStore, boxes, ints] at h5 ⊢
  generalize s.boxes.map encBox = ra at *
  generalize irow s.gone = ga at *
  cases o <;> simp (maxSteps := 1000000) [exB, spec_DrawMakeBox.m, spec_DrawMakeBox.b, bs_get, List.take_of_length_le, setAt, str_add, h1, h2, h3, h4, h5]
end Mx

namespace Mx
open Go
attribute [-simp] exC step stepE touch idsV idsO doCall
variable {M : Nat → Option Body}
theorem storeIn_eq {s : Store} (h : StoreIn s) : StoreEq s := ⟨h.b, h.g, fun b hb => ⟨(h.i b hb).m, (h.i b hb).g, (h.i b hb).f⟩⟩
theorem ok_eq {s : Store} (h : storeOk s = true) : StoreEq s := storeIn_eq (ok_store h).in_
theorem makeBox_eq {s : Store} (h : WildS s) (g : Int) (nm : List UInt8) : StoreEq (makeBox s g nm).1 := by
  unfold makeBox
  split
  · split
    · rename_i c; exact ok_eq c
    · exact storeIn_eq h.t.in_
  · exact storeIn_eq h.t.in_
theorem stamped_eq {s : Store} (h : WildS s) (i : Nat) (b : Box) : StoreEq (stamped s i b).1 := by
  unfold stamped
  split
  · rename_i c; exact ok_eq c
  · exact storeIn_eq h.t.in_
theorem at_eq {s : Store} (h : WildS s) (g : Int) {f : Nat → Box → Store × Bool} (hf : ∀ i (hi : i < s.boxes.length), StoreEq (f i s.boxes[i]).1) : StoreEq (at_ s g f).1 := by
  cases c : boxO s.boxes g with
  | none => rw [at_none c]; exact storeIn_eq h.t.in_
  | some i =>
    obtain ⟨hi, _⟩ := boxO_some c
    rw [at_some c hi]; exact hf i hi
theorem renameBox_eq {s : Store} (h : WildS s) (g : Int) (nm : List UInt8) : StoreEq (renameBox s g nm).1 := by
  unfold renameBox
  split
  · exact at_eq h g fun i hi => stamped_eq h i _
  · exact storeIn_eq h.t.in_
theorem putMail_eq {s : Store} (h : WildS s) (g m f : Int) (x : List UInt8) : StoreEq (putMail s g m f x).1 := by
  unfold putMail
  split
  · refine at_eq h g fun i hi => ?_
    split
    · exact stamped_eq h i _
    · exact storeIn_eq h.t.in_
  · exact storeIn_eq h.t.in_
theorem markMail_eq {s : Store} (h : WildS s) (g m f : Int) : StoreEq (markMail s g m f).1 := by
  unfold markMail
  split
  · refine at_eq h g fun i hi => ?_
    split
    · exact stamped_eq h i _
    · exact storeIn_eq h.t.in_
  · exact storeIn_eq h.t.in_
theorem dropMail_eq {s : Store} (h : WildS s) (g m : Int) : StoreEq (dropMail s g m).1 := by
  cases c : storeOk s with
  | true => exact ok_eq (dropMail_ok c g m)
  | false => unfold dropMail; rw [c]; exact storeIn_eq h.t.in_
theorem dropBox_eq {s : Store} (h : WildS s) (g : Int) : StoreEq (dropBox s g).1 := by
  unfold dropBox
  split
  · rename_i c
    refine at_eq h g fun i hi => ⟨?_, ?_, fun b hb => ?_⟩
    · have := h.t.in_.b
      simp only [List.length_append, List.length_take, List.length_drop]; omega
    · have := gput_len s.gone g
      simp only; omega
    · have hm : b ∈ s.boxes := by
        rcases List.mem_append.1 hb with q | q
        · exact List.mem_of_mem_take q
        · exact List.mem_of_mem_drop q
      exact (storeIn_eq h.t.in_).box b hm
  · exact storeIn_eq h.t.in_
theorem sameAll_refl (s : Store) : sameAll s s = true := by simp [sameAll, alike]
theorem sameAll_self2 (h : laws_sameAll.k M) {s : Store} (hs : StoreEq s) : run M 421 [.a (encStore s), .a (encStore s)] [] = some (.c (.bool true), []) := by
  have := laws_sameAll.says h s s hs
  rwa [sameAll_refl] at this
set_option maxHeartbeats 8000000 in
set_option maxRecDepth 100000 in
theorem laws_FnStoresTold.says (h : laws_FnStoresTold.k M) (R : List (List T)) (hl : R.length ≤ 9223372036854775807) (hr : ∀ (i : Nat) (r : List T), R[i]? = some r → ∃ n : Int, r = [.int .u8 n]) :
    run M 397 [.c (.sl false 1 R)] [] = some (.c (.bool true), []) := by
  obtain ⟨h0, kbig, knew, ksok, kiok, sMB, sPM, sMM, sDM, sRB, sDB, iMB, iPM, iRB, iDB, ksa, d1, d2, d3, d4, d5, d6, iMM, iDM, d7, kns⟩ := h
  have hbig := laws_big.says kbig R hl
  refine run_code (b := laws_FnStoresTold.m) h0 ⟨0, ?_⟩
  by_cases cb : 1048576 < R.length
  · rw [decide_eq_true cb] at hbig
    simp (maxSteps := 1000000) [exB, laws_FnStoresTold.m, laws_FnStoresTold.b, bs_get, List.take_of_length_le, setAt, str_add, hbig]
  rw [decide_eq_false cb] at hbig
  have hR : Bytes R := ⟨by omega, hr⟩
  obtain ⟨s1, g1, n1, l1, w1, e1⟩ := spec_DrawMakeBox.says d1 hR
  obtain ⟨s2, g2, n2, l2, w2, e2⟩ := spec_DrawRenameBox.says d2 hR
  obtain ⟨s3, g3, w3, e3⟩ := spec_DrawDropBox.says d3 hR
  obtain ⟨s4, g4, m4, f4, t4, w4, e4⟩ := spec_DrawPutMail.says d4 hR
  obtain ⟨s5, g5, m5, f5, w5, e5⟩ := spec_DrawMarkMail.says d5 hR
  obtain ⟨s6, g6, m6, w6, e6⟩ := spec_DrawDropMail.says d6 hR
  obtain ⟨s7, w7, e7⟩ := spec_DrawStoreOk.says d7 hR
  have a1 := impl_MakeBox.says iMB s1 w1.t g1 n1 l1
  have b1 := spec_MakeBox.says sMB s1 w1.t g1 n1 l1
  have c1 := sameAll_self2 ksa (makeBox_eq w1 g1 n1)
  have a2 := impl_RenameBox.says iRB s2 w2.t g2 n2 l2
  have b2 := spec_RenameBox.says sRB s2 w2.t g2 n2 l2
  have c2 := sameAll_self2 ksa (renameBox_eq w2 g2 n2)
  have a3 := impl_DropBox.says iDB s3 w3.t g3
  have b3 := spec_DropBox.says sDB s3 w3.t g3
  have c3 := sameAll_self2 ksa (dropBox_eq w3 g3)
  have a4 := impl_PutMail.says iPM s4 w4.t g4 m4 f4 t4
  have b4 := spec_PutMail.says sPM s4 w4.t g4 m4 f4 t4
  have c4 := sameAll_self2 ksa (putMail_eq w4 g4 m4 f4 t4)
  have a5 := impl_MarkMail.says iMM s5 w5.t g5 m5 f5
  have b5 := spec_MarkMail.says sMM s5 w5.t g5 m5 f5
  have c5 := sameAll_self2 ksa (markMail_eq w5 g5 m5 f5)
  have a6 := impl_DropMail.says iDM s6 w6.t g6 m6
  have b6 := spec_DropMail.says sDM s6 w6.t g6 m6
  have c6 := sameAll_self2 ksa (dropMail_eq w6 g6 m6)
  have a7 := impl_StoreOk.says kiok s7 w7.t.in_
  have b7 := spec_StoreOk.says ksok s7 w7.t.in_
  have c7 := impl_NextStamp.says kns s7 w7.t.time
  have ht := w7.t.time
  have e9 : IntKind.i64.wrap (s7.time + 1) = s7.time + 1 := wrap_i64 (by omega) (by omega)
  have a8 := impl_StoreNew.new knew 2
  have b8 := impl_StoreOk.says kiok ⟨2, 0, [], []⟩ ⟨by simp, by simp, by simp, by simp⟩
  have o8 : storeOk ⟨2, 0, [], []⟩ = true := by decide
  rw [o8] at b8
  generalize makeBox s1 g1 n1 = y1 at *
  generalize renameBox s2 g2 n2 = y2 at *
  generalize dropBox s3 g3 = y3 at *
  generalize putMail s4 g4 m4 f4 t4 = y4 at *
  generalize markMail s5 g5 m5 f5 = y5 at *
  generalize dropMail s6 g6 m6 = y6 at *
  generalize storeOk s7 = o7 at *
  obtain ⟨y1, o1⟩ := y1
  obtain ⟨y2, o2⟩ := y2
  obtain ⟨y3, o3⟩ := y3
  obtain ⟨y4, o4⟩ := y4
  obtain ⟨y5, o5⟩ := y5
  obtain ⟨y6, o6⟩ := y6
  clear w1 w2 w3 w4 w5 w6 w7
  simp only [encStore, encStoreO, boxes, ints, List.map_nil, irow_nil] at e1 e2 e3 e4 e5 e6 e7 a1 b1 c1 a2 b2 c2 a3 b3 c3 a4 b4 c4 a5 b5 c5 a6 b6 c6 a7 b7 c7 a8 b8
  generalize s1.boxes.map encBox = r1 at *
  generalize irow s1.gone = p1 at *
  generalize s2.boxes.map encBox = r2 at *
  generalize irow s2.gone = p2 at *
  generalize s3.boxes.map encBox = r3 at *
  generalize irow s3.gone = p3 at *
  generalize s4.boxes.map encBox = r4 at *
  generalize irow s4.gone = p4 at *
  generalize s5.boxes.map encBox = r5 at *
  generalize irow s5.gone = p5 at *
  generalize s6.boxes.map encBox = r6 at *
  generalize irow s6.gone = p6 at *
  generalize s7.boxes.map encBox = r7 at *
  generalize irow s7.gone = p7 at *
  generalize y1.boxes.map encBox = v1 at *
  generalize irow y1.gone = z1 at *
  generalize y2.boxes.map encBox = v2 at *
  generalize irow y2.gone = z2 at *
  generalize y3.boxes.map encBox = v3 at *
  generalize irow y3.gone = z3 at *
  generalize y4.boxes.map encBox = v4 at *
  generalize irow y4.gone = z4 at *
  generalize y5.boxes.map encBox = v5 at *
  generalize irow y5.gone = z5 at *
  generalize y6.boxes.map encBox = v6 at *
  generalize irow y6.gone = z6 at *
  simp (maxSteps := 1000000) [exB, laws_FnStoresTold.m, laws_FnStoresTold.b, bs_get, List.take_of_length_le, setAt, str_add, hbig, e1, e2, e3, e4, e5, e6, e7, a1, b1, c1, a2, b2, c2, a3, b3, c3, a4, b4, c4, a5, b5, c5, a6, b6, c6, a7, b7, c7, a8, b8, e9]
theorem laws_FnStoresTold.row (h : laws_FnStoresTold.k M) {as : List V} (ha : HasVs [.cell (.sl [.int .u8])] as) : run M 397 as [] = some (.c (.bool true), []) := by
  cases ha with | cons h0 ha =>
  cases ha
  cases h0 with | cell h0 =>
  cases h0 with | sl _ rows hl h1 h2 =>
  refine laws_FnStoresTold.says h rows (Nat.le_trans hl (by decide)) fun i r hr => ?_
  have hlen := h1 i r hr
  match r, hlen with
  | [a], _ =>
    obtain ⟨n, rfl⟩ := has_int (h2 i 0 [a] (.int .u8) a hr rfl rfl)
    exact ⟨n, rfl⟩
end Mx
