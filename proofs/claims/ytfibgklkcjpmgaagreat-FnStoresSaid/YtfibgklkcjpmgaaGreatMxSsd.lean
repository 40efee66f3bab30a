/-
  What more of the functions compute, each by a small evaluation; no condition beyond what each says.
-/
import Derived.Test.YtfibgklkcjpmgaaGreatMxSsc
set_option linter.unusedSimpArgs false
set_option linter.unusedVariables false
namespace Mx
open Go
variable {M : Nat → Option Body}
def flagMail (b : Box) (g n t w : Int) : Box × Bool := match mailO b.mails g with
  | none => (b, false)
  | some k => match b.mails[k]? with
    | none => (b, false)
    | some m => if boxOk b = true ∧ inR 0 n 7 = true ∧ stampOk t w = true then ({ b with mails := b.mails.set k { m with flags := setFlags m.flags n t w } }, true) else (b, false)
theorem mailO_lt {l : List Mail} {g : Int} {k : Nat} (h : mailO l g = some k) : k < l.length := atO_lt l g _ _ _ h
set_option maxHeartbeats 1000000 in
theorem spec_FlagMail.says (h : spec_FlagMail.k M) (b : Box) (hb : BoxIn b) (g n t w : Int) : run M 84 [.a (encBox b), .c (I g), .c (I n), .a [I t, I w]] [] = some (.tup [.a (encBoxO (flagMail b g n t w).1), .c (.bool (flagMail b g n t w).2)], []) := by
  obtain ⟨h0, k2, k1, k3, k4, k5, k6⟩ := h
  have h1 := spec_MailAt.says k1 b g hb.m
  have h2 := spec_BoxOk.says k2 b hb.ok.1 hb.ok.2.1 hb.ok.2.2.1 hb.ok.2.2.2
  have h3 := spec_l01In.inR k3 n 0 7
  have h4 := spec_l06Copy.says k4 b hb
  have h5 := spec_StampOk.says k5 t w
  refine run_code (b := spec_FlagMail.m) h0 ⟨0, ?_⟩
  have e7 : (b.mails.map encMail).length = b.mails.length := by simp
  have e8 := irow_length b.gone
  unfold flagMail
  cases hk : mailO b.mails g with
  | none =>
    rw [hk] at h1
    simp only [intO] at h1
    simp only [encBox, encBoxO, mails, ints] at *
    generalize boxOk b = ok at *
    generalize b.mails.map encMail = rm at *
    generalize irow b.gone = rg at *
    cases ok <;> simp (maxSteps := 1000000) [exB, spec_FlagMail.m, spec_FlagMail.b, List.range_succ, bs_get, setAt, h1, h2, h4, e7, e8, List.take_of_length_le]
  | some k =>
    have hlt := mailO_lt hk
    rw [hk] at h1
    simp only [intO] at h1
    have h6 := spec_SetFlags.says k6 b.mails[k].flags n t w (hb.f _ (List.getElem_mem hlt))
    have hat : (b.mails.map encMail)[k]'(by rw [e7]; exact hlt) = [I b.mails[k].gid, I b.mails[k].uid, regs b.mails[k].flags, S b.mails[k].text] := by rw [List.getElem_map]
    have hset : (b.mails.set k { b.mails[k] with flags := setFlags b.mails[k].flags n t w }).map encMail = (b.mails.map encMail).set k [I b.mails[k].gid, I b.mails[k].uid, .sl false 3 ((setFlags b.mails[k].flags n t w).map encReg), S b.mails[k].text] := by rw [List.map_set]
    have hng : ¬ (k : Int) < 0 := by omega
    simp only [List.getElem?_eq_getElem hlt]
    cases c1 : boxOk b
    · rw [c1] at h2
      simp only [Bool.false_eq_true, false_and, if_false]
      simp only [encBox, encBoxO, mails, ints] at *
      generalize b.mails.map encMail = rm at *
      generalize irow b.gone = rg at *
      simp (maxSteps := 1000000) [exB, spec_FlagMail.m, spec_FlagMail.b, List.range_succ, bs_get, setAt, h1, h2, h4, e7, e8, List.take_of_length_le]
    rw [c1] at h2
    cases c2 : inR 0 n 7
    · rw [c2] at h3
      simp only [Bool.false_eq_true, false_and, and_false, if_false]
      simp only [encBox, encBoxO, mails, ints] at *
      generalize b.mails.map encMail = rm at *
      generalize irow b.gone = rg at *
      simp (maxSteps := 1000000) [exB, spec_FlagMail.m, spec_FlagMail.b, List.range_succ, bs_get, setAt, h1, h2, h3, h4, e7, e8, hng, List.take_of_length_le]
    rw [c2] at h3
    cases c3 : stampOk t w
    · rw [c3] at h5
      simp only [Bool.false_eq_true, and_false, if_false]
      simp only [encBox, encBoxO, mails, ints] at *
      generalize b.mails.map encMail = rm at *
      generalize irow b.gone = rg at *
      simp (maxSteps := 1000000) [exB, spec_FlagMail.m, spec_FlagMail.b, List.range_succ, bs_get, setAt, h1, h2, h3, h4, h5, e7, e8, hng, List.take_of_length_le]
    rw [c3] at h5
    simp only [and_self, if_true]
    simp only [encBox, encBoxO, mails, ints, hset] at *
    generalize b.mails.map encMail = rm at *
    generalize irow b.gone = rg at *
    simp (maxSteps := 1000000) [exB, spec_FlagMail.m, spec_FlagMail.b, List.range_succ, bs_get, setAt, h1, h2, h3, h4, h5, h6, e7, e8, hng, hlt, hat, List.take_of_length_le]
def addMail (b : Box) (g f : Int) (text : List UInt8) (t w : Int) : Box × Bool :=
  if boxOk b = true ∧ mailO b.mails g = none ∧ ¬ g ∈ b.gone ∧ inR 0 f 7 = true ∧ boxOk { b with mails := b.mails ++ [⟨g, b.next, flagsNew f t w, text⟩], next := b.next + 1 } = true
  then ({ b with mails := b.mails ++ [⟨g, b.next, flagsNew f t w, text⟩], next := b.next + 1 }, true) else (b, false)
set_option maxHeartbeats 2000000 in
theorem impl_AddMail.says (h : impl_AddMail.k M) (b : Box) (hb : BoxIn b) (g f : Int) (text : List UInt8) (t w : Int) :
    run M 70 [.a (encBox b), .c (I g), .c (I f), .c (S text), .a [I t, I w]] [] = some (.tup [.a (encBoxO (addMail b g f text t w).1), .c (.bool (addMail b g f text t w).2)], []) := by
  obtain ⟨h0, k1, k2, k3, k4, k5, k6⟩ := h
  have h1 := impl_MailAt.says k1 b g hb.m
  have h2 := impl_BoxOk.says k2 b hb.ok.1 hb.ok.2.1 hb.ok.2.2.1 hb.ok.2.2.2
  have h3 := impl_isFlags.says k3 f
  have h4 := impl_copyBox.says k4 b hb
  have h5 := slices_Contains_int_int.says k5 b.gone g (by have := hb.g; omega)
  have h6 := impl_FlagsNew.says k6 f t w
  refine run_code (b := impl_AddMail.m) h0 ⟨0, ?_⟩
  have e7 : (b.mails.map encMail).length = b.mails.length := by simp
  have e8 := irow_length b.gone
  unfold addMail
  cases c1 : boxOk b
  · rw [c1] at h2
    simp only [Bool.false_eq_true, false_and, if_false]
    simp only [encBox, encBoxO, mails, ints] at *
    generalize b.mails.map encMail = rm at *
    generalize irow b.gone = rg at *
    simp (maxSteps := 1000000) [exB, impl_AddMail.m, impl_AddMail.b, List.range_succ, bs_get, setAt, h2, h4, e7, e8, List.take_of_length_le]
  rw [c1] at h2
  cases hk : mailO b.mails g with
  | some k =>
    have hge : (0 : Int) ≤ k := by omega
    rw [hk] at h1
    simp only [intO] at h1
    simp only [reduceCtorEq, false_and, and_false, if_false]
    simp only [encBox, encBoxO, mails, ints] at *
    generalize b.mails.map encMail = rm at *
    generalize irow b.gone = rg at *
    simp (maxSteps := 1000000) [exB, impl_AddMail.m, impl_AddMail.b, List.range_succ, bs_get, setAt, h1, h2, h4, e7, e8, hge, List.take_of_length_le]
  | none =>
  rw [hk] at h1
  simp only [intO] at h1
  by_cases c2 : g ∈ b.gone
  · rw [decide_eq_true c2] at h5
    simp only [c2, not_true_eq_false, false_and, and_false, if_false]
    simp only [encBox, encBoxO, mails, ints] at *
    generalize b.mails.map encMail = rm at *
    generalize irow b.gone = rg at *
    simp (maxSteps := 1000000) [exB, impl_AddMail.m, impl_AddMail.b, List.range_succ, bs_get, setAt, h1, h2, h4, h5, e7, e8, List.take_of_length_le]
  rw [decide_eq_false c2] at h5
  cases c3 : inR 0 f 7
  · rw [c3] at h3
    simp only [Bool.false_eq_true, false_and, and_false, if_false]
    simp only [encBox, encBoxO, mails, ints] at *
    generalize b.mails.map encMail = rm at *
    generalize irow b.gone = rg at *
    simp (maxSteps := 1000000) [exB, impl_AddMail.m, impl_AddMail.b, List.range_succ, bs_get, setAt, h1, h2, h3, h4, h5, e7, e8, List.take_of_length_le]
  rw [c3] at h3
  have hnx : b.next ≤ 1000000000 ∧ 0 ≤ b.next := by
    have := (boxOk_vars c1).2.2.2.2.1; exact ⟨this.2, this.1⟩
  have hml := (boxOk_vars c1).2.2.2.2.2.1
  have e9 : IntKind.i64.wrap (b.next + 1) = b.next + 1 := wrap_i64 (by omega) (by omega)
  have hout : BoxIn { b with mails := b.mails ++ [⟨g, b.next, flagsNew f t w, text⟩], next := b.next + 1 } := by
    refine ⟨by simp; omega, hb.g, hb.n, fun m hm => ?_⟩
    rcases List.mem_append.1 hm with hm | hm
    · exact hb.f m hm
    · simp only [List.mem_singleton] at hm
      subst hm; simp [flagsNew]
  have h7 := impl_BoxOk.says k2 _ hout.ok.1 hout.ok.2.1 hout.ok.2.2.1 hout.ok.2.2.2
  have e10 : (b.mails ++ [(⟨g, b.next, flagsNew f t w, text⟩ : Mail)]).map encMail = b.mails.map encMail ++ [[I g, I b.next, .sl false 3 ((flagsNew f t w).map encReg), S text]] := by simp
  have e11 : b.mails.length + 1 ≤ 4294967296 := by omega
  simp only [encBox, mails, e10] at h7
  simp only [hk, c2, not_false_eq_true, true_and]
  cases c4 : boxOk { b with mails := b.mails ++ [⟨g, b.next, flagsNew f t w, text⟩], next := b.next + 1 }
  · rw [c4] at h7
    simp only [Bool.false_eq_true, if_false]
    simp only [encBox, encBoxO, mails, ints] at *
    generalize (flagsNew f t w).map encReg = rf at *
    generalize b.mails.map encMail = rm at *
    generalize irow b.gone = rg at *
    simp (maxSteps := 1000000) [exB, impl_AddMail.m, impl_AddMail.b, List.range_succ, bs_get, setAt, h1, h2, h3, h4, h5, h6, h7, e7, e8, e9, e11, List.take_of_length_le]
  · rw [c4] at h7
    simp only [if_true]
    simp only [encBox, encBoxO, mails, ints, e10] at *
    generalize (flagsNew f t w).map encReg = rf at *
    generalize b.mails.map encMail = rm at *
    generalize irow b.gone = rg at *
    simp (maxSteps := 1000000) [exB, impl_AddMail.m, impl_AddMail.b, List.range_succ, bs_get, setAt, h1, h2, h3, h4, h5, h6, h7, e7, e8, e9, e11, List.take_of_length_le]
set_option maxHeartbeats 2000000 in
theorem spec_AddMail.says (h : spec_AddMail.k M) (b : Box) (hb : BoxIn b) (g f : Int) (text : List UInt8) (t w : Int) :
    run M 81 [.a (encBox b), .c (I g), .c (I f), .c (S text), .a [I t, I w]] [] = some (.tup [.a (encBoxO (addMail b g f text t w).1), .c (.bool (addMail b g f text t w).2)], []) := by
  obtain ⟨h0, k2, k1, k3, k5, k4, k6⟩ := h
  have h1 := spec_MailAt.says k1 b g hb.m
  have h2 := spec_BoxOk.says k2 b hb.ok.1 hb.ok.2.1 hb.ok.2.2.1 hb.ok.2.2.2
  have h3 := spec_l01In.inR k3 f 0 7
  have h4 := spec_l06Copy.says k4 b hb
  have h5 := spec_l06In.says k5 b.gone g (by have := hb.g; omega)
  have h6 := spec_FlagsNew.says k6 f t w
  refine run_code (b := spec_AddMail.m) h0 ⟨0, ?_⟩
  have e7 : (b.mails.map encMail).length = b.mails.length := by simp
  have e8 := irow_length b.gone
  unfold addMail
  cases c1 : boxOk b
  · rw [c1] at h2
    simp only [Bool.false_eq_true, false_and, if_false]
    simp only [encBox, encBoxO, mails, ints] at *
    generalize b.mails.map encMail = rm at *
    generalize irow b.gone = rg at *
    simp (maxSteps := 1000000) [exB, spec_AddMail.m, spec_AddMail.b, List.range_succ, bs_get, setAt, h2, h4, e7, e8, List.take_of_length_le]
  rw [c1] at h2
  cases hk : mailO b.mails g with
  | some k =>
    have hge : (0 : Int) ≤ k := by omega
    rw [hk] at h1
    simp only [intO] at h1
    simp only [reduceCtorEq, false_and, and_false, if_false]
    simp only [encBox, encBoxO, mails, ints] at *
    generalize b.mails.map encMail = rm at *
    generalize irow b.gone = rg at *
    simp (maxSteps := 1000000) [exB, spec_AddMail.m, spec_AddMail.b, List.range_succ, bs_get, setAt, h1, h2, h4, e7, e8, hge, List.take_of_length_le]
  | none =>
  rw [hk] at h1
  simp only [intO] at h1
  by_cases c2 : g ∈ b.gone
  · rw [decide_eq_true c2] at h5
    simp only [c2, not_true_eq_false, false_and, and_false, if_false]
    simp only [encBox, encBoxO, mails, ints] at *
    generalize b.mails.map encMail = rm at *
    generalize irow b.gone = rg at *
    simp (maxSteps := 1000000) [exB, spec_AddMail.m, spec_AddMail.b, List.range_succ, bs_get, setAt, h1, h2, h4, h5, e7, e8, List.take_of_length_le]
  rw [decide_eq_false c2] at h5
  cases c3 : inR 0 f 7
  · rw [c3] at h3
    simp only [Bool.false_eq_true, false_and, and_false, if_false]
    simp only [encBox, encBoxO, mails, ints] at *
    generalize b.mails.map encMail = rm at *
    generalize irow b.gone = rg at *
    simp (maxSteps := 1000000) [exB, spec_AddMail.m, spec_AddMail.b, List.range_succ, bs_get, setAt, h1, h2, h3, h4, h5, e7, e8, List.take_of_length_le]
  rw [c3] at h3
  have hnx : b.next ≤ 1000000000 ∧ 0 ≤ b.next := by
    have := (boxOk_vars c1).2.2.2.2.1; exact ⟨this.2, this.1⟩
  have hml := (boxOk_vars c1).2.2.2.2.2.1
  have e9 : IntKind.i64.wrap (b.next + 1) = b.next + 1 := wrap_i64 (by omega) (by omega)
  have hout : BoxIn { b with mails := b.mails ++ [⟨g, b.next, flagsNew f t w, text⟩], next := b.next + 1 } := by
    refine ⟨by simp; omega, hb.g, hb.n, fun m hm => ?_⟩
    rcases List.mem_append.1 hm with hm | hm
    · exact hb.f m hm
    · simp only [List.mem_singleton] at hm
      subst hm; simp [flagsNew]
  have h7 := spec_BoxOk.says k2 _ hout.ok.1 hout.ok.2.1 hout.ok.2.2.1 hout.ok.2.2.2
  have e10 : (b.mails ++ [(⟨g, b.next, flagsNew f t w, text⟩ : Mail)]).map encMail = b.mails.map encMail ++ [[I g, I b.next, .sl false 3 ((flagsNew f t w).map encReg), S text]] := by simp
  have e11 : b.mails.length + 1 ≤ 4294967296 := by omega
  simp only [encBox, mails, e10] at h7
  simp only [hk, c2, not_false_eq_true, true_and]
  cases c4 : boxOk { b with mails := b.mails ++ [⟨g, b.next, flagsNew f t w, text⟩], next := b.next + 1 }
  · rw [c4] at h7
    simp only [Bool.false_eq_true, if_false]
    simp only [encBox, encBoxO, mails, ints] at *
    generalize (flagsNew f t w).map encReg = rf at *
    generalize b.mails.map encMail = rm at *
    generalize irow b.gone = rg at *
    simp (maxSteps := 1000000) [exB, spec_AddMail.m, spec_AddMail.b, List.range_succ, bs_get, setAt, h1, h2, h3, h4, h5, h6, h7, e7, e8, e9, e11, List.take_of_length_le]
  · rw [c4] at h7
    simp only [if_true]
    simp only [encBox, encBoxO, mails, ints, e10] at *
    generalize (flagsNew f t w).map encReg = rf at *
    generalize b.mails.map encMail = rm at *
    generalize irow b.gone = rg at *
    simp (maxSteps := 1000000) [exB, spec_AddMail.m, spec_AddMail.b, List.range_succ, bs_get, setAt, h1, h2, h3, h4, h5, h6, h7, e7, e8, e9, e11, List.take_of_length_le]
end Mx

namespace Mx
attribute [simp] oTmps
open Go
variable {M : Nat → Option Body}
theorem added_eq {l : List Int} {n : Int} (hl : Asc l) : joinGone l [n] = gput l n :=
  asc_ext (joinGone_asc l [n]) (gput_asc hl) fun z => by rw [joinGone_mem, gput_mem]; simp; exact or_comm
theorem impl_added.says (h : impl_added.k M) (a : List Int) (n : Int) (ha : a.length ≤ 1048576) : run M 163 [.c (ints a), .c (I n)] [] = some (.c (.sl true 1 (irow (joinGone a [n]))), []) := by
  obtain ⟨h0, k1, k2, k3⟩ := h
  have h1 := impl_copyInts.says k1 a ha
  have hab : (a ++ [n]).length ≤ 4294967296 := by simp; omega
  have h2 := run_sort k2 (a ++ [n]) hab
  have hsl : (sortI (a ++ [n])).length = (a ++ [n]).length := by simp [sortI]
  have h3 := run_compact k3 (sortI (a ++ [n])) (by rw [hsl]; exact hab)
  rw [joinGone_sort] at h3
  have hjl : (joinGone a [n]).length ≤ (a ++ [n]).length := by
    have := gfold_len (a ++ [n]) []; simp only [joinGone]; simpa using this
  refine run_code (b := impl_added.m) h0 ⟨0, ?_⟩
  rw [hsl] at h3
  have e1 : irow (a ++ [n]) = irow a ++ [[I n]] := irow_snoc a n
  have e2 : irow (joinGone a [n] ++ List.replicate ((a ++ [n]).length - (joinGone a [n]).length) 0) = irow (joinGone a [n]) ++ irow (List.replicate ((a ++ [n]).length - (joinGone a [n]).length) 0) := by simp [irow]
  rw [e1] at h2
  rw [e2] at h3
  simp only [List.length_append, List.length_singleton] at h2 h3 hab hjl
  have l1 := irow_length a
  have l3 := irow_length (joinGone a [n])
  have l4 : (irow (List.replicate (a.length + 1 - (joinGone a [n]).length) 0)).length = a.length + 1 - (joinGone a [n]).length := by simp [irow]
  have s1 := irow_scalar (sortI (a ++ [n]))
  have s2 := irow_scalar (joinGone a [n])
  have l5 := irow_length (sortI (a ++ [n]))
  rw [hsl] at l5
  simp only [List.length_append, List.length_singleton] at l5
  simp only [ints] at h1 ⊢
  generalize irow (List.replicate (a.length + 1 - (joinGone a [n]).length) 0) = rz at *
  generalize irow (sortI (a ++ [n])) = rs at *
  generalize joinGone a [n] = j at *
  generalize irow j = rj at *
  have e5 : a.length ≤ 4294967296 := by omega
  have e6 : j.length ≤ rj.length + rz.length := by omega
  generalize irow a = ra at *
  simp (maxSteps := 1000000) [exB, impl_added.m, impl_added.b, List.range_succ, bs_get, setAt, h1, h2, h3, hab, l1, l3, l4, l5, e5, e6, s1, s2, List.take_of_length_le]
theorem last_of {α : Type} (x : α) (q : List α) : ∃ q' y, x :: q = q' ++ [y] ∧ q'.length = q.length := by
  refine ⟨(x :: q).dropLast, (x :: q).getLast (by simp), (List.dropLast_concat_getLast (by simp)).symm, by simp⟩
end Mx

namespace Mx
open Go
variable {M : Nat → Option Body}
theorem gidsOk_asc {l : List Int} {most : Int} (h : gidsOk l most = true) : Asc l := by
  simp only [gidsOk, Bool.and_eq_true, decide_eq_true_eq, Option.isNone_iff_eq_none, firstN_isNone] at h
  have hn : ∀ j (hj : j < l.length), ∀ i (hi : i < j), l[i]'(by omega) < l[j] := by
    intro j
    induction j with
    | zero => intro _ i hi; omega
    | succ j ih =>
      intro hj i hi
      have := h.1 (j + 1) hj
      rw [badGid_at hj] at this
      simp at this
      by_cases e : i = j
      · subst e; exact this.2
      · exact Int.lt_trans (ih (by omega) i (by omega)) this.2
  exact List.pairwise_iff_getElem.2 fun i j hi hj hij => hn j hj i hij
theorem boxOk_gone {b : Box} (h : boxOk b = true) : gidsOk b.gone 40 = true := by
  simp only [boxOk, Bool.and_eq_true] at h
  exact h.1.2
def takeOut (b : Box) (g : Int) : Box × Bool := match mailO b.mails g with
  | none => (b, false)
  | some k => if boxOk b = true ∧ b.gone.length < 40 then ({ b with mails := b.mails.take k ++ b.mails.drop (k + 1), gone := gput b.gone g }, true) else (b, false)
set_option maxHeartbeats 1000000 in
theorem spec_TakeOut.says (h : spec_TakeOut.k M) (b : Box) (hb : BoxIn b) (g : Int) : run M 86 [.a (encBox b), .c (I g)] [] = some (.tup [.a (encBoxO (takeOut b g).1), .c (.bool (takeOut b g).2)], []) := by
  obtain ⟨h0, k2, k1, k5, k3⟩ := h
  have h1 := spec_MailAt.says k1 b g hb.m
  have h2 := spec_BoxOk.says k2 b hb.ok.1 hb.ok.2.1 hb.ok.2.2.1 hb.ok.2.2.2
  have h4 := spec_l06Copy.says k3 b hb
  have h5 := spec_l06Put.says k5 b.gone g (by have := hb.g; omega)
  refine run_code (b := spec_TakeOut.m) h0 ⟨0, ?_⟩
  have e7 : (b.mails.map encMail).length = b.mails.length := by simp
  have e8 := irow_length b.gone
  unfold takeOut
  cases hk : mailO b.mails g with
  | none =>
    rw [hk] at h1
    simp only [intO] at h1
    simp only [encBox, encBoxO, mails, ints] at *
    generalize boxOk b = ok at *
    generalize b.mails.map encMail = rm at *
    generalize irow b.gone = rg at *
    cases ok <;> simp (maxSteps := 1000000) [exB, spec_TakeOut.m, spec_TakeOut.b, List.range_succ, bs_get, setAt, h1, h2, h4, e7, e8, List.take_of_length_le]
  | some k =>
    have hlt := mailO_lt hk
    rw [hk] at h1
    simp only [intO] at h1
    have hng : ¬ (k : Int) < 0 := by omega
    cases c1 : boxOk b
    · rw [c1] at h2
      simp only [Bool.false_eq_true, false_and, if_false]
      simp only [encBox, encBoxO, mails, ints] at *
      generalize b.mails.map encMail = rm at *
      generalize irow b.gone = rg at *
      simp (maxSteps := 1000000) [exB, spec_TakeOut.m, spec_TakeOut.b, List.range_succ, bs_get, setAt, h1, h2, h4, e7, e8, List.take_of_length_le]
    rw [c1] at h2
    have h40 := (boxOk_vars c1).2.2.2.2.2.2.1
    have hml := (boxOk_vars c1).2.2.2.2.2.1
    by_cases c2 : b.gone.length < 40
    · have n2 : ¬ 40 ≤ b.gone.length := by omega
      have n3 : ¬ (40 : Int) ≤ (b.gone.length : Int) := by omega
      simp only [c2, and_self, if_true]
      have e9 := wrap1 (i := k) (by omega)
      have e10 : (b.mails.take k ++ b.mails.drop (k + 1)).map encMail = (b.mails.map encMail).take k ++ (b.mails.map encMail).drop (k + 1) := by simp
      have e14 : min k b.mails.length = k := by omega
      have e12 := irow_length (gput b.gone g)
      have e13 : b.mails.length ≤ min k b.mails.length + (b.mails.length - (k + 1) + 1) + 1 := by omega
      simp only [encBox, encBoxO, mails, ints, e10] at *
      generalize b.mails.map encMail = rm at *
      generalize irow b.gone = rg at *
      generalize irow (gput b.gone g) = ru at *
      have f1 : k ≤ b.mails.length := by omega
      have f2 : k + 1 ≤ b.mails.length := by omega
      have f3 : (0 : Int) ≤ k := by omega
      have f4 : (0 : Int) ≤ (k : Int) + 1 := by omega
      have f5 : (k : Int) ≤ b.mails.length := by omega
      have f6 : (k : Int) + 1 ≤ b.mails.length := by omega
      have f7 : ((k : Int) + 1).toNat = k + 1 := by omega
      have f8 : rm.take b.mails.length = rm := List.take_of_length_le (by omega)
      have f9 : k ≤ 4294967296 := by omega
      have f10 : b.mails.length ≤ 4294967296 := by omega
      have f11 : k + (b.mails.length - (k + 1)) ≤ 4294967296 := by omega
      have f13 : IntKind.i64.wrap 1 = 1 := wrap_i64 (by omega) (by omega)
      have f14 : b.mails.length ≤ 4294967297 := by omega
      have f12 : rm.length - (k + 1) ≤ 4294967296 := by omega
      by_cases z : k = 0
      · subst z
        by_cases y : b.mails.length = 1
        · have y2 : rm.drop 1 = [] := List.drop_eq_nil_of_le (by omega)
          simp (maxSteps := 1000000) [exB, spec_TakeOut.m, spec_TakeOut.b, List.range_succ, bs_get, setAt, h1, h2, h4, h5, e7, e8, e9, e12, n2, n3, f13, y, y2, List.take_of_length_le]
        · have y1 : ¬ 1 = b.mails.length := by omega
          simp (maxSteps := 1000000) [exB, spec_TakeOut.m, spec_TakeOut.b, List.range_succ, bs_get, setAt, h1, h2, h4, h5, e7, e8, e9, e12, n2, n3, f1, f2, f3, f4, f5, f6, f7, f8, f9, f10, f11, f12, f13, f14, y, y1, List.take_of_length_le]
      · have z0 : ¬ 0 = k := by omega
        by_cases y : b.mails.length = k + 1
        · have y2 : rm.drop (k + 1) = [] := List.drop_eq_nil_of_le (by omega)
          simp (maxSteps := 1000000) [exB, spec_TakeOut.m, spec_TakeOut.b, List.range_succ, bs_get, setAt, h1, h2, h4, h5, e7, e8, e9, e12, e14, hng, n2, n3, f1, f2, f3, f4, f5, f6, f7, f8, f9, f10, f11, f12, z, z0, y, y2, List.take_of_length_le]
        · have y1 : ¬ k + 1 = b.mails.length := by omega
          simp (maxSteps := 1000000) [exB, spec_TakeOut.m, spec_TakeOut.b, List.range_succ, bs_get, setAt, h1, h2, h4, h5, e7, e8, e9, e12, e14, hng, n2, n3, f1, f2, f3, f4, f5, f6, f7, f8, f9, f10, f11, f12, z, z0, y, y1, List.take_of_length_le]
    · have n2 : 40 ≤ b.gone.length := by omega
      have n3 : (40 : Int) ≤ (b.gone.length : Int) := by omega
      simp only [c2, and_false, if_false]
      simp only [encBox, encBoxO, mails, ints] at *
      generalize b.mails.map encMail = rm at *
      generalize irow b.gone = rg at *
      simp (maxSteps := 1000000) [exB, spec_TakeOut.m, spec_TakeOut.b, List.range_succ, bs_get, setAt, h1, h2, h4, e7, e8, n2, n3, hng, List.take_of_length_le]
end Mx

namespace Mx
open Go
theorem atO_some (l : List Mail) (g : Int) : ∀ d i k, atO l g d i = some k → i ≤ k ∧ ∃ h : k < l.length, (l[k]).gid = g ∧ ∀ j, i ≤ j → (hj : j < k) → (l[j]'(by omega)).gid ≠ g
  | 0, i, k, h => by simp [atO] at h
  | d + 1, i, k, h => by
    simp only [atO] at h
    split at h
    · rename_i hi
      split at h
      · rename_i e
        cases h
        exact ⟨Nat.le_refl _, hi, e, fun j h1 h2 => by omega⟩
      · rename_i e
        obtain ⟨h1, h2, h3, h4⟩ := atO_some l g d (i + 1) k h
        refine ⟨by omega, h2, h3, fun j hj hk => ?_⟩
        by_cases q : j = i
        · subst q; exact e
        · exact h4 j (by omega) hk
    · cases h
theorem atO_none (l : List Mail) (g : Int) : ∀ d i, atO l g d i = none → ∀ j, i ≤ j → j < i + d → (hj : j < l.length) → (l[j]).gid ≠ g
  | 0, i, h, j, h1, h2, hj => by omega
  | d + 1, i, h, j, h1, h2, hj => by
    simp only [atO] at h
    rw [dif_pos (by omega)] at h
    split at h
    · cases h
    · rename_i e
      by_cases q : j = i
      · subst q; exact e
      · exact atO_none l g d (i + 1) h j (by omega) (by omega) hj
theorem mailO_some {l : List Mail} {g : Int} {k : Nat} (h : mailO l g = some k) : ∃ h : k < l.length, (l[k]).gid = g ∧ ∀ j, (hj : j < k) → (l[j]'(by omega)).gid ≠ g := by
  obtain ⟨_, h1, h2, h3⟩ := atO_some l g _ _ _ h
  exact ⟨h1, h2, fun j hj => h3 j (Nat.zero_le _) hj⟩
theorem mailO_none {l : List Mail} {g : Int} : mailO l g = none ↔ ∀ m ∈ l, m.gid ≠ g := by
  constructor
  · intro h m hm
    obtain ⟨j, hj, rfl⟩ := List.getElem_of_mem hm
    exact atO_none l g _ _ h j (Nat.zero_le _) (by omega) hj
  · intro h
    cases q : mailO l g with
    | none => rfl
    | some k =>
      obtain ⟨h1, h2, _⟩ := mailO_some q
      exact (h _ (List.getElem_mem h1) h2).elim
theorem mailO_at {l : List Mail} {k : Nat} (hk : k < l.length) (h : ∀ j, (hj : j < k) → (l[j]'(by omega)).gid ≠ (l[k]).gid) : mailO l (l[k]).gid = some k := by
  cases q : mailO l (l[k]).gid with
  | none => exact (mailO_none.1 q _ (List.getElem_mem hk) rfl).elim
  | some k' =>
    obtain ⟨h1, h2, h3⟩ := mailO_some q
    rcases Nat.lt_trichotomy k' k with c | c | c
    · exact (h k' c h2).elim
    · rw [c]
    · exact (h3 k c rfl).elim
/-- a right box -/
structure Good (b : Box) : Prop where
  gid : 1 ≤ b.gid ∧ b.gid ≤ 9999
  name : nameOk b.name = true
  st : stampOk b.time b.who = true
  next : 1 ≤ b.next ∧ b.next ≤ 10000
  len : b.mails.length ≤ 10
  gone : Asc b.gone
  goneR : ∀ g ∈ b.gone, 1 ≤ g ∧ g ≤ 9999
  goneL : b.gone.length ≤ 40
  mail : ∀ m ∈ b.mails, mailOk m = true ∧ m.uid < b.next ∧ ¬ m.gid ∈ b.gone
  uids : b.mails.Pairwise (fun a c => a.uid < c.uid)
  gids : b.mails.Pairwise (fun a c => a.gid ≠ c.gid)
theorem step_asc {l : List Int} (h : ∀ j (hj : j + 1 < l.length), l[j] < l[j + 1]) : Asc l := by
  have hn : ∀ j (hj : j < l.length), ∀ i (hi : i < j), l[i]'(by omega) < l[j] := by
    intro j
    induction j with
    | zero => intro _ i hi; omega
    | succ j ih =>
      intro hj i hi
      by_cases e : i = j
      · subst e; exact h i hj
      · exact Int.lt_trans (ih (by omega) i (by omega)) (h j hj)
  exact List.pairwise_iff_getElem.2 fun i j hi hj hij => hn j hj i hij
theorem gidsOk_iff {l : List Int} {most : Int} : gidsOk l most = true ↔ Asc l ∧ (∀ g ∈ l, 1 ≤ g ∧ g ≤ 9999) ∧ (l.length : Int) ≤ most := by
  constructor
  · intro h
    exact ⟨gidsOk_asc h, (gidsOk_vars h).2, (gidsOk_vars h).1⟩
  · rintro ⟨h1, h2, h3⟩
    simp only [gidsOk, Bool.and_eq_true, decide_eq_true_eq, Option.isNone_iff_eq_none, firstN_isNone]
    refine ⟨fun j hj => ?_, h3⟩
    rw [badGid_at hj]
    have q1 := h2 _ (List.getElem_mem hj)
    simp only [Bool.or_eq_false_iff, Bool.not_eq_eq_eq_not, Bool.not_false, Bool.and_eq_false_imp, decide_eq_true_eq, decide_eq_false_iff_not]
    refine ⟨inR_iff.2 q1, fun h0 => ?_⟩
    have := List.pairwise_iff_getElem.1 h1 (j - 1) j (by omega) hj (by omega)
    omega
theorem boxOk_iff {b : Box} : boxOk b = true ↔ Good b := by
  constructor
  · intro h
    have hv := boxOk_vars h
    have hg := gidsOk_iff.1 (boxOk_gone h)
    simp only [boxOk, Bool.and_eq_true, decide_eq_true_eq, Option.isNone_iff_eq_none, firstN_isNone] at h
    obtain ⟨⟨⟨⟨⟨⟨h1, h2⟩, h3⟩, h4⟩, h5⟩, h6⟩, h7⟩ := h
    have key : ∀ i (hi : i < b.mails.length), mailOk b.mails[i] = true ∧ b.mails[i].uid < b.next ∧ (0 < i → b.mails[i - 1].uid < b.mails[i].uid) ∧ mailO b.mails b.mails[i].gid = some i ∧ ¬ b.mails[i].gid ∈ b.gone := by
      intro i hi
      have := h7 i hi
      rw [badMail_at hi] at this
      simp only [Bool.or_eq_false_iff, Bool.not_eq_eq_eq_not, Bool.not_false, Bool.and_eq_false_imp, decide_eq_true_eq, decide_eq_false_iff_not] at this
      obtain ⟨⟨⟨⟨q1, q2⟩, q3⟩, q4⟩, q5⟩ := this
      refine ⟨q1, by omega, fun h0 => by have := q3 h0; omega, ?_, q5⟩
      cases e : mailO b.mails b.mails[i].gid with
      | none => rw [e] at q4; simp only [intO] at q4; omega
      | some k => rw [e] at q4; simp only [intO] at q4; rw [show k = i by omega]
    refine ⟨inR_iff.1 h1, h2, h3, inR_iff.1 h4, h5, hg.1, hg.2.1, by omega, fun m hm => ?_, ?_, ?_⟩
    · obtain ⟨j, hj, rfl⟩ := List.getElem_of_mem hm
      have := key j hj
      exact ⟨this.1, this.2.1, this.2.2.2.2⟩
    · have ha : Asc (b.mails.map (·.uid)) := step_asc fun j hj => by
        simp only [List.length_map] at hj
        have := (key (j + 1) hj).2.2.1 (by omega)
        simpa using this
      exact List.pairwise_map.1 ha
    · refine List.pairwise_iff_getElem.2 fun i j hi hj hij e => ?_
      obtain ⟨_, _, h3⟩ := mailO_some (key j hj).2.2.2.1
      exact h3 i hij e
  · intro h
    simp only [boxOk, Bool.and_eq_true, decide_eq_true_eq, Option.isNone_iff_eq_none, firstN_isNone]
    refine ⟨⟨⟨⟨⟨⟨inR_iff.2 h.gid, h.name⟩, h.st⟩, inR_iff.2 h.next⟩, h.len⟩, gidsOk_iff.2 ⟨h.gone, h.goneR, by have := h.goneL; omega⟩⟩, fun i hi => ?_⟩
    rw [badMail_at hi]
    obtain ⟨q1, q2, q3⟩ := h.mail _ (List.getElem_mem hi)
    simp only [Bool.or_eq_false_iff, Bool.not_eq_eq_eq_not, Bool.not_false, Bool.and_eq_false_imp, decide_eq_true_eq, decide_eq_false_iff_not]
    refine ⟨⟨⟨⟨q1, by omega⟩, fun h0 => ?_⟩, ?_⟩, q3⟩
    · have := List.pairwise_iff_getElem.1 h.uids (i - 1) i (by omega) hi (by omega)
      omega
    · rw [mailO_at hi fun j hj => List.pairwise_iff_getElem.1 h.gids j i (by omega) hi hj]
      rfl
end Mx

namespace Mx
open Go
/-- a drawn box after i turns -/
structure Drawn (i : Nat) (b : Box) : Prop where
  good : Good b
  m : ∀ m ∈ b.mails, 10 ≤ m.gid ∧ m.gid ≤ 18
  g : ∀ g ∈ b.gone, 10 ≤ g ∧ g ≤ 18
  nx : b.next ≤ 4 + i
  gl : b.gone.length ≤ i
theorem Drawn.mono {i j : Nat} {b : Box} (h : Drawn i b) (hij : i ≤ j) : Drawn j b := ⟨h.good, h.m, h.g, by have := h.nx; omega, by have := h.gl; omega⟩
theorem Good.inB {b : Box} (h : Good b) : BoxIn b :=
  ⟨by have := h.len; omega, by have := h.goneL; omega, by have := (nameOk_len h.name).2; omega, fun m hm => by have := (mailOk_vars (h.mail m hm).1).2.2.1; omega⟩
theorem gput_len (l : List Int) (x : Int) : (gput l x).length ≤ l.length + 1 := by
  have h : ∀ l : List Int, (l.filter (fun y => decide (y < x))).length + (l.filter (fun y => decide (x < y))).length ≤ l.length := by
    intro l
    induction l with
    | nil => simp
    | cons a l ih =>
      simp only [List.filter_cons]
      by_cases c1 : a < x
      · have c2 : ¬ x < a := by omega
        simp [c1, c2]; omega
      · by_cases c2 : x < a
        · simp [c1, c2]; omega
        · simp [c1, c2]; omega
  have := h l
  simp only [gput, List.length_append, List.length_singleton]; omega
theorem sub_take_drop {α : Type} (l : List α) (k : Nat) : (l.take k ++ l.drop (k + 1)).Sublist l := by
  have e : l = l.take k ++ l.drop k := (List.take_append_drop k l).symm
  have h1 : (l.drop (k + 1)).Sublist (l.drop k) := by rw [← List.drop_drop]; exact List.drop_sublist 1 _
  have h2 := List.Sublist.append (List.Sublist.refl (l.take k)) h1
  rw [← e] at h2; exact h2
theorem good_take {b : Box} (h : Good b) {k : Nat} (hk : k < b.mails.length) (h40 : b.gone.length < 40) :
    Good { b with mails := b.mails.take k ++ b.mails.drop (k + 1), gone := gput b.gone (b.mails[k]).gid } := by
  have hs := sub_take_drop b.mails k
  have hq := h.mail _ (List.getElem_mem hk)
  have hv := (mailOk_vars hq.1).1
  have hgid : 1 ≤ (b.mails[k]).gid ∧ (b.mails[k]).gid ≤ 9999 := by
    have := hq.1
    simp only [mailOk, Bool.and_eq_true] at this
    exact inR_iff.1 this.1.1.1
  refine ⟨h.gid, h.name, h.st, h.next, by have := hs.length_le; have := h.len; simp only; omega, gput_asc h.gone, fun g hg => ?_, by have := gput_len b.gone (b.mails[k]).gid; simp only; omega, fun m hm => ?_, h.uids.sublist hs, h.gids.sublist hs⟩
  · rcases gput_mem.1 hg with q | q
    · rw [q]; exact hgid
    · exact h.goneR g q
  · have hm' := h.mail m (hs.subset hm)
    refine ⟨hm'.1, hm'.2.1, fun c => ?_⟩
    rcases gput_mem.1 c with q | q
    · rcases List.mem_append.1 hm with z | z
      · obtain ⟨j, hj, rfl⟩ := List.getElem_of_mem z
        rw [List.getElem_take] at q
        have hjk : j < k := by simp at hj; omega
        exact List.pairwise_iff_getElem.1 h.gids j k (by omega) hk hjk q
      · obtain ⟨j, hj, rfl⟩ := List.getElem_of_mem z
        rw [List.getElem_drop] at q
        exact List.pairwise_iff_getElem.1 h.gids k (k + 1 + j) hk (by simp at hj; omega) (by omega) q.symm
    · exact hm'.2.2 q
end Mx

namespace Mx
open Go
variable {M : Nat → Option Body}
theorem spec_l01Once.says (h : spec_l01Once.k M) {R : List (List T)} (hR : Bytes R) (i : Nat) (q : Int) (hi : i ≤ R.length) (n : Nat) (h0 : 0 < n) (hn : n ≤ 256) :
    ∃ (s : Bool) (i' : Nat) (q' : Int), i' ≤ R.length ∧ run M 175 [.c (.ptr 0 0 0 0), .c (I n)] [curD R i q] = some (.c (.bool s), [curD R i' q']) := by
  obtain ⟨hm, k1⟩ := h
  obtain ⟨x, i1, q1, hx, hi1, h1⟩ := spec_l01Below.says k1 hR i q hi n h0 (by omega)
  refine ⟨decide (x = 0), i1, q1, hi1, ?_⟩
  refine run_code (b := spec_l01Once.m) hm ⟨0, ?_⟩
  simp (maxSteps := 1000000) [exB, spec_l01Once.m, spec_l01Once.b, List.range_succ, bs_get, setAt, h1]
end Mx

namespace Mx
open Go
variable {M : Nat → Option Body}
theorem Good.flags {b : Box} (h : Good b) : ∀ m ∈ b.mails, m.flags.length ≤ 4 := fun m hm => by have := (mailOk_vars (h.mail m hm).1).2.2.1; omega
end Mx

namespace Mx
open Go
theorem Good.nd {b : Box} (h : Good b) : (Mx.gids b.mails).Nodup := List.pairwise_map.2 h.gids
end Mx

namespace Mx
open Go
variable {M : Nat → Option Body}
theorem gput_le (l : List Int) (x : Int) : (gput l x).length ≤ l.length + 1 := by
  have h : ∀ l : List Int, (l.filter (fun y => decide (y < x))).length + (l.filter (fun y => decide (x < y))).length ≤ l.length := by
    intro l
    induction l with
    | nil => simp
    | cons a l ih =>
      simp only [List.filter_cons]
      by_cases c1 : a < x
      · have c2 : ¬ x < a := by omega
        simp [c1, c2]; omega
      · by_cases c2 : x < a
        · simp [c1, c2]; omega
        · simp [c1, c2]; omega
  have := h l
  simp only [gput, List.length_append, List.length_singleton]; omega
end Mx

namespace Mx
open Go
variable {M : Nat → Option Body}
deriving instance DecidableEq for Reg
deriving instance DecidableEq for Mail
deriving instance DecidableEq for Box
/-- two lists of one length, element by element -/
theorem eq_loop {α : Type} [DecidableEq α] (la lb : List α) (hl : la.length = lb.length) {f : St → Option (Out × St)} {β : Type} (S : Nat → β → St) (c e : Nat) (E : β → St)
    (h1 : ∀ i (h : i < la.length) (h' : i < lb.length) x, la[i] = lb[i] → ∃ y, f (S i x) = some (.normal, S (i + 1) y))
    (h2 : ∀ i (h : i < la.length) (h' : i < lb.length) x, ¬ la[i] = lb[i] → ∃ n, f (S i x) = some (.ret, { t := [(c, .c (.bool false))], o := [], n := n }))
    (h3 : ∀ x, ∃ y, f (S la.length x) = some (.exit e, E y)) :
    ∃ g : β → β × Nat, ∀ x, loopN f (la.length + 1) (S 0 x) = some (if la = lb then (.exit e, E (g x).1) else (.ret, { t := [(c, .c (.bool false))], o := [], n := (g x).2 })) := by
  have key := loop_all (f := f) S (fun i => i ≤ la.length) (fun i => la.length - i) (fun i => decide (la.drop i = lb.drop i))
    (fun q (m : β × Nat) => if q = true then (.exit e, E m.1) else (.ret, { t := [(c, .c (.bool false))], o := [], n := m.2 })) (by
      intro i x hi
      by_cases hlt : i < la.length
      · have hlt' : i < lb.length := by omega
        have hd : (la.drop i = lb.drop i) ↔ (la[i] = lb[i] ∧ la.drop (i + 1) = lb.drop (i + 1)) := by
          rw [List.drop_eq_getElem_cons hlt, List.drop_eq_getElem_cons hlt', List.cons.injEq]
        by_cases c' : la[i] = lb[i]
        · obtain ⟨y, hy⟩ := h1 i hlt hlt' x c'
          exact .inl ⟨i + 1, y, hy, hlt, by omega, by rw [decide_eq_decide, hd]; simp [c']⟩
        · obtain ⟨n, hn⟩ := h2 i hlt hlt' x c'
          have hf : decide (la.drop i = lb.drop i) = false := decide_eq_false fun q => c' (hd.1 q).1
          exact .inr ⟨(x, n), by rw [hn, hf]; simp, by rw [hf]; simp⟩
      · have : i = la.length := by omega
        subst this
        obtain ⟨y, hy⟩ := h3 x
        have hd : lb.drop la.length = [] := List.drop_eq_nil_of_le (by omega)
        exact .inr ⟨(y, 0), by rw [hy]; simp [hd], by simp [hd]⟩) (la.length + 1) 0 (Nat.zero_le _) (by omega)
  obtain ⟨g, hg⟩ := key
  refine ⟨g, fun x => ?_⟩
  rw [hg x]
  simp only [List.drop_zero, decide_eq_true_eq]
theorem reg_ext {x y : Reg} (h1 : x.val = y.val) (h2 : x.time = y.time) (h3 : x.who = y.who) : x = y := by
  cases x; cases y; simp_all
theorem mail_ext {x y : Mail} (h1 : x.gid = y.gid) (h2 : x.uid = y.uid) (h3 : x.flags = y.flags) (h4 : x.text = y.text) : x = y := by
  cases x; cases y; simp_all
def smS (a b : Mail) (i : Nat) (x : Nat × Nat × Nat) : St := { t := [(2, .c (.ptr 2 x.1 0 0)), (3, .c (.ptr 3 x.2.1 0 0)), (5, .c (I i))], o := [(2, ⟨x.1, 4, true, true, [encMail a]⟩), (3, ⟨x.2.1, 4, true, true, [encMail b]⟩)], n := x.2.2 }
def smE (a b : Mail) (x : Nat × Nat × Nat) : St := { t := [(2, .c (.ptr 2 x.1 0 0)), (3, .c (.ptr 3 x.2.1 0 0)), (5, .c (I a.flags.length)), (38, .c (.bool false))], o := [(2, ⟨x.1, 4, true, true, [encMail a]⟩), (3, ⟨x.2.1, 4, true, true, [encMail b]⟩)], n := x.2.2 }
theorem spec_SameMail.says (h : spec_SameMail.k M) (a b : Mail) (ha : a.flags.length ≤ 1048576) : run M 159 [.a (encMail a), .a (encMail b)] [] = some (.c (.bool (decide (a = b))), []) := by
  refine run_code (b := spec_SameMail.m) h ⟨a.flags.length + 1, ?_⟩
  by_cases c1 : a.gid = b.gid
  rotate_left
  · have hne : ¬ a = b := fun q => c1 (by rw [q])
    simp [exB, spec_SameMail.m, spec_SameMail.b, List.range_succ, c1, hne]
  by_cases c2 : a.uid = b.uid
  rotate_left
  · have hne : ¬ a = b := fun q => c2 (by rw [q])
    simp [exB, spec_SameMail.m, spec_SameMail.b, List.range_succ, c1, c2, hne]
  by_cases c3 : a.text = b.text
  rotate_left
  · have hne : ¬ a = b := fun q => c3 (by rw [q])
    simp [exB, spec_SameMail.m, spec_SameMail.b, List.range_succ, c1, c2, c3, hne]
  by_cases c4 : a.flags.length = b.flags.length
  rotate_left
  · have hne : ¬ a = b := fun q => c4 (by rw [q])
    have c4' : ¬ (a.flags.length : Int) = b.flags.length := by omega
    simp [exB, spec_SameMail.m, spec_SameMail.b, List.range_succ, c1, c2, c3, c4, c4', hne]
  obtain ⟨g, hr⟩ := eq_loop a.flags b.flags c4 (f := exC (run M) (a.flags.length + 1) spec_SameMail.l0) (smS a b) 4 0 (smE a b)
    (fun i hi hi' x c => by
      obtain ⟨v, w, x⟩ := x
      have e5 := wrap1 (i := i) (by omega)
      simp only [Prod.exists]
      simp [smS, spec_SameMail.l0, hi, hi', e5, encReg, eqL, eqT, c])
    (fun i hi hi' x c => by
      obtain ⟨v, w, x⟩ := x
      by_cases q1 : a.flags[i].val = b.flags[i].val <;> by_cases q2 : a.flags[i].time = b.flags[i].time <;> by_cases q3 : a.flags[i].who = b.flags[i].who <;>
        first
        | exact absurd (reg_ext q1 q2 q3) c
        | simp [smS, spec_SameMail.l0, hi, hi', encReg, eqL, eqT, q1, q2, q3])
    (fun x => by
      obtain ⟨v, w, x⟩ := x
      simp only [Prod.exists]
      simp [smS, smE, spec_SameMail.l0])
  by_cases c5 : a.flags = b.flags
  · have he : a = b := mail_ext c1 c2 c5 c3
    simp only [c5, if_true] at hr
    simp [smS, smE, encMail, ← c5] at hr
    subst he
    simp [exB, spec_SameMail.m, spec_SameMail.b, List.range_succ, hr]
  · have hne : ¬ a = b := fun q => c5 (by rw [q])
    simp only [c5, if_false] at hr
    simp [smS, smE, encMail, c1, c2, c3, c4] at hr
    simp [exB, spec_SameMail.m, spec_SameMail.b, List.range_succ, encMail, c1, c2, c3, c4, hr, hne]
end Mx

namespace Mx
open Go
variable {M : Nat → Option Body}
def sanS (l : List Int) (i : Nat) (x : Nat) : St := { t := [(0, .c (ints l)), (1, .c (ints l)), (5, .c (I i))], o := [], n := x }
def sanE (l : List Int) (x : Nat) : St := { t := [(0, .c (ints l)), (1, .c (ints l)), (5, .c (I l.length)), (14, .c (.bool false))], o := [], n := x }
theorem laws_sameInts.self (h : laws_sameInts.k M) (l : List Int) (hl : l.length ≤ 1048576) : run M 158 [.c (ints l), .c (ints l)] [] = some (.c (.bool true), []) := by
  refine run_code (b := laws_sameInts.m) h ⟨l.length + 1, ?_⟩
  obtain ⟨g, hr⟩ := count_loop (f := exC (run M) (l.length + 1) laws_sameInts.l0) l.length (sanS l) 0 (sanE l)
    (fun i hi x => by
      have e3 := wrap1 (i := i) (by omega)
      have e8 := irow_length l
      have e9 : (irow l)[i]'(by rw [e8]; exact hi) = [I l[i]] := by simp [irow]
      simp only [sanS, ints]
      generalize irow l = r at *
      simp (maxSteps := 1000000) [laws_sameInts.l0, List.range_succ, bs_get, setAt, hi, e3, e8, e9])
    (fun x => by
      have e8 := irow_length l
      simp only [sanS, sanE, ints]
      generalize irow l = r at *
      simp (maxSteps := 1000000) [laws_sameInts.l0, List.range_succ, bs_get, setAt, e8])
  have e8 := irow_length l
  simp only [sanS, sanE, ints] at hr ⊢
  generalize irow l = r at *
  simp at hr
  simp (maxSteps := 1000000) [exB, laws_sameInts.m, laws_sameInts.b, List.range_succ, bs_get, setAt, hr, e8]
def sbO (b : Box) (x : Nat × Nat) : List (Nat × Ob) := [(2, ⟨x.1, 7, true, true, [encBox b]⟩), (3, ⟨x.2, 7, true, true, [encBox b]⟩)]
def sqS (b : Box) (i : Nat) (x : (Nat × Nat) × Nat) : St := { t := [(2, .c (.ptr 2 x.1.1 0 0)), (3, .c (.ptr 3 x.1.2 0 0)), (5, .c (I i))], o := sbO b x.1, n := x.2 }
def sqE (b : Box) (x : (Nat × Nat) × Nat) : St := { t := [(2, .c (.ptr 2 x.1.1 0 0)), (3, .c (.ptr 3 x.1.2 0 0)), (5, .c (I b.mails.length)), (53, .c (.bool false))], o := sbO b x.1, n := x.2 }
theorem laws_sameBox.self (h : laws_sameBox.k M) (b : Box) (hb : BoxIn b) : run M 71 [.a (encBox b), .a (encBox b)] [] = some (.c (.bool true), []) := by
  obtain ⟨h0, k1, k2⟩ := h
  have h1 := laws_sameInts.self k1 b.gone hb.g
  have hm := hb.m
  refine run_code (b := laws_sameBox.m) h0 ⟨b.mails.length + 1, ?_⟩
  have e7 : (b.mails.map encMail).length = b.mails.length := by simp
  have e8 := irow_length b.gone
  obtain ⟨g, hr⟩ := count_loop (f := exC (run M) (b.mails.length + 1) laws_sameBox.l0) b.mails.length (sqS b) 0 (sqE b)
    (fun i hi x => by
      obtain ⟨⟨v1, v2⟩, n⟩ := x
      have h2 := spec_SameMail.says k2 b.mails[i] b.mails[i] (hb.f _ (List.getElem_mem hi))
      rw [decide_eq_true rfl] at h2
      have e3 := wrap1 (i := i) (by omega)
      have hat : (b.mails.map encMail)[i]'(by rw [e7]; exact hi) = [I b.mails[i].gid, I b.mails[i].uid, regs b.mails[i].flags, S b.mails[i].text] := by rw [List.getElem_map]
      simp only [encMail] at h2
      simp only [sqS, sbO, encBox, mails, Prod.exists]
      generalize b.mails.map encMail = rm at *
      simp (maxSteps := 1000000) [laws_sameBox.l0, List.range_succ, bs_get, setAt, hi, h2, e3, e7, hat])
    (fun x => by
      obtain ⟨⟨v1, v2⟩, n⟩ := x
      simp only [sqS, sqE, sbO, encBox, mails, Prod.exists]
      generalize b.mails.map encMail = rm at *
      simp (maxSteps := 1000000) [laws_sameBox.l0, List.range_succ, bs_get, setAt, e7])
  simp only [sqS, sqE, sbO] at hr
  replace hr := fun a c n => hr ⟨⟨a, c⟩, n⟩
  simp only [encBox, mails, ints] at *
  generalize b.mails.map encMail = rm at *
  generalize irow b.gone = rg at *
  simp at hr
  simp (maxSteps := 1000000) [exB, laws_sameBox.m, laws_sameBox.b, List.range_succ, bs_get, setAt, hr, h1, e7, e8]
end Mx

namespace Mx
open Go
variable {M : Nat → Option Body}
theorem laws_big.says (h : laws_big.k M) (R : List (List T)) (hl : R.length ≤ 9223372036854775807) : run M 36 [.c (.sl false 1 R)] [] = some (.c (.bool (decide (1048576 < R.length))), []) := by
  refine run_code (b := laws_big.m) h ⟨0, ?_⟩
  simp (maxSteps := 1000000) [exB, laws_big.m, laws_big.b, List.range_succ, bs_get, setAt]
  omega
end Mx

namespace Mx
open Go
variable {M : Nat → Option Body}
def renStep (acc : List Box) (x : Box) : List Box := acc ++ [if (acc.any fun y => decide (y.name = x.name)) = true then { x with name := otherName x.name x.gid } else x]
def ren (l : List Box) : List Box := l.foldl renStep []
structure GoodL (l : List Box) : Prop where
  len : l.length ≤ 5
  good : ∀ b ∈ l, Good b
end Mx

namespace Mx
open Go
variable {M : Nat → Option Body}
def renOne (acc : List Box) (x : Box) : Box := if (acc.any fun y => decide (y.name = x.name)) = true then { x with name := otherName x.name x.gid } else x
theorem renStep_eq (acc : List Box) (x : Box) : renStep acc x = acc ++ [renOne acc x] := rfl
theorem ren_fold_len : ∀ (l acc : List Box), (l.foldl renStep acc).length = acc.length + l.length
  | [], acc => by simp
  | x :: l, acc => by
    rw [List.foldl_cons, ren_fold_len l, renStep_eq]
    simp; omega
theorem ren_len (l : List Box) : (ren l).length = l.length := by unfold ren; rw [ren_fold_len]; simp
theorem boxIn_some {l : List Box} {g : Int} {b : Box} (h : boxIn l g = some b) : b ∈ l ∧ b.gid = g := ⟨List.mem_of_find?_eq_some h, by simpa using List.find?_some h⟩
end Mx

namespace Mx
open Go
variable {M : Nat → Option Body}
def gidsB (l : List Box) : List Int := l.map (·.gid)
def joinB (a b : List Box) (g : Int) : Box := match boxIn a g, boxIn b g with
  | some x, some y => joinBox x y
  | some x, none => x
  | none, some y => y
  | none, none => ⟨0, [], 0, 0, 0, [], []⟩
end Mx

namespace Mx
open Go
variable {M : Nat → Option Body}
def joinBoxesS (a b : List Box) (G : List Int) : List Box := ren (((joinGone (gidsB a) (gidsB b)).filter fun g => !decide (g ∈ G)).map (joinB a b))
end Mx

namespace Mx
open Go
variable {M : Nat → Option Body}
/-- the Gids of the mails of the first i boxes -/
def seenI (L : List Box) (i : Nat) : List Int := (L.take i).flatMap fun b => gids b.mails
def dedOne (L : List Box) (i : Nat) (x : Box) : Box := { x with mails := x.mails.filter fun m => !decide (m.gid ∈ seenI L i) }
def ded (L : List Box) : List Box := L.mapIdx fun i x => dedOne L i x
abbrev szero : List T := [I 0, I 0, .nils 7, .nils 1]
end Mx

namespace Mx
open Go
variable {M : Nat → Option Body}
structure Small (x : Box) : Prop where
  m : x.mails.length ≤ 20
  g : x.gone.length ≤ 80
  n : x.name.length ≤ 12
  f : ∀ m ∈ x.mails, m.flags.length ≤ 1048576
  d : (gids x.mails).Nodup
theorem Good.small {b : Box} (h : Good b) : Small b := ⟨by have := h.len; omega, by have := h.goneL; omega, (nameOk_len h.name).2, h.inB.f, h.nd⟩
structure StoreGood (s : Store) : Prop where
  boxes : GoodL s.boxes
  gone : s.gone.length ≤ 20
  asc : s.boxes.Pairwise fun x y => x.gid < y.gid
theorem storeOk_good {s : Store} (h : storeOk s = true) : StoreGood s := by
  simp only [storeOk, Bool.and_eq_true, decide_eq_true_eq, Option.isNone_iff_eq_none, firstN_isNone] at h
  obtain ⟨⟨⟨⟨_, _⟩, h3⟩, h4⟩, h5⟩ := h
  have hg := (gidsOk_iff.1 h4).2.2
  have hbad : ∀ i (hi : i < s.boxes.length), boxOk s.boxes[i] = true ∧ ∀ (q : 0 < i), (s.boxes[i - 1]'(by omega)).gid < s.boxes[i].gid := fun i hi => by
    have := h5 i hi
    rw [badAt_at hi, badBox_at hi] at this
    simp at this
    exact ⟨this.1.1.1.1.1, this.1.1.1.1.2⟩
  refine ⟨⟨h3, fun b hb => ?_⟩, by omega, ?_⟩
  · obtain ⟨i, hi, rfl⟩ := List.getElem_of_mem hb
    exact boxOk_iff.1 (hbad i hi).1
  · have hA : Asc (s.boxes.map (·.gid)) := step_asc fun j hj => by
      simp only [List.length_map] at hj
      have := (hbad (j + 1) hj).2 (by omega)
      simpa using this
    exact List.pairwise_map.1 hA
end Mx

namespace Mx
open Go
variable {M : Nat → Option Body}
def oaS (s : Store) (g : Int) (i : Nat) (x : Nat) : St := { t := [(1, .c (I g)), (2, .c (.ptr 2 2000000 0 0)), (5, .c (I i))], o := [(2, ⟨2000000, 4, true, true, [encStore s]⟩)], n := x }
theorem spec_BoxAt.says (h : spec_BoxAt.k M) (s : Store) (g : Int) (hl : s.boxes.length ≤ 1048576) : run M 196 [.a (encStore s), .c (I g)] [] = some (.c (I (intO (boxO s.boxes g))), []) := by
  refine run_code (b := spec_BoxAt.m) h ⟨s.boxes.length + 1, ?_⟩
  have er : (s.boxes.map encBox).length = s.boxes.length := by simp
  obtain ⟨g', hr⟩ := first_loop (f := exC (run M) (s.boxes.length + 1) spec_BoxAt.l0) s.boxes.length (pAt (fun b : Box => decide (b.gid = g)) s.boxes) (oaS s g) atFin atFin_ne
    (fun i hi x c => by
      rw [pAt_at _ _ _ hi] at c
      simp only [decide_eq_false_iff_not] at c
      have e5 := wrap1 (i := i) (by omega)
      have a1 : ∀ hh, (s.boxes.map encBox)[i]'hh = encBox s.boxes[i] := by intro hh; simp
      simp only [oaS, encStore, boxes, ints]
      simp only [encBox] at a1
      generalize s.boxes.map encBox = rb at *
      simp (maxSteps := 1000000) [spec_BoxAt.l0, List.range_succ, bs_get, setAt, hi, c, e5, er, a1])
    (fun i hi x c => by
      rw [pAt_at _ _ _ hi] at c
      simp only [decide_eq_true_eq] at c
      have a1 : ∀ hh, (s.boxes.map encBox)[i]'hh = encBox s.boxes[i] := by intro hh; simp
      simp only [oaS, encStore, boxes, ints]
      simp only [encBox] at a1
      generalize s.boxes.map encBox = rb at *
      simp (maxSteps := 1000000) [spec_BoxAt.l0, List.range_succ, bs_get, setAt, hi, c, er, a1, atFin]
      exact ⟨⟨[], [], _⟩, rfl⟩)
    (fun x => by
      simp only [oaS, encStore, boxes, ints]
      generalize s.boxes.map encBox = rb at *
      simp (maxSteps := 1000000) [spec_BoxAt.l0, List.range_succ, bs_get, setAt, er, atFin])
  unfold boxO
  cases hm : firstN (pAt (fun b : Box => decide (b.gid = g)) s.boxes) s.boxes.length with
  | none =>
    simp [oaS, hm, atFin] at hr
    simp only [encStore, boxes, ints] at *
    simp (maxSteps := 1000000) [exB, spec_BoxAt.m, spec_BoxAt.b, List.range_succ, bs_get, setAt, hr, intO]
  | some k =>
    simp [oaS, hm, atFin] at hr
    simp only [encStore, boxes, ints] at *
    simp (maxSteps := 1000000) [exB, spec_BoxAt.m, spec_BoxAt.b, List.range_succ, bs_get, setAt, hr, intO]
theorem spec_NextStamp.says (h : spec_NextStamp.k M) (s : Store) (hs : -1000000000 ≤ s.time ∧ s.time ≤ 1000000000) : run M 301 [.a (encStore s)] [] = some (.a [I (s.time + 1), I s.who], []) := by
  refine run_code (b := spec_NextStamp.m) h ⟨0, ?_⟩
  have e5 : IntKind.i64.wrap (s.time + 1) = s.time + 1 := wrap_i64 (by omega) (by omega)
  simp only [encStore, boxes, ints]
  simp (maxSteps := 1000000) [exB, spec_NextStamp.m, spec_NextStamp.b, List.range_succ, bs_get, setAt, e5]
def obO (s : Store) (i v : Nat) : List (Nat × Ob) := [(1, ⟨2000000, 4, true, true, [encStore s]⟩), (2, ⟨2000016, 4, true, true, [szero]⟩), (3, ⟨2000048, 4, true, true, [[I s.who, I s.time, .row 6 v 0 i, ints s.gone]]⟩), (6, ⟨v, 7, true, false, (s.boxes.take i).map encBox⟩)]
def obS (s : Store) (i : Nat) (x : Nat × Nat) : St := { t := [(1, .c (.ptr 1 2000000 0 0)), (2, .c (.ptr 2 2000016 0 0)), (3, .c (.ptr 3 2000048 0 0)), (4, .c (I i))], o := obO s i x.1, n := x.2 }
def obE (s : Store) (x : Nat × Nat) : St := { t := [(1, .c (.ptr 1 2000000 0 0)), (2, .c (.ptr 2 2000016 0 0)), (3, .c (.ptr 3 2000048 0 0)), (4, .c (I s.boxes.length)), (12, .c (.bool false))], o := obO s s.boxes.length x.1, n := x.2 }
set_option maxHeartbeats 1000000 in
theorem spec_l07Copy.says (h : spec_l07Copy.k M) (s : Store) (hs : StoreIn s) : run M 219 [.a (encStore s)] [] = some (.a (encStoreO s), []) := by
  obtain ⟨h0, k1⟩ := h
  have hbl := hs.b
  have hgl := hs.g
  refine run_code (b := spec_l07Copy.m) h0 ⟨s.boxes.length + 1, ?_⟩
  have er : (s.boxes.map encBox).length = s.boxes.length := by simp
  obtain ⟨g, hr⟩ := count_loop (f := exC (run M) (s.boxes.length + 1) spec_l07Copy.l0) s.boxes.length (obS s) 0 (obE s)
    (fun i hi x => by
      obtain ⟨v, n⟩ := x
      have h2 := spec_l06Copy.says k1 s.boxes[i] (hs.i _ (List.getElem_mem hi))
      have e5 := wrap1 (i := i) (by omega)
      have e6 : i + 1 ≤ 4294967296 := by omega
      have e7 : ((s.boxes.take i).map encBox).length = i := by simp; omega
      have e8 : ((s.boxes.take (i + 1)).map encBox) = (s.boxes.take i).map encBox ++ [encBox s.boxes[i]] := by rw [take_snoc _ _ hi, List.map_append]; rfl
      have a1 : ∀ hh, (s.boxes.map encBox)[i]'hh = encBox s.boxes[i] := by intro hh; simp
      simp only [Prod.exists, obS, obO, e8, encStore, boxes, ints]
      simp only [encBox, encBoxO, mails, ints] at h2 a1 ⊢
      generalize (s.boxes.take i).map encBox = rr at *
      generalize s.boxes.map encBox = rb at *
      generalize s.boxes[i].mails.map encMail = rm at *
      generalize irow s.boxes[i].gone = rg at *
      generalize irow s.gone = rs at *
      simp (maxSteps := 1000000) [spec_l07Copy.l0, List.range_succ, bs_get, setAt, hi, h2, e5, e6, e7, er, a1, List.take_of_length_le])
    (fun x => by
      obtain ⟨v, n⟩ := x
      simp only [Prod.exists, obS, obE, obO, encStore, boxes, ints]
      generalize (s.boxes.take s.boxes.length).map encBox = rr at *
      generalize s.boxes.map encBox = rb at *
      generalize irow s.gone = rs at *
      simp (maxSteps := 1000000) [spec_l07Copy.l0, List.range_succ, bs_get, setAt, er])
  have hr0 := hr (2000080, 2000144)
  generalize g (2000080, 2000144) = y at *
  obtain ⟨v, n⟩ := y
  have ez : ((0 : Nat) : Int) = 0 := rfl
  have eg := irow_length s.gone
  have e9 : s.gone.length ≤ 4294967296 := by omega
  simp only [obS, obE, obO, ez, List.take_zero, List.map_nil, List.take_length, encStore, boxes, ints] at hr0
  simp only [encStore, encStoreO, boxes, ints]
  generalize s.boxes.map encBox = rb at *
  generalize irow s.gone = rs at *
  simp (maxSteps := 1000000) [exB, spec_l07Copy.m, spec_l07Copy.b, List.range_succ, bs_get, setAt, hr0, er, eg, e9, List.take_of_length_le]
def knowsB (b : Box) (g : Int) : Bool := (mailO b.mails g).isSome || decide (g ∈ b.gone)
def knows (s : Store) (g : Int) : Bool := (boxO s.boxes g).isSome || decide (g ∈ s.gone) || s.boxes.any fun b => knowsB b g
def ocS (s : Store) (g : Int) (i : Nat) (x : Nat) : St := { t := [(1, .c (I g)), (2, .c (.ptr 2 2000000 0 0)), (5, .c (I i))], o := [(2, ⟨2000000, 4, true, true, [encStore s]⟩)], n := x }
def ocE (s : Store) (g : Int) (x : Nat) : St := { t := [(1, .c (I g)), (2, .c (.ptr 2 2000000 0 0)), (5, .c (I s.boxes.length)), (20, .c (.bool false))], o := [(2, ⟨2000000, 4, true, true, [encStore s]⟩)], n := x }
theorem any_first2 (p : Box → Bool) (l : List Box) : l.any p = (firstN (pAt p l) l.length).isSome := by
  cases q : firstN (pAt p l) l.length with
  | none =>
    have hn := firstN_none q
    have : l.any p = false := by
      rw [List.any_eq_false]
      intro b hb
      obtain ⟨j, hj, rfl⟩ := List.getElem_of_mem hb
      have := hn j hj
      rw [pAt_at _ _ _ hj] at this
      simp [this]
    rw [this]; rfl
  | some k =>
    obtain ⟨h1, h2, _⟩ := firstN_some q
    rw [pAt_at _ _ _ h1] at h2
    have : l.any p = true := List.any_eq_true.2 ⟨_, List.getElem_mem h1, h2⟩
    rw [this]; rfl
theorem intO_nonneg (q : Option Nat) : decide ((0 : Int) ≤ intO q) = q.isSome := by
  cases q with
  | none => rfl
  | some k => exact decide_eq_true (Int.natCast_nonneg k)
set_option maxHeartbeats 2000000 in
theorem spec_Knows.says (h : spec_Knows.k M) (s : Store) (g : Int) (hs : StoreIn s) : run M 300 [.a (encStore s), .c (I g)] [] = some (.c (.bool (knows s g)), []) := by
  obtain ⟨h0, ka, ki, kb⟩ := h
  have hbl := hs.b
  have hgl := hs.g
  have h1 := spec_BoxAt.says kb s g hbl
  have h2 := spec_l06In.says ki s.gone g (by omega)
  refine run_code (b := spec_Knows.m) h0 ⟨s.boxes.length + 1, ?_⟩
  have er : (s.boxes.map encBox).length = s.boxes.length := by simp
  obtain ⟨g', hr⟩ := early_loop (f := exC (run M) (s.boxes.length + 1) spec_Knows.l0) s.boxes.length (pAt (fun b => knowsB b g) s.boxes) (ocS s g) 4 (.bool true) 0 (ocE s g)
    (fun i hi x c => by
      rw [pAt_at _ _ _ hi] at c
      have hb := hs.i _ (List.getElem_mem hi)
      have h3 := spec_MailAt.says ka s.boxes[i] g hb.m
      have h4 := spec_l06In.says ki s.boxes[i].gone g (by have := hb.g; omega)
      have e5 := wrap1 (i := i) (by omega)
      have a1 : ∀ hh, (s.boxes.map encBox)[i]'hh = encBox s.boxes[i] := by intro hh; simp
      unfold knowsB at c
      simp only [Bool.or_eq_false_iff] at c
      obtain ⟨c1, c2⟩ := c
      rw [c2] at h4
      have c3 : ¬ (0 : Int) ≤ intO (mailO s.boxes[i].mails g) := by
        have := intO_nonneg (mailO s.boxes[i].mails g)
        rw [c1] at this; simpa using this
      simp only [ocS, encStore, boxes, ints]
      simp only [encBox, mails, ints] at h3 h4 a1
      generalize intO (mailO s.boxes[i].mails g) = z at *
      generalize s.boxes.map encBox = rb at *
      generalize s.boxes[i].mails.map encMail = rm at *
      generalize irow s.boxes[i].gone = rg at *
      simp (maxSteps := 1000000) [spec_Knows.l0, List.range_succ, bs_get, setAt, hi, h3, h4, c3, e5, er, a1, List.take_of_length_le])
    (fun i hi x c => by
      rw [pAt_at _ _ _ hi] at c
      have hb := hs.i _ (List.getElem_mem hi)
      have h3 := spec_MailAt.says ka s.boxes[i] g hb.m
      have h4 := spec_l06In.says ki s.boxes[i].gone g (by have := hb.g; omega)
      have a1 : ∀ hh, (s.boxes.map encBox)[i]'hh = encBox s.boxes[i] := by intro hh; simp
      unfold knowsB at c
      have c3 := intO_nonneg (mailO s.boxes[i].mails g)
      simp only [ocS, encStore, boxes, ints]
      simp only [encBox, mails, ints] at h3 h4 a1
      generalize intO (mailO s.boxes[i].mails g) = z at *
      generalize (mailO s.boxes[i].mails g).isSome = w at *
      generalize decide (g ∈ s.boxes[i].gone) = w2 at *
      generalize s.boxes.map encBox = rb at *
      generalize s.boxes[i].mails.map encMail = rm at *
      generalize irow s.boxes[i].gone = rg at *
      cases w
      · simp only [decide_eq_false_iff_not] at c3
        simp only [Bool.false_or] at c
        subst c
        simp (maxSteps := 1000000) [spec_Knows.l0, List.range_succ, bs_get, setAt, hi, h3, h4, c3, er, a1, List.take_of_length_le]
      · simp only [decide_eq_true_eq] at c3
        simp (maxSteps := 1000000) [spec_Knows.l0, List.range_succ, bs_get, setAt, hi, h3, c3, er, a1, List.take_of_length_le])
    (fun x => by
      simp only [ocS, ocE, encStore, boxes, ints]
      generalize s.boxes.map encBox = rb at *
      simp (maxSteps := 1000000) [spec_Knows.l0, List.range_succ, bs_get, setAt, er])
  have hany := any_first2 (fun b => knowsB b g) s.boxes
  have c0 := intO_nonneg (boxO s.boxes g)
  unfold knows
  rw [hany]
  generalize (boxO s.boxes g).isSome = w1 at *
  generalize intO (boxO s.boxes g) = z at *
  generalize decide (g ∈ s.gone) = w2 at *
  have ez : ((0 : Nat) : Int) = 0 := rfl
  cases w1
  · simp only [decide_eq_false_iff_not] at c0
    cases w2
    · cases hq : firstN (pAt (fun b => knowsB b g) s.boxes) s.boxes.length with
      | none =>
        simp only [ocS, ocE, hq, fin1, ez] at hr
        simp only [encStore, boxes, ints] at *
        simp (maxSteps := 1000000) [exB, spec_Knows.m, spec_Knows.b, List.range_succ, bs_get, setAt, h1, h2, c0, hr, List.take_of_length_le]
      | some q =>
        simp only [ocS, hq, fin1, ez] at hr
        simp only [encStore, boxes, ints] at *
        simp (maxSteps := 1000000) [exB, spec_Knows.m, spec_Knows.b, List.range_succ, bs_get, setAt, h1, h2, c0, hr, List.take_of_length_le]
    · simp only [encStore, boxes, ints] at *
      simp (maxSteps := 1000000) [exB, spec_Knows.m, spec_Knows.b, List.range_succ, bs_get, setAt, h1, h2, c0, List.take_of_length_le]
  · simp only [decide_eq_true_eq] at c0
    simp only [encStore, boxes, ints] at *
    simp (maxSteps := 1000000) [exB, spec_Knows.m, spec_Knows.b, List.range_succ, bs_get, setAt, h1, c0, List.take_of_length_le]
end Mx

namespace Mx
open Go
variable {M : Nat → Option Body}
theorem addMail_in {b : Box} (hb : BoxIn b) (g f : Int) (x : List UInt8) (t w : Int) : BoxIn (addMail b g f x t w).1 := by
  unfold addMail
  split
  · rename_i c
    exact (boxOk_iff.1 c.2.2.2.2).inB
  · exact hb
theorem flagMail_in {b : Box} (hb : BoxIn b) (g n t w : Int) : BoxIn (flagMail b g n t w).1 := by
  unfold flagMail
  split
  · exact hb
  · split
    · exact hb
    · rename_i k hk m hm
      split
      · refine ⟨by simpa using hb.m, hb.g, hb.n, fun m' hm' => ?_⟩
        obtain ⟨j, hj, rfl⟩ := List.getElem_of_mem hm'
        simp only [List.getElem_set]
        split
        · have e : (setFlags m.flags n t w).length = m.flags.length := by unfold setFlags; split <;> simp
          simp only [e]
          exact hb.f m (List.mem_of_getElem? hm)
        · exact hb.f _ (List.getElem_mem _)
      · exact hb
end Mx

namespace Mx
open Go
variable {M : Nat → Option Body}
def stampedTo (s : Store) (i : Nat) (b : Box) : Store := { s with boxes := s.boxes.set i b, time := s.time + 1 }
def stamped (s : Store) (i : Nat) (b : Box) : Store × Bool := if storeOk (stampedTo s i b) = true then (stampedTo s i b, true) else (s, false)
/-- what is asked of a store that something is done in -/
structure StoreT (s : Store) : Prop where
  in_ : StoreIn s
  time : -1000000000 ≤ s.time ∧ s.time ≤ 1000000000
theorem stampedTo_in {s : Store} (hs : StoreIn s) {i : Nat} (hi : i < s.boxes.length) {b : Box} (hb : BoxIn b) (hm : (s.boxes.flatMap gidsOf).length + b.mails.length ≤ 1048576) : StoreIn (stampedTo s i b) := by
  refine ⟨by simpa [stampedTo] using hs.b, hs.g, fun x hx => ?_, ?_⟩
  · rcases List.mem_or_eq_of_mem_set hx with q | q
    · exact hs.i x q
    · rw [q]; exact hb
  · have e : s.boxes.set i b = s.boxes.take i ++ b :: s.boxes.drop (i + 1) := List.set_eq_take_append_cons_drop.trans (by rw [if_pos hi])
    simp only [stampedTo]
    rw [e]
    have hsub : ((s.boxes.take i).flatMap gidsOf).length + ((s.boxes.drop (i + 1)).flatMap gidsOf).length ≤ (s.boxes.flatMap gidsOf).length := by
      conv => rhs; rw [← List.take_append_drop i s.boxes, List.drop_eq_getElem_cons hi]
      simp only [List.flatMap_append, List.flatMap_cons, List.length_append]
      omega
    simp only [List.flatMap_append, List.flatMap_cons, List.length_append, gidsOf, List.length_map] at hsub hm ⊢
    omega
set_option maxHeartbeats 2000000 in
theorem spec_l07Stamped.says (h : spec_l07Stamped.k M) (s : Store) (hs : StoreT s) (i : Nat) (hi : i < s.boxes.length) (b : Box) (hb : BoxIn b) (hm : (s.boxes.flatMap gidsOf).length + b.mails.length ≤ 1048576) :
    run M 302 [.a (encStore s), .c (I i), .a (encBox b)] [] = some (.tup [.a (encStoreO (stamped s i b).1), .c (.bool (stamped s i b).2)], []) := by
  obtain ⟨h0, ko, kc⟩ := h
  have ht := hs.time
  have h1 := spec_l07Copy.says kc s hs.in_
  have h2 := spec_StoreOk.says ko (stampedTo s i b) (stampedTo_in hs.in_ hi hb hm)
  refine run_code (b := spec_l07Stamped.m) h0 ⟨0, ?_⟩
  have e5 : IntKind.i64.wrap (s.time + 1) = s.time + 1 := wrap_i64 (by omega) (by omega)
  have er : (s.boxes.map encBox).length = s.boxes.length := by simp
  have eg := irow_length s.gone
  have es : (stampedTo s i b).boxes.map encBox = (s.boxes.map encBox).set i (encBox b) := by simp only [stampedTo, List.map_set]
  have ew : (stampedTo s i b).who = s.who := rfl
  have et : (stampedTo s i b).time = s.time + 1 := rfl
  have egn : (stampedTo s i b).gone = s.gone := rfl
  have a1 : ∀ hh, (s.boxes.map encBox)[i]'hh = encBox s.boxes[i] := by intro hh; simp
  unfold stamped
  cases c : storeOk (stampedTo s i b) with
  | true =>
    rw [c] at h2
    rw [if_pos rfl]
    simp only [encStore, encStoreO, boxes, ints, es, ew, et, egn] at h1 h2 ⊢
    clear es c
    simp only [encBox, mails, ints] at h2 a1 ⊢
    generalize s.boxes.map encBox = rb at *
    generalize irow s.gone = rs at *
    generalize s.boxes[i].mails.map encMail = r1 at *
    generalize irow s.boxes[i].gone = r2 at *
    generalize b.mails.map encMail = r3 at *
    generalize irow b.gone = r4 at *
    simp (maxSteps := 1000000) [exB, spec_l07Stamped.m, spec_l07Stamped.b, List.range_succ, bs_get, setAt, hi, h1, h2, e5, er, eg, a1, List.take_of_length_le]
  | false =>
    rw [c] at h2
    rw [if_neg (by decide)]
    simp only [encStore, encStoreO, boxes, ints, es, ew, et, egn] at h1 h2 ⊢
    clear es c
    simp only [encBox, mails, ints] at h2 a1 ⊢
    generalize s.boxes.map encBox = rb at *
    generalize irow s.gone = rs at *
    generalize s.boxes[i].mails.map encMail = r1 at *
    generalize irow s.boxes[i].gone = r2 at *
    generalize b.mails.map encMail = r3 at *
    generalize irow b.gone = r4 at *
    simp (maxSteps := 1000000) [exB, spec_l07Stamped.m, spec_l07Stamped.b, List.range_succ, bs_get, setAt, hi, h1, h2, e5, er, eg, a1, List.take_of_length_le]
end Mx

namespace Mx
open Go
variable {M : Nat → Option Body}
def at_ (s : Store) (g : Int) (f : Nat → Box → Store × Bool) : Store × Bool := match boxO s.boxes g with
  | none => (s, false)
  | some i => match s.boxes[i]? with
    | none => (s, false)
    | some b => f i b
theorem at_none {s : Store} {g : Int} {f : Nat → Box → Store × Bool} (h : boxO s.boxes g = none) : at_ s g f = (s, false) := by simp only [at_, h]
theorem at_some {s : Store} {g : Int} {f : Nat → Box → Store × Bool} {i : Nat} (h : boxO s.boxes g = some i) (hi : i < s.boxes.length) : at_ s g f = f i s.boxes[i] := by simp only [at_, h, List.getElem?_eq_getElem hi]
def putMail (s : Store) (g m f : Int) (x : List UInt8) : Store × Bool := if storeOk s = true ∧ knows s m = false then at_ s g fun i b => if (addMail b m f x (s.time + 1) s.who).2 = true then stamped s i (addMail b m f x (s.time + 1) s.who).1 else (s, false) else (s, false)
def markMail (s : Store) (g m f : Int) : Store × Bool := if storeOk s = true then at_ s g fun i b => if (flagMail b m f (s.time + 1) s.who).2 = true then stamped s i (flagMail b m f (s.time + 1) s.who).1 else (s, false) else (s, false)
def dropMail (s : Store) (g m : Int) : Store × Bool := if storeOk s = true then at_ s g fun i b => if (takeOut b m).2 = true then ({ s with boxes := s.boxes.set i (takeOut b m).1 }, true) else (s, false) else (s, false)
theorem good_gids {s : Store} (h : storeOk s = true) : (s.boxes.flatMap gidsOf).length ≤ 50 := by
  have G := (storeOk_good h).boxes
  have key : ∀ l : List Box, (∀ x ∈ l, x.mails.length ≤ 10) → (l.flatMap gidsOf).length ≤ 10 * l.length := by
    intro l
    induction l with
    | nil => intro _; simp
    | cons x l ih =>
      intro h
      have h1 := ih fun y hy => h y (List.mem_cons_of_mem _ hy)
      have h2 := h x (List.mem_cons_self ..)
      simp only [List.flatMap_cons, List.length_append, gidsOf, List.length_map, List.length_cons] at h1 ⊢
      omega
  have := key s.boxes fun x hx => (G.good x hx).len
  have := G.len
  omega
theorem addMail_small {b : Box} (hb : Good b) (g f : Int) (x : List UInt8) (t w : Int) : (addMail b g f x t w).1.mails.length ≤ 11 := by
  unfold addMail
  split
  · rename_i c
    exact Nat.le_trans (boxOk_iff.1 c.2.2.2.2).len (by omega)
  · have := hb.len; simp only; omega
theorem flagMail_small {b : Box} (hb : Good b) (g n t w : Int) : (flagMail b g n t w).1.mails.length ≤ 11 := by
  have := hb.len
  unfold flagMail
  split
  · simp only; omega
  · split
    · simp only; omega
    · split
      · simp only [List.length_set]; omega
      · simp only; omega
set_option maxHeartbeats 4000000 in
theorem spec_PutMail.says (h : spec_PutMail.k M) (s : Store) (hs : StoreT s) (g m f : Int) (x : List UInt8) :
    run M 279 [.a (encStore s), .c (I g), .c (I m), .c (I f), .c (S x)] [] = some (.tup [.a (encStoreO (putMail s g m f x).1), .c (.bool (putMail s g m f x).2)], []) := by
  obtain ⟨h0, ka, ko, kb, kc, kk, kn, kst⟩ := h
  have h1 := spec_BoxAt.says kb s g hs.in_.b
  have h2 := spec_StoreOk.says ko s hs.in_
  have h3 := spec_Knows.says kk s m hs.in_
  have h4 := spec_l07Copy.says kc s hs.in_
  have h5 := spec_NextStamp.says kn s hs.time
  have er : (s.boxes.map encBox).length = s.boxes.length := by simp
  have eg := irow_length s.gone
  refine run_code (b := spec_PutMail.m) h0 ⟨0, ?_⟩
  unfold putMail
  cases c1 : storeOk s with
  | false =>
    rw [c1] at h2
    simp only [Bool.false_eq_true, false_and, if_false]
    simp only [encStore, encStoreO, boxes, ints] at *
    generalize s.boxes.map encBox = rb at *
    generalize irow s.gone = rs at *
    simp (maxSteps := 1000000) [exB, spec_PutMail.m, spec_PutMail.b, List.range_succ, bs_get, setAt, h1, h2, h4, er, eg, List.take_of_length_le]
  | true =>
    rw [c1] at h2
    cases c2 : knows s m with
    | true =>
      rw [c2] at h3
      simp only [Bool.true_eq_false, and_false, if_false]
      simp only [encStore, encStoreO, boxes, ints] at *
      generalize s.boxes.map encBox = rb at *
      generalize irow s.gone = rs at *
      simp (maxSteps := 1000000) [exB, spec_PutMail.m, spec_PutMail.b, List.range_succ, bs_get, setAt, h1, h2, h3, h4, er, eg, List.take_of_length_le]
    | false =>
      rw [c2] at h3
      rw [if_pos ⟨rfl, rfl⟩]
      cases c3 : boxO s.boxes g with
      | none =>
        rw [c3] at h1
        rw [at_none c3]
        simp only [encStore, encStoreO, boxes, ints, intO] at *
        generalize s.boxes.map encBox = rb at *
        generalize irow s.gone = rs at *
        simp (maxSteps := 1000000) [exB, spec_PutMail.m, spec_PutMail.b, List.range_succ, bs_get, setAt, h1, h2, h3, h4, er, eg, List.take_of_length_le]
      | some i =>
        rw [c3] at h1
        obtain ⟨hi, _⟩ := boxO_some c3
        rw [at_some c3 hi]
        have hG := (storeOk_good c1).boxes.good _ (List.getElem_mem hi)
        have h6 := spec_AddMail.says ka s.boxes[i] hG.inB m f x (s.time + 1) s.who
        have hin := addMail_in hG.inB m f x (s.time + 1) s.who
        have h7 := spec_l07Stamped.says kst s hs i hi (addMail s.boxes[i] m f x (s.time + 1) s.who).1 hin (by have := good_gids c1; have := addMail_small hG m f x (s.time + 1) s.who; omega)
        have a1 : ∀ hh, (s.boxes.map encBox)[i]'hh = encBox s.boxes[i] := by intro hh; simp
        have ni : ¬ (i : Int) < 0 := by omega
        generalize addMail s.boxes[i] m f x (s.time + 1) s.who = A at *
        obtain ⟨b', ok⟩ := A
        generalize stamped s i b' = B at *
        obtain ⟨s', ok'⟩ := B
        have er2 : (s'.boxes.map encBox).length = s'.boxes.length := by simp
        have eg2 := irow_length s'.gone
        simp only [encStore, encStoreO, boxes, ints, intO] at h1 h2 h3 h4 h5 h7 ⊢
        simp only [encBox, encBoxO, mails, ints] at h6 h7 a1
        generalize hrb : s.boxes.map encBox = rb at *
        generalize hrs : irow s.gone = rs at *
        generalize s.boxes[i].mails.map encMail = r1 at *
        generalize irow s.boxes[i].gone = r2 at *
        generalize b'.mails.map encMail = r3 at *
        generalize irow b'.gone = r4 at *
        cases ok
        · simp only [Bool.false_eq_true, if_false]
          simp (maxSteps := 1000000) [exB, spec_PutMail.m, spec_PutMail.b, List.range_succ, bs_get, setAt, hi, ni, h1, h2, h3, h4, h5, h6, er, eg, a1, List.take_of_length_le]
          exact ⟨hrb.symm, hrs.symm⟩
        · simp only [if_true]
          generalize s'.boxes.map encBox = rb' at *
          generalize irow s'.gone = rs' at *
          simp (maxSteps := 1000000) [exB, spec_PutMail.m, spec_PutMail.b, List.range_succ, bs_get, setAt, hi, ni, h1, h2, h3, h4, h5, h6, h7, er, eg, er2, eg2, a1, List.take_of_length_le]
end Mx

namespace Mx
open Go
variable {M : Nat → Option Body}
set_option maxHeartbeats 4000000 in
theorem spec_MarkMail.says (h : spec_MarkMail.k M) (s : Store) (hs : StoreT s) (g m f : Int) :
    run M 280 [.a (encStore s), .c (I g), .c (I m), .c (I f)] [] = some (.tup [.a (encStoreO (markMail s g m f).1), .c (.bool (markMail s g m f).2)], []) := by
  obtain ⟨h0, ka, ko, kb, kc, kn, kst⟩ := h
  have h1 := spec_BoxAt.says kb s g hs.in_.b
  have h2 := spec_StoreOk.says ko s hs.in_
  have h4 := spec_l07Copy.says kc s hs.in_
  have h5 := spec_NextStamp.says kn s hs.time
  have er : (s.boxes.map encBox).length = s.boxes.length := by simp
  have eg := irow_length s.gone
  refine run_code (b := spec_MarkMail.m) h0 ⟨0, ?_⟩
  unfold markMail
  cases c1 : storeOk s with
  | false =>
    rw [c1] at h2
    simp only [Bool.false_eq_true, if_false]
    simp only [encStore, encStoreO, boxes, ints] at *
    generalize s.boxes.map encBox = rb at *
    generalize irow s.gone = rs at *
    simp (maxSteps := 1000000) [exB, spec_MarkMail.m, spec_MarkMail.b, List.range_succ, bs_get, setAt, h1, h2, h4, er, eg, List.take_of_length_le]
  | true =>
    rw [c1] at h2
    rw [if_pos rfl]
    cases c3 : boxO s.boxes g with
    | none =>
      rw [c3] at h1
      rw [at_none c3]
      simp only [encStore, encStoreO, boxes, ints, intO] at *
      generalize s.boxes.map encBox = rb at *
      generalize irow s.gone = rs at *
      simp (maxSteps := 1000000) [exB, spec_MarkMail.m, spec_MarkMail.b, List.range_succ, bs_get, setAt, h1, h2, h4, er, eg, List.take_of_length_le]
    | some i =>
      rw [c3] at h1
      obtain ⟨hi, _⟩ := boxO_some c3
      rw [at_some c3 hi]
      have hG := (storeOk_good c1).boxes.good _ (List.getElem_mem hi)
      have h6 := spec_FlagMail.says ka s.boxes[i] hG.inB m f (s.time + 1) s.who
      have hin := flagMail_in hG.inB m f (s.time + 1) s.who
      have h7 := spec_l07Stamped.says kst s hs i hi (flagMail s.boxes[i] m f (s.time + 1) s.who).1 hin (by have := good_gids c1; have := flagMail_small hG m f (s.time + 1) s.who; omega)
      have a1 : ∀ hh, (s.boxes.map encBox)[i]'hh = encBox s.boxes[i] := by intro hh; simp
      have ni : ¬ (i : Int) < 0 := by omega
      generalize flagMail s.boxes[i] m f (s.time + 1) s.who = A at *
      obtain ⟨b', ok⟩ := A
      generalize stamped s i b' = B at *
      obtain ⟨s', ok'⟩ := B
      have er2 : (s'.boxes.map encBox).length = s'.boxes.length := by simp
      have eg2 := irow_length s'.gone
      simp only [encStore, encStoreO, boxes, ints, intO] at h1 h2 h4 h5 h7 ⊢
      simp only [encBox, encBoxO, mails, ints] at h6 h7 a1
      generalize hrb : s.boxes.map encBox = rb at *
      generalize hrs : irow s.gone = rs at *
      generalize s.boxes[i].mails.map encMail = r1 at *
      generalize irow s.boxes[i].gone = r2 at *
      generalize b'.mails.map encMail = r3 at *
      generalize irow b'.gone = r4 at *
      cases ok
      · simp only [Bool.false_eq_true, if_false]
        simp (maxSteps := 1000000) [exB, spec_MarkMail.m, spec_MarkMail.b, List.range_succ, bs_get, setAt, hi, ni, h1, h2, h4, h5, h6, er, eg, a1, List.take_of_length_le]
        exact ⟨hrb.symm, hrs.symm⟩
      · simp only [if_true]
        generalize s'.boxes.map encBox = rb' at *
        generalize irow s'.gone = rs' at *
        simp (maxSteps := 1000000) [exB, spec_MarkMail.m, spec_MarkMail.b, List.range_succ, bs_get, setAt, hi, ni, h1, h2, h4, h5, h6, h7, er, eg, er2, eg2, a1, List.take_of_length_le]
set_option maxHeartbeats 4000000 in
theorem spec_DropMail.says (h : spec_DropMail.k M) (s : Store) (hs : StoreT s) (g m : Int) :
    run M 281 [.a (encStore s), .c (I g), .c (I m)] [] = some (.tup [.a (encStoreO (dropMail s g m).1), .c (.bool (dropMail s g m).2)], []) := by
  obtain ⟨h0, kt, ko, kb, kc⟩ := h
  have h1 := spec_BoxAt.says kb s g hs.in_.b
  have h2 := spec_StoreOk.says ko s hs.in_
  have h4 := spec_l07Copy.says kc s hs.in_
  have er : (s.boxes.map encBox).length = s.boxes.length := by simp
  have eg := irow_length s.gone
  refine run_code (b := spec_DropMail.m) h0 ⟨0, ?_⟩
  unfold dropMail
  cases c1 : storeOk s with
  | false =>
    rw [c1] at h2
    simp only [Bool.false_eq_true, if_false]
    simp only [encStore, encStoreO, boxes, ints] at *
    generalize s.boxes.map encBox = rb at *
    generalize irow s.gone = rs at *
    simp (maxSteps := 1000000) [exB, spec_DropMail.m, spec_DropMail.b, List.range_succ, bs_get, setAt, h1, h2, h4, er, eg, List.take_of_length_le]
  | true =>
    rw [c1] at h2
    rw [if_pos rfl]
    cases c3 : boxO s.boxes g with
    | none =>
      rw [c3] at h1
      rw [at_none c3]
      simp only [encStore, encStoreO, boxes, ints, intO] at *
      generalize s.boxes.map encBox = rb at *
      generalize irow s.gone = rs at *
      simp (maxSteps := 1000000) [exB, spec_DropMail.m, spec_DropMail.b, List.range_succ, bs_get, setAt, h1, h2, h4, er, eg, List.take_of_length_le]
    | some i =>
      rw [c3] at h1
      obtain ⟨hi, _⟩ := boxO_some c3
      rw [at_some c3 hi]
      have hG := (storeOk_good c1).boxes.good _ (List.getElem_mem hi)
      have h6 := spec_TakeOut.says kt s.boxes[i] hG.inB m
      have a1 : ∀ hh, (s.boxes.map encBox)[i]'hh = encBox s.boxes[i] := by intro hh; simp
      have ni : ¬ (i : Int) < 0 := by omega
      generalize takeOut s.boxes[i] m = A at *
      obtain ⟨b', ok⟩ := A
      have es : (s.boxes.set i b').map encBox = (s.boxes.map encBox).set i (encBox b') := List.map_set
      simp only [encStore, encStoreO, boxes, ints, intO] at h1 h2 h4 ⊢
      simp only [encBox, encBoxO, mails, ints] at h6 a1 es
      cases ok
      · simp only [Bool.false_eq_true, if_false]
        generalize s.boxes.map encBox = rb at *
        generalize irow s.gone = rs at *
        generalize s.boxes[i].mails.map encMail = r1 at *
        generalize irow s.boxes[i].gone = r2 at *
        generalize b'.mails.map encMail = r3 at *
        generalize irow b'.gone = r4 at *
        simp (maxSteps := 1000000) [exB, spec_DropMail.m, spec_DropMail.b, List.range_succ, bs_get, setAt, hi, ni, h1, h2, h4, h6, er, eg, a1, List.take_of_length_le]
      · simp only [if_true, es]
        clear es
        generalize s.boxes.map encBox = rb at *
        generalize irow s.gone = rs at *
        generalize s.boxes[i].mails.map encMail = r1 at *
        generalize irow s.boxes[i].gone = r2 at *
        generalize b'.mails.map encMail = r3 at *
        generalize irow b'.gone = r4 at *
        simp (maxSteps := 1000000) [exB, spec_DropMail.m, spec_DropMail.b, List.range_succ, bs_get, setAt, hi, ni, h1, h2, h4, h6, er, eg, a1, List.take_of_length_le]
end Mx

namespace Mx
open Go
variable {M : Nat → Option Body}
def renamedB (s : Store) (nm : List UInt8) (b : Box) : Box := { b with name := nm, time := s.time + 1, who := s.who }
def renameBox (s : Store) (g : Int) (nm : List UInt8) : Store × Bool := if storeOk s = true ∧ (named s.boxes nm).isSome = false then at_ s g fun i b => stamped s i (renamedB s nm b) else (s, false)
set_option maxHeartbeats 4000000 in
theorem spec_RenameBox.says (h : spec_RenameBox.k M) (s : Store) (hs : StoreT s) (g : Int) (nm : List UInt8) (hn : nm.length ≤ 1048576) :
    run M 282 [.a (encStore s), .c (I g), .c (S nm)] [] = some (.tup [.a (encStoreO (renameBox s g nm).1), .c (.bool (renameBox s g nm).2)], []) := by
  obtain ⟨h0, ko, kb, kc, kn, kst⟩ := h
  have ht := hs.time
  have h1 := spec_BoxAt.says kb s g hs.in_.b
  have h2 := spec_StoreOk.says ko s hs.in_
  have h3 := spec_BoxNamed.says kn s nm hs.in_.b
  have h4 := spec_l07Copy.says kc s hs.in_
  have h5 := spec_NextStamp.says kst s hs.time
  have er : (s.boxes.map encBox).length = s.boxes.length := by simp
  have eg := irow_length s.gone
  have e5 : IntKind.i64.wrap (s.time + 1) = s.time + 1 := wrap_i64 (by omega) (by omega)
  refine run_code (b := spec_RenameBox.m) h0 ⟨0, ?_⟩
  unfold renameBox
  cases c1 : storeOk s with
  | false =>
    rw [c1] at h2
    simp only [Bool.false_eq_true, false_and, if_false]
    simp only [encStore, encStoreO, boxes, ints] at *
    generalize s.boxes.map encBox = rb at *
    generalize irow s.gone = rs at *
    simp (maxSteps := 1000000) [exB, spec_RenameBox.m, spec_RenameBox.b, List.range_succ, bs_get, setAt, h1, h2, h4, er, eg, List.take_of_length_le]
  | true =>
    rw [c1] at h2
    cases c3 : boxO s.boxes g with
    | none =>
      rw [c3] at h1
      have e : (if true = true ∧ (named s.boxes nm).isSome = false then at_ s g fun i b => stamped s i (renamedB s nm b) else (s, false)) = (s, false) := by
        rw [at_none c3]; split <;> rfl
      rw [e]
      simp only [encStore, encStoreO, boxes, ints, intO] at *
      generalize s.boxes.map encBox = rb at *
      generalize irow s.gone = rs at *
      simp (maxSteps := 1000000) [exB, spec_RenameBox.m, spec_RenameBox.b, List.range_succ, bs_get, setAt, h1, h2, h4, er, eg, List.take_of_length_le]
    | some i =>
      rw [c3] at h1
      obtain ⟨hi, _⟩ := boxO_some c3
      have ni : ¬ (i : Int) < 0 := by omega
      have c0 := intO_nonneg (named s.boxes nm)
      cases c2 : (named s.boxes nm).isSome with
      | true =>
        rw [c2] at c0
        simp only [decide_eq_true_eq] at c0
        simp only [Bool.true_eq_false, and_false, if_false]
        generalize intO (named s.boxes nm) = z at *
        simp only [encStore, encStoreO, boxes, ints, intO] at *
        generalize s.boxes.map encBox = rb at *
        generalize irow s.gone = rs at *
        simp (maxSteps := 1000000) [exB, spec_RenameBox.m, spec_RenameBox.b, List.range_succ, bs_get, setAt, ni, c0, h1, h2, h3, h4, er, eg, List.take_of_length_le]
      | false =>
        rw [c2] at c0
        simp only [decide_eq_false_iff_not] at c0
        rw [if_pos ⟨rfl, rfl⟩, at_some c3 hi]
        have hG := (storeOk_good c1).boxes.good _ (List.getElem_mem hi)
        have hin : BoxIn (renamedB s nm s.boxes[i]) := ⟨hG.inB.m, hG.inB.g, hn, hG.inB.f⟩
        have h6 := spec_StoreOk.says ko _ (stampedTo_in hs.in_ hi hin (by have := good_gids c1; have := hG.len; simp only [renamedB]; omega))
        have a1 : ∀ hh, (s.boxes.map encBox)[i]'hh = encBox s.boxes[i] := by intro hh; simp
        have es : (stampedTo s i (renamedB s nm s.boxes[i])).boxes.map encBox = (s.boxes.map encBox).set i (encBox (renamedB s nm s.boxes[i])) := by simp only [stampedTo, List.map_set]
        have ew : (stampedTo s i (renamedB s nm s.boxes[i])).who = s.who := rfl
        have et : (stampedTo s i (renamedB s nm s.boxes[i])).time = s.time + 1 := rfl
        have egn : (stampedTo s i (renamedB s nm s.boxes[i])).gone = s.gone := rfl
        unfold stamped
        generalize intO (named s.boxes nm) = z at *
        cases c : storeOk (stampedTo s i (renamedB s nm s.boxes[i])) with
        | true =>
          rw [c] at h6
          rw [if_pos rfl]
          simp only [encStore, encStoreO, boxes, ints, intO, es, ew, et, egn] at h1 h2 h3 h4 h5 h6 ⊢
          clear es c
          simp only [encBox, mails, ints, renamedB] at h6 a1 ⊢
          generalize s.boxes.map encBox = rb at *
          generalize irow s.gone = rs at *
          generalize s.boxes[i].mails.map encMail = r1 at *
          generalize irow s.boxes[i].gone = r2 at *
          simp (maxSteps := 1000000) [exB, spec_RenameBox.m, spec_RenameBox.b, List.range_succ, bs_get, setAt, hi, ni, c0, h1, h2, h3, h4, h5, h6, e5, er, eg, a1, List.take_of_length_le]
        | false =>
          rw [c] at h6
          rw [if_neg (by decide)]
          simp only [encStore, encStoreO, boxes, ints, intO, es, ew, et, egn] at h1 h2 h3 h4 h5 h6 ⊢
          clear es c
          simp only [encBox, mails, ints, renamedB] at h6 a1 ⊢
          generalize s.boxes.map encBox = rb at *
          generalize irow s.gone = rs at *
          generalize s.boxes[i].mails.map encMail = r1 at *
          generalize irow s.boxes[i].gone = r2 at *
          simp (maxSteps := 1000000) [exB, spec_RenameBox.m, spec_RenameBox.b, List.range_succ, bs_get, setAt, hi, ni, c0, h1, h2, h3, h4, h5, h6, e5, er, eg, a1, List.take_of_length_le]
def dropBox (s : Store) (g : Int) : Store × Bool := if storeOk s = true ∧ s.gone.length < 20 then at_ s g fun i _ => ({ s with boxes := s.boxes.take i ++ s.boxes.drop (i + 1), gone := gput s.gone g }, true) else (s, false)
set_option maxHeartbeats 4000000 in
theorem spec_DropBox.says (h : spec_DropBox.k M) (s : Store) (hs : StoreT s) (g : Int) :
    run M 283 [.a (encStore s), .c (I g)] [] = some (.tup [.a (encStoreO (dropBox s g).1), .c (.bool (dropBox s g).2)], []) := by
  obtain ⟨h0, kp, ko, kb, kc⟩ := h
  have h1 := spec_BoxAt.says kb s g hs.in_.b
  have h2 := spec_StoreOk.says ko s hs.in_
  have h4 := spec_l07Copy.says kc s hs.in_
  have h5 := spec_l06Put.says kp s.gone g (by have := hs.in_.g; omega)
  have er : (s.boxes.map encBox).length = s.boxes.length := by simp
  have eg := irow_length s.gone
  have hbl := hs.in_.b
  refine run_code (b := spec_DropBox.m) h0 ⟨0, ?_⟩
  unfold dropBox
  cases c1 : storeOk s with
  | false =>
    rw [c1] at h2
    simp only [Bool.false_eq_true, false_and, if_false]
    simp only [encStore, encStoreO, boxes, ints] at *
    generalize s.boxes.map encBox = rb at *
    generalize irow s.gone = rs at *
    simp (maxSteps := 1000000) [exB, spec_DropBox.m, spec_DropBox.b, List.range_succ, bs_get, setAt, h1, h2, h4, er, eg, List.take_of_length_le]
  | true =>
    rw [c1] at h2
    cases c3 : boxO s.boxes g with
    | none =>
      rw [c3] at h1
      have e : (if true = true ∧ s.gone.length < 20 then at_ s g fun i _ => ({ s with boxes := s.boxes.take i ++ s.boxes.drop (i + 1), gone := gput s.gone g }, true) else (s, false)) = (s, false) := by
        rw [at_none c3]; split <;> rfl
      rw [e]
      simp only [encStore, encStoreO, boxes, ints, intO] at *
      generalize s.boxes.map encBox = rb at *
      generalize irow s.gone = rs at *
      simp (maxSteps := 1000000) [exB, spec_DropBox.m, spec_DropBox.b, List.range_succ, bs_get, setAt, h1, h2, h4, er, eg, List.take_of_length_le]
    | some i =>
      rw [c3] at h1
      obtain ⟨hi, _⟩ := boxO_some c3
      have ni : ¬ (i : Int) < 0 := by omega
      by_cases c2 : s.gone.length < 20
      · have c2' : ¬ (20 : Int) ≤ (s.gone.length : Int) := by omega
        have c2'' : ¬ 20 ≤ s.gone.length := by omega
        rw [if_pos ⟨rfl, c2⟩, at_some c3 hi]
        have e5 := wrap1 (i := i) (by omega)
        have e6 : (s.boxes.take i ++ s.boxes.drop (i + 1)).map encBox = (s.boxes.map encBox).take i ++ (s.boxes.map encBox).drop (i + 1) := by simp [List.map_take, List.map_drop]
        have e7 := irow_length (gput s.gone g)
        have e8 : i ≤ s.boxes.length := by omega
        have e9 : i + (s.boxes.length - (i + 1)) ≤ 4294967296 := by omega
        have e10 : i ≤ 4294967296 := by omega
        have e11 : i + 1 ≤ s.boxes.length := by omega
        have e12 : Min.min i s.boxes.length = i := by omega
        simp only [encStore, encStoreO, boxes, ints, intO, e6] at h1 h2 h4 h5 ⊢
        generalize irow (gput s.gone g) = rp at *
        generalize s.boxes.map encBox = rb at *
        generalize irow s.gone = rs at *
        have f1 : (0 : Int) ≤ (i : Int) + 1 := by omega
        have f2 : ((i : Int) + 1).toNat = i + 1 := by omega
        by_cases c9 : i + 1 = s.boxes.length
        · have d1 : rb.drop (i + 1) = [] := List.drop_eq_nil_of_le (by omega)
          have d2 : rb.drop s.boxes.length = [] := List.drop_eq_nil_of_le (by omega)
          have d3 : s.boxes.length - (i + 1) = 0 := by omega
          have d4 : ¬ s.boxes.length = 0 := by omega
          rw [← c9] at hi er
          simp (maxSteps := 1000000) [exB, spec_DropBox.m, spec_DropBox.b, List.range_succ, bs_get, setAt, hi, ni, c2, c2', c2'', h1, h2, h4, h5, e5, e7, e10, e12, d1, f1, f2, er, eg, List.take_of_length_le]
        · simp (maxSteps := 1000000) [exB, spec_DropBox.m, spec_DropBox.b, List.range_succ, bs_get, setAt, hi, ni, c2, c2', c2'', c9, f1, f2, h1, h2, h4, h5, e5, e7, e8, e9, e10, e11, e12, er, eg, List.take_of_length_le]
      · have c2' : (20 : Int) ≤ (s.gone.length : Int) := by omega
        have c2'' : 20 ≤ s.gone.length := by omega
        simp only [c2, and_false, if_false]
        simp only [encStore, encStoreO, boxes, ints, intO] at *
        generalize s.boxes.map encBox = rb at *
        generalize irow s.gone = rs at *
        simp (maxSteps := 1000000) [exB, spec_DropBox.m, spec_DropBox.b, List.range_succ, bs_get, setAt, ni, c2', c2'', h1, h2, h4, er, eg, List.take_of_length_le]
end Mx

namespace Mx
open Go
variable {M : Nat → Option Body}
structure MbC where
  s : Store
  g : Int
  N : List T
  u3 : Nat
  u6 : Nat
  u8 : Nat
  u9 : Nat
  w2 : Nat
  w3 : Nat
def mb8 (c : MbC) (v n : Nat) : List T := [I c.s.who, I c.s.time, .row 30 v 0 n, .row 12903 c.w3 0 c.s.gone.length]
def mbS (c : MbC) (i : Nat) (out : List Box) (y : Nat × Nat) : St := { t := [(1, .c (I c.g)), (3, .c (.ptr 3 c.u3 0 0)), (6, .c (.ptr 6 c.u6 0 0)), (8, .c (.ptr 8 c.u8 0 0)), (9, .c (.ptr 9 c.u9 0 0)), (10, .c (I i))], o := [(3, ⟨c.u3, 4, true, true, [encStore c.s]⟩), (6, ⟨c.u6, 4, true, true, [szero]⟩), (8, ⟨c.u8, 4, true, true, [mb8 c y.1 out.length]⟩), (9, ⟨c.u9, 7, true, true, [c.N]⟩), (30, ⟨y.1, 7, true, false, out.map encBox⟩), (12902, ⟨c.w2, 7, true, false, c.s.boxes.map encBox⟩), (12903, ⟨c.w3, 1, true, false, irow c.s.gone⟩)], n := y.2 }
def mbE (c : MbC) (out : List Box) (y : Nat × Nat) : St := { t := [(1, .c (I c.g)), (3, .c (.ptr 3 c.u3 0 0)), (6, .c (.ptr 6 c.u6 0 0)), (8, .c (.ptr 8 c.u8 0 0)), (9, .c (.ptr 9 c.u9 0 0)), (10, .c (I c.s.boxes.length)), (41, .c (.bool false))], o := [(3, ⟨c.u3, 4, true, true, [encStore c.s]⟩), (6, ⟨c.u6, 4, true, true, [szero]⟩), (8, ⟨c.u8, 4, true, true, [mb8 c y.1 out.length]⟩), (9, ⟨c.u9, 7, true, true, [c.N]⟩), (30, ⟨y.1, 7, true, false, out.map encBox⟩), (12902, ⟨c.w2, 7, true, false, c.s.boxes.map encBox⟩), (12903, ⟨c.w3, 1, true, false, irow c.s.gone⟩)], n := y.2 }
def mcS (c : MbC) (i : Nat) (out : List Box) (y : Nat × Nat) : St := { t := [(1, .c (I c.g)), (3, .c (.ptr 3 c.u3 0 0)), (6, .c (.ptr 6 c.u6 0 0)), (8, .c (.ptr 8 c.u8 0 0)), (11, .c (I i))], o := [(3, ⟨c.u3, 4, true, true, [encStore c.s]⟩), (6, ⟨c.u6, 4, true, true, [szero]⟩), (8, ⟨c.u8, 4, true, true, [mb8 c y.1 out.length]⟩), (30, ⟨y.1, 7, true, false, out.map encBox⟩), (12902, ⟨c.w2, 7, true, false, c.s.boxes.map encBox⟩), (12903, ⟨c.w3, 1, true, false, irow c.s.gone⟩)], n := y.2 }
def mcE (c : MbC) (out : List Box) (y : Nat × Nat) : St := { t := [(1, .c (I c.g)), (3, .c (.ptr 3 c.u3 0 0)), (6, .c (.ptr 6 c.u6 0 0)), (8, .c (.ptr 8 c.u8 0 0)), (11, .c (I c.s.boxes.length)), (73, .c (.bool false))], o := [(3, ⟨c.u3, 4, true, true, [encStore c.s]⟩), (6, ⟨c.u6, 4, true, true, [szero]⟩), (8, ⟨c.u8, 4, true, true, [mb8 c y.1 out.length]⟩), (30, ⟨y.1, 7, true, false, out.map encBox⟩), (12902, ⟨c.w2, 7, true, false, c.s.boxes.map encBox⟩), (12903, ⟨c.w3, 1, true, false, irow c.s.gone⟩)], n := y.2 }
theorem bfilter_fold (p : Box → Bool) : ∀ (l s : List Box), l.foldl (fun s a => if p a = true then s ++ [a] else s) s = s ++ l.filter p
  | [], s => by simp
  | a :: l, s => by
    rw [List.foldl_cons, bfilter_fold p l, List.filter_cons]
    by_cases h : p a = true <;> simp [h]
set_option maxHeartbeats 2000000 in
theorem mb_loop (kc : spec_l06Copy.k M) (k : Nat) (c : MbC) (hs : StoreIn c.s) (hk : c.s.boxes.length < k) (y : Nat × Nat) :
    ∃ z, loopN (exC (run M) k spec_MakeBox.l0) k (mbS c 0 [] y) = some (.exit 0, mbE c (c.s.boxes.filter fun b => decide (b.gid < c.g)) z) := by
  have hbl := hs.b
  have er : (c.s.boxes.map encBox).length = c.s.boxes.length := by simp
  obtain ⟨g, hr⟩ := fold_loop (f := exC (run M) k spec_MakeBox.l0) c.s.boxes (fun s b => if decide (b.gid < c.g) = true then s ++ [b] else s) (fun i s => s.length ≤ i) (mbS c) 0 (mbE c)
    (fun i h s hs => by split <;> (try simp) <;> omega)
    (fun i hi s y hi2 => by
      obtain ⟨v, n⟩ := y
      have hB := hs.i _ (List.getElem_mem hi)
      have h1 := spec_l06Copy.says kc c.s.boxes[i] hB
      have e5 := wrap1 (i := i) (by omega)
      have e6 : s.length + 1 ≤ 4294967296 := by omega
      have e9 : (s.map encBox).length = s.length := by simp
      have a1 : ∀ hh, (c.s.boxes.map encBox)[i]'hh = encBox c.s.boxes[i] := by intro hh; simp
      simp only [Prod.exists]
      by_cases q : c.s.boxes[i].gid < c.g
      · simp only [q, decide_true, if_true, mbS, mb8, List.map_append, List.map_cons, List.map_nil, List.length_append, List.length_singleton]
        simp only [encStore, encBox, encBoxO, boxes, mails, ints] at a1 h1 ⊢
        generalize c.s.boxes.map encBox = rb at *
        generalize irow c.s.gone = rs at *
        generalize s.map encBox = ro at *
        generalize c.s.boxes[i].mails.map encMail = r1 at *
        generalize irow c.s.boxes[i].gone = r2 at *
        simp (maxSteps := 1000000) [spec_MakeBox.l0, List.range_succ, bs_get, setAt, hi, q, h1, e5, e6, e9, er, a1, List.take_of_length_le]
      · simp only [q, decide_false, Bool.false_eq_true, if_false, mbS, mb8]
        simp only [encStore, encBox, encBoxO, boxes, mails, ints] at a1 h1 ⊢
        generalize c.s.boxes.map encBox = rb at *
        generalize irow c.s.gone = rs at *
        generalize s.map encBox = ro at *
        generalize c.s.boxes[i].mails.map encMail = r1 at *
        generalize irow c.s.boxes[i].gone = r2 at *
        simp (maxSteps := 1000000) [spec_MakeBox.l0, List.range_succ, bs_get, setAt, hi, q, e5, er, a1])
    (fun s y hs => by
      obtain ⟨v, n⟩ := y
      simp only [Prod.exists, mbS, mbE, mb8, encStore, boxes, ints]
      generalize c.s.boxes.map encBox = rb at *
      generalize irow c.s.gone = rs at *
      generalize s.map encBox = ro at *
      simp (maxSteps := 1000000) [spec_MakeBox.l0, List.range_succ, bs_get, setAt, er]) [] (by simp)
  rw [bfilter_fold, List.nil_append] at hr
  exact ⟨_, loopN_le (hr y) (by omega)⟩
set_option maxHeartbeats 2000000 in
theorem mc_loop (kc : spec_l06Copy.k M) (k : Nat) (c : MbC) (hs : StoreIn c.s) (hk : c.s.boxes.length < k) (o0 : List Box) (ho : o0.length ≤ 2097152) (y : Nat × Nat) :
    ∃ z, loopN (exC (run M) k spec_MakeBox.l1) k (mcS c 0 o0 y) = some (.exit 2, mcE c (o0 ++ c.s.boxes.filter fun b => decide (c.g < b.gid)) z) := by
  have hbl := hs.b
  have er : (c.s.boxes.map encBox).length = c.s.boxes.length := by simp
  obtain ⟨g, hr⟩ := fold_loop (f := exC (run M) k spec_MakeBox.l1) c.s.boxes (fun s b => if decide (c.g < b.gid) = true then s ++ [b] else s) (fun i s => s.length ≤ 2097152 + i) (mcS c) 2 (mcE c)
    (fun i h s hs => by split <;> (try simp) <;> omega)
    (fun i hi s y hi2 => by
      obtain ⟨v, n⟩ := y
      have hB := hs.i _ (List.getElem_mem hi)
      have h1 := spec_l06Copy.says kc c.s.boxes[i] hB
      have e5 := wrap1 (i := i) (by omega)
      have e6 : s.length + 1 ≤ 4294967296 := by omega
      have e9 : (s.map encBox).length = s.length := by simp
      have a1 : ∀ hh, (c.s.boxes.map encBox)[i]'hh = encBox c.s.boxes[i] := by intro hh; simp
      simp only [Prod.exists]
      by_cases q : c.g < c.s.boxes[i].gid
      · simp only [q, decide_true, if_true, mcS, mb8, List.map_append, List.map_cons, List.map_nil, List.length_append, List.length_singleton]
        simp only [encStore, encBox, encBoxO, boxes, mails, ints] at a1 h1 ⊢
        generalize c.s.boxes.map encBox = rb at *
        generalize irow c.s.gone = rs at *
        generalize s.map encBox = ro at *
        generalize c.s.boxes[i].mails.map encMail = r1 at *
        generalize irow c.s.boxes[i].gone = r2 at *
        simp (maxSteps := 1000000) [spec_MakeBox.l1, List.range_succ, bs_get, setAt, hi, q, h1, e5, e6, e9, er, a1, List.take_of_length_le]
      · simp only [q, decide_false, Bool.false_eq_true, if_false, mcS, mb8]
        simp only [encStore, encBox, encBoxO, boxes, mails, ints] at a1 h1 ⊢
        generalize c.s.boxes.map encBox = rb at *
        generalize irow c.s.gone = rs at *
        generalize s.map encBox = ro at *
        generalize c.s.boxes[i].mails.map encMail = r1 at *
        generalize irow c.s.boxes[i].gone = r2 at *
        simp (maxSteps := 1000000) [spec_MakeBox.l1, List.range_succ, bs_get, setAt, hi, q, e5, er, a1])
    (fun s y hs => by
      obtain ⟨v, n⟩ := y
      simp only [Prod.exists, mcS, mcE, mb8, encStore, boxes, ints]
      generalize c.s.boxes.map encBox = rb at *
      generalize irow c.s.gone = rs at *
      generalize s.map encBox = ro at *
      simp (maxSteps := 1000000) [spec_MakeBox.l1, List.range_succ, bs_get, setAt, er]) o0 (by omega)
  rw [bfilter_fold] at hr
  exact ⟨_, loopN_le (hr y) (by omega)⟩
end Mx

namespace Mx
open Go
variable {M : Nat → Option Body}
def newBox (s : Store) (g : Int) (nm : List UInt8) : Box := ⟨g, nm, s.time + 1, s.who, 1, [], []⟩
def makeTo (s : Store) (g : Int) (nm : List UInt8) : Store := { s with boxes := (s.boxes.filter fun b => decide (b.gid < g)) ++ [newBox s g nm] ++ s.boxes.filter fun b => decide (g < b.gid), time := s.time + 1 }
def makeBox (s : Store) (g : Int) (nm : List UInt8) : Store × Bool := if storeOk s = true ∧ knows s g = false ∧ (named s.boxes nm).isSome = false then (if storeOk (makeTo s g nm) = true then (makeTo s g nm, true) else (s, false)) else (s, false)
theorem makeTo_in {s : Store} (h : storeOk s = true) (g : Int) (nm : List UInt8) (hn : nm.length ≤ 1048576) : StoreIn (makeTo s g nm) := by
  have G := storeOk_good h
  have hl := G.boxes.len
  have f1 := List.length_filter_le (fun b : Box => decide (b.gid < g)) s.boxes
  have f2 := List.length_filter_le (fun b : Box => decide (g < b.gid)) s.boxes
  have hin : ∀ x ∈ (makeTo s g nm).boxes, x ∈ s.boxes ∨ x = newBox s g nm := fun x hx => by
    simp only [makeTo, List.mem_append, List.mem_filter, List.mem_singleton] at hx
    rcases hx with (q | q) | q
    · exact .inl q.1
    · exact .inr q
    · exact .inl q.1
  have hlen : (makeTo s g nm).boxes.length ≤ 11 := by simp only [makeTo, List.length_append, List.length_singleton]; omega
  have key : ∀ l : List Box, (∀ x ∈ l, x.mails.length ≤ 10) → (l.flatMap gidsOf).length ≤ 10 * l.length := by
    intro l
    induction l with
    | nil => intro _; simp
    | cons x l ih =>
      intro h
      have h1 := ih fun y hy => h y (List.mem_cons_of_mem _ hy)
      have h2 := h x (List.mem_cons_self ..)
      simp only [List.flatMap_cons, List.length_append, gidsOf, List.length_map, List.length_cons] at h1 ⊢
      omega
  refine ⟨by omega, by have := G.gone; simp only [makeTo]; omega, fun x hx => ?_, ?_⟩
  · rcases hin x hx with q | q
    · exact (G.boxes.good x q).inB
    · rw [q]; exact ⟨by simp [newBox], by simp [newBox], hn, by simp [newBox]⟩
  · have := key (makeTo s g nm).boxes fun x hx => by
      rcases hin x hx with q | q
      · exact (G.boxes.good x q).len
      · rw [q]; simp [newBox]
    omega
set_option maxHeartbeats 4000000 in
theorem spec_MakeBox.says (h : spec_MakeBox.k M) (s : Store) (hs : StoreT s) (g : Int) (nm : List UInt8) (hn : nm.length ≤ 1048576) :
    run M 278 [.a (encStore s), .c (I g), .c (S nm)] [] = some (.tup [.a (encStoreO (makeBox s g nm).1), .c (.bool (makeBox s g nm).2)], []) := by
  obtain ⟨h0, ko, kc6, kc, kn, kk, kst⟩ := h
  have ht := hs.time
  have hbl := hs.in_.b
  have h2 := spec_StoreOk.says ko s hs.in_
  have h3 := spec_BoxNamed.says kn s nm hs.in_.b
  have h7 := spec_Knows.says kk s g hs.in_
  have h4 := spec_l07Copy.says kc s hs.in_
  have h5 := spec_NextStamp.says kst s hs.time
  have er : (s.boxes.map encBox).length = s.boxes.length := by simp
  have eg := irow_length s.gone
  have e5 : IntKind.i64.wrap (s.time + 1) = s.time + 1 := wrap_i64 (by omega) (by omega)
  have c0 := intO_nonneg (named s.boxes nm)
  refine run_code (b := spec_MakeBox.m) h0 ⟨s.boxes.length + 1, ?_⟩
  unfold makeBox
  cases c1 : storeOk s with
  | false =>
    rw [c1] at h2
    simp only [Bool.false_eq_true, false_and, if_false]
    simp only [encStore, encStoreO, boxes, ints] at *
    generalize s.boxes.map encBox = rb at *
    generalize irow s.gone = rs at *
    simp (maxSteps := 1000000) [exB, spec_MakeBox.m, spec_MakeBox.b, List.range_succ, bs_get, setAt, h2, h4, er, eg, List.take_of_length_le]
  | true =>
    rw [c1] at h2
    cases c2 : knows s g with
    | true =>
      rw [c2] at h7
      simp only [Bool.true_eq_false, false_and, and_false, if_false]
      simp only [encStore, encStoreO, boxes, ints] at *
      generalize s.boxes.map encBox = rb at *
      generalize irow s.gone = rs at *
      simp (maxSteps := 1000000) [exB, spec_MakeBox.m, spec_MakeBox.b, List.range_succ, bs_get, setAt, h2, h4, h7, er, eg, List.take_of_length_le]
    | false =>
      rw [c2] at h7
      cases c3 : (named s.boxes nm).isSome with
      | true =>
        rw [c3] at c0
        simp only [decide_eq_true_eq] at c0
        simp only [Bool.true_eq_false, and_false, if_false]
        generalize intO (named s.boxes nm) = z at *
        simp only [encStore, encStoreO, boxes, ints] at *
        generalize s.boxes.map encBox = rb at *
        generalize irow s.gone = rs at *
        simp (maxSteps := 1000000) [exB, spec_MakeBox.m, spec_MakeBox.b, List.range_succ, bs_get, setAt, c0, h2, h3, h4, h7, er, eg, List.take_of_length_le]
      | false =>
        rw [c3] at c0
        simp only [decide_eq_false_iff_not] at c0
        rw [if_pos ⟨rfl, rfl, rfl⟩]
        have h6 := spec_StoreOk.says ko _ (makeTo_in c1 g nm hn)
        obtain ⟨⟨v1, n1⟩, r1⟩ := mb_loop kc6 (s.boxes.length + 1) ⟨s, g, [I g, S nm, I (s.time + 1), I s.who, I 1, .nils 4, .nils 1], 2000000, 2000016, 2000304, 2000464, 2000290, 2000291⟩ hs.in_ (by simp only; omega) (2000336, 2000512)
        have f1 := List.length_filter_le (fun b : Box => decide (b.gid < g)) s.boxes
        have f2 := List.length_filter_le (fun b : Box => decide (g < b.gid)) s.boxes
        obtain ⟨⟨v2, n2⟩, r2⟩ := mc_loop kc6 (s.boxes.length + 1) ⟨s, g, [], 2000000, 2000016, 2000304, 0, 2000290, 2000291⟩ hs.in_ (by simp only; omega) ((s.boxes.filter fun b => decide (b.gid < g)) ++ [newBox s g nm]) (by simp; omega) (n1 + 64, n1 + 128)
        have ez : ((0 : Nat) : Int) = 0 := rfl
        have el1 : ((s.boxes.filter fun b => decide (b.gid < g)).map encBox).length = (s.boxes.filter fun b => decide (b.gid < g)).length := by simp
        have em : (((s.boxes.filter fun b => decide (b.gid < g)) ++ [newBox s g nm]).map encBox) = (s.boxes.filter fun b => decide (b.gid < g)).map encBox ++ [[I g, S nm, I (s.time + 1), I s.who, I 1, .sl false 4 [], .sl false 1 []]] := by simp [newBox, encBox, irow]
        have eml : ((s.boxes.filter fun b => decide (b.gid < g)) ++ [newBox s g nm]).length = (s.boxes.filter fun b => decide (b.gid < g)).length + 1 := by simp
        have e6 : (s.boxes.filter fun b => decide (b.gid < g)).length + 1 ≤ 4294967296 := by omega
        have emt : (makeTo s g nm).boxes = (s.boxes.filter fun b => decide (b.gid < g)) ++ [newBox s g nm] ++ s.boxes.filter fun b => decide (g < b.gid) := rfl
        have el2 : ((makeTo s g nm).boxes.map encBox).length = (makeTo s g nm).boxes.length := by simp
        have ew : (makeTo s g nm).who = s.who := rfl
        have et : (makeTo s g nm).time = s.time + 1 := rfl
        have egn : (makeTo s g nm).gone = s.gone := rfl
        simp only [mbS, mbE, mb8, ez, List.map_nil, List.length_nil] at r1
        simp only [mcS, mcE, mb8, ez, ← emt, em, eml] at r2
        clear emt em eml
        generalize intO (named s.boxes nm) = z at *
        generalize (s.boxes.filter fun b => decide (b.gid < g)).map encBox = rf at *
        generalize (s.boxes.filter fun b => decide (b.gid < g)).length = nf at *
        cases c : storeOk (makeTo s g nm) with
        | true =>
          rw [c] at h6
          rw [if_pos rfl]
          simp only [encStore, encStoreO, boxes, ints, ew, et, egn] at h2 h3 h4 h5 h6 h7 r1 r2 ⊢
          clear c
          generalize (makeTo s g nm).boxes.map encBox = rm at *
          generalize (makeTo s g nm).boxes.length = nm2 at *
          generalize s.boxes.map encBox = rb at *
          generalize irow s.gone = rs at *
          simp (maxSteps := 1000000) [exB, spec_MakeBox.m, spec_MakeBox.b, List.range_succ, bs_get, setAt, c0, h2, h3, h4, h5, h6, h7, r1, r2, e5, e6, el1, el2, er, eg, List.take_of_length_le]
        | false =>
          rw [c] at h6
          rw [if_neg (by decide)]
          simp only [encStore, encStoreO, boxes, ints, ew, et, egn] at h2 h3 h4 h5 h6 h7 r1 r2 ⊢
          clear c
          generalize (makeTo s g nm).boxes.map encBox = rm at *
          generalize (makeTo s g nm).boxes.length = nm2 at *
          generalize s.boxes.map encBox = rb at *
          generalize irow s.gone = rs at *
          simp (maxSteps := 1000000) [exB, spec_MakeBox.m, spec_MakeBox.b, List.range_succ, bs_get, setAt, c0, h2, h3, h4, h5, h6, h7, r1, r2, e5, e6, el1, el2, er, eg, List.take_of_length_le]
end Mx

namespace Mx
open Go
structure GoodS (s : Store) : Prop where
  who : 1 ≤ s.who ∧ s.who ≤ 2
  time : 0 ≤ s.time ∧ s.time ≤ 100000
  len : s.boxes.length ≤ 5
  gone : Asc s.gone
  goneR : ∀ g ∈ s.gone, 1 ≤ g ∧ g ≤ 9999
  goneL : s.gone.length ≤ 20
  box : ∀ b ∈ s.boxes, Good b ∧ ¬ b.gid ∈ s.gone ∧ late b s.time = false
  asc : s.boxes.Pairwise fun x y => x.gid < y.gid
  names : s.boxes.Pairwise fun x y => x.name ≠ y.name
  mails : (s.boxes.flatMap gidsOf).Nodup
theorem named_at {l : List Box} (i : Nat) (hi : i < l.length) : intO (named l l[i].name) = (i : Int) ↔ ∀ j (hj : j < i), (l[j]'(by omega)).name ≠ l[i].name := by
  unfold named
  constructor
  · intro h j hj e
    cases q : l.findIdx? (fun b => decide (b.name = l[i].name)) with
    | none => rw [q] at h; simp [intO] at h
    | some k =>
      rw [q] at h
      simp only [intO] at h
      have hk : k = i := by omega
      subst hk
      have := (List.findIdx?_eq_some_iff_getElem.1 q).2.2 j hj
      simp [e] at this
  · intro h
    have : l.findIdx? (fun b => decide (b.name = l[i].name)) = some i := List.findIdx?_eq_some_iff_getElem.2 ⟨hi, by simp, fun j hj => by simpa using h j hj⟩
    rw [this]; rfl
theorem dups_iff (seen l : List Int) (hs : seen.Nodup) : dups seen l = false ↔ (seen ++ l).Nodup := by
  have h0 : dups seen l = false ↔ ∀ k (hk : k < l.length), ¬ l[k] ∈ seen ++ l.take k := by
    unfold dups
    rw [Option.isSome_eq_false_iff, Option.isNone_iff_eq_none, firstN_isNone]
    constructor
    · intro h k hk c
      have := h k hk
      rw [dupAt_at hk] at this
      simp only [decide_eq_false_iff_not] at this
      exact this c
    · intro h k hk
      rw [dupAt_at hk]
      simpa using h k hk
  rw [h0]
  constructor
  · intro h
    have key : ∀ k, k ≤ l.length → (seen ++ l.take k).Nodup := by
      intro k
      induction k with
      | zero => intro _; simpa using hs
      | succ k ih =>
        intro hk
        rw [take_snoc l k (by omega), ← List.append_assoc, List.nodup_append]
        refine ⟨ih (by omega), by simp, fun a ha b hb e => ?_⟩
        simp only [List.mem_singleton] at hb
        subst hb
        subst e
        exact h k (by omega) ha
    have := key l.length (Nat.le_refl _)
    rwa [List.take_length] at this
  · intro h k hk c
    have e : l = l.take k ++ l[k] :: l.drop (k + 1) := by rw [← List.drop_eq_getElem_cons hk, List.take_append_drop]
    rw [e, ← List.append_assoc, List.nodup_append] at h
    exact h.2.2 _ c _ (List.mem_cons_self ..) rfl
theorem seen_iff (s : Store) : (∀ i (hi : i < s.boxes.length), dups (seenAt s i) (gidsOf s.boxes[i]) = false) ↔ (s.boxes.flatMap gidsOf).Nodup := by
  have ha : seenAt s s.boxes.length = s.boxes.flatMap gidsOf := by simp [seenAt]
  constructor
  · intro h
    have key : ∀ k, k ≤ s.boxes.length → (seenAt s k).Nodup := by
      intro k
      induction k with
      | zero => intro _; simp [seenAt]
      | succ k ih =>
        intro hk
        rw [seenAt_succ (by omega)]
        exact (dups_iff _ _ (ih (by omega))).1 (h k (by omega))
    rw [← ha]; exact key _ (Nat.le_refl _)
  · intro h i hi
    have hsub : (seenAt s (i + 1)).Sublist (s.boxes.flatMap gidsOf) := by
      have e : s.boxes.flatMap gidsOf = seenAt s (i + 1) ++ (s.boxes.drop (i + 1)).flatMap gidsOf := by
        rw [seenAt, ← List.flatMap_append, List.take_append_drop]
      rw [e]; exact List.sublist_append_left ..
    have h1 := h.sublist hsub
    rw [seenAt_succ hi] at h1
    exact (dups_iff _ _ (List.nodup_append.1 h1).1).2 h1
theorem storeOk_iff {s : Store} : storeOk s = true ↔ GoodS s := by
  have hsplit : (∀ i (hi : i < s.boxes.length), badAt s i = false) ↔ (∀ i (hi : i < s.boxes.length), badBox s i = false) ∧ (∀ i (hi : i < s.boxes.length), dups (seenAt s i) (gidsOf s.boxes[i]) = false) := by
    constructor
    · intro h
      exact ⟨fun i hi => by have := h i hi; rw [badAt_at hi, Bool.or_eq_false_iff] at this; exact this.1, fun i hi => by have := h i hi; rw [badAt_at hi, Bool.or_eq_false_iff] at this; exact this.2⟩
    · intro h i hi
      rw [badAt_at hi, Bool.or_eq_false_iff]
      exact ⟨h.1 i hi, h.2 i hi⟩
  have hbox : ∀ i (hi : i < s.boxes.length), badBox s i = false ↔ boxOk s.boxes[i] = true ∧ (0 < i → (s.boxes[i - 1]'(by omega)).gid < s.boxes[i].gid) ∧ (∀ j (hj : j < i), (s.boxes[j]'(by omega)).name ≠ s.boxes[i].name) ∧ ¬ s.boxes[i].gid ∈ s.gone ∧ late s.boxes[i] s.time = false := fun i hi => by
    rw [badBox_at hi, ← named_at i hi]
    simp only [Bool.or_eq_false_iff, Bool.not_eq_eq_eq_not, Bool.not_false, Bool.and_eq_false_imp, decide_eq_true_eq, decide_eq_false_iff_not, Int.not_le]
    constructor
    · rintro ⟨⟨⟨⟨h1, h2⟩, h3⟩, h4⟩, h5⟩; exact ⟨h1, h2, h3, h4, h5⟩
    · rintro ⟨h1, h2, h3, h4, h5⟩; exact ⟨⟨⟨⟨h1, h2⟩, h3⟩, h4⟩, h5⟩
  have hq : storeOk s = true ↔ ((((1 ≤ s.who ∧ s.who ≤ 2) ∧ 0 ≤ s.time ∧ s.time ≤ 100000) ∧ s.boxes.length ≤ 5) ∧ gidsOk s.gone 20 = true) ∧ ∀ i (hi : i < s.boxes.length), badAt s i = false := by
    simp only [storeOk, Bool.and_eq_true, decide_eq_true_eq, Option.isNone_iff_eq_none, firstN_isNone, inR_iff]
  rw [hq, hsplit, seen_iff]
  constructor
  · rintro ⟨⟨⟨⟨h1, h2⟩, h3⟩, h4⟩, h5, h6⟩
    obtain ⟨g1, g2, g3⟩ := gidsOk_iff.1 h4
    have hb := fun i hi => (hbox i hi).1 (h5 i hi)
    refine ⟨h1, h2, h3, g1, g2, by omega, fun b hbm => ?_, ?_, ?_, h6⟩
    · obtain ⟨i, hi, rfl⟩ := List.getElem_of_mem hbm
      exact ⟨boxOk_iff.1 (hb i hi).1, (hb i hi).2.2.2.1, (hb i hi).2.2.2.2⟩
    · have hA : Asc (s.boxes.map (·.gid)) := step_asc fun j hj => by
        simp only [List.length_map] at hj
        have := (hb (j + 1) hj).2.1 (by omega)
        simpa using this
      exact List.pairwise_map.1 hA
    · exact List.pairwise_iff_getElem.2 fun i j hi hj hij => (hb j hj).2.2.1 i hij
  · intro h
    refine ⟨⟨⟨⟨h.who, h.time⟩, h.len⟩, gidsOk_iff.2 ⟨h.gone, h.goneR, by have := h.goneL; omega⟩⟩, fun i hi => (hbox i hi).2 ⟨boxOk_iff.2 (h.box _ (List.getElem_mem hi)).1, fun q => List.pairwise_iff_getElem.1 h.asc (i - 1) i (by omega) hi (by omega), fun j hj => List.pairwise_iff_getElem.1 h.names j i (by omega) hi hj, (h.box _ (List.getElem_mem hi)).2.1, (h.box _ (List.getElem_mem hi)).2.2⟩, h.mails⟩
end Mx

namespace Mx
open Go
theorem flat_sub {l l' : List Box} (h : l.Sublist l') : (l.flatMap gidsOf).Sublist (l'.flatMap gidsOf) := by
  induction h with
  | slnil => exact List.Sublist.refl _
  | cons a _ ih => rw [List.flatMap_cons]; exact ih.trans (List.sublist_append_right _ _)
  | cons_cons a _ ih => rw [List.flatMap_cons, List.flatMap_cons]; exact List.Sublist.append (List.Sublist.refl _) ih
theorem stamped_ok {s : Store} (h : storeOk s = true) (i : Nat) (b : Box) : storeOk (stamped s i b).1 = true := by
  unfold stamped
  split
  · rename_i c; exact c
  · exact h
theorem at_ok {s : Store} (h : storeOk s = true) (g : Int) (f : Nat → Box → Store × Bool) (hf : ∀ i (hi : i < s.boxes.length), storeOk (f i s.boxes[i]).1 = true) : storeOk (at_ s g f).1 = true := by
  cases c : boxO s.boxes g with
  | none => rw [at_none c]; exact h
  | some i =>
    obtain ⟨hi, _⟩ := boxO_some c
    rw [at_some c hi]
    exact hf i hi
theorem putMail_ok {s : Store} (h : storeOk s = true) (g m f : Int) (x : List UInt8) : storeOk (putMail s g m f x).1 = true := by
  unfold putMail
  split
  · refine at_ok h _ _ fun i hi => ?_
    split
    · exact stamped_ok h _ _
    · exact h
  · exact h
theorem markMail_ok {s : Store} (h : storeOk s = true) (g m f : Int) : storeOk (markMail s g m f).1 = true := by
  unfold markMail
  rw [if_pos h]
  refine at_ok h _ _ fun i hi => ?_
  split
  · exact stamped_ok h _ _
  · exact h
theorem renameBox_ok {s : Store} (h : storeOk s = true) (g : Int) (nm : List UInt8) : storeOk (renameBox s g nm).1 = true := by
  unfold renameBox
  split
  · exact at_ok h _ _ fun i hi => stamped_ok h _ _
  · exact h
theorem makeBox_ok {s : Store} (h : storeOk s = true) (g : Int) (nm : List UInt8) : storeOk (makeBox s g nm).1 = true := by
  unfold makeBox
  split
  · split
    · rename_i c; exact c
    · exact h
  · exact h
theorem dropBox_ok {s : Store} (h : storeOk s = true) {g : Int} (hg : 1 ≤ g ∧ g ≤ 9999) : storeOk (dropBox s g).1 = true := by
  unfold dropBox
  split
  · rename_i c
    cases q : boxO s.boxes g with
    | none => rw [at_none q]; exact h
    | some i =>
      obtain ⟨hi, hbi⟩ := boxO_some q
      rw [at_some q hi]
      have G := storeOk_iff.1 h
      have hs := sub_take_drop s.boxes i
      have hgi := (boxIn_some hbi).2
      refine storeOk_iff.2 ⟨G.who, G.time, Nat.le_trans hs.length_le G.len, gput_asc G.gone, fun x hx => ?_, by have := gput_le s.gone g; simp only; omega, fun b hb => ?_, G.asc.sublist hs, G.names.sublist hs, G.mails.sublist (flat_sub hs)⟩
      · rcases gput_mem.1 hx with e | e
        · rw [e]; exact hg
        · exact G.goneR x e
      · obtain ⟨b1, b2, b3⟩ := G.box b (hs.subset hb)
        refine ⟨b1, fun e => ?_, b3⟩
        rcases gput_mem.1 e with e | e
        · rcases List.mem_append.1 hb with z | z
          · obtain ⟨j, hj, rfl⟩ := List.getElem_of_mem z
            simp only [List.length_take] at hj
            rw [List.getElem_take] at e
            have := List.pairwise_iff_getElem.1 G.asc j i (by omega) hi (by omega)
            omega
          · obtain ⟨j, hj, rfl⟩ := List.getElem_of_mem z
            rw [List.getElem_drop] at e
            have := List.pairwise_iff_getElem.1 G.asc i (i + 1 + j) hi (by simp at hj; omega) (by omega)
            omega
        · exact b2 e
  · exact h
theorem takeOut_parts {b : Box} (hb : Good b) {m : Int} (ok : (takeOut b m).2 = true) : Good (takeOut b m).1 ∧ (takeOut b m).1.gid = b.gid ∧ (takeOut b m).1.name = b.name ∧ (takeOut b m).1.time = b.time ∧ (takeOut b m).1.mails.Sublist b.mails := by
  unfold takeOut at ok ⊢
  cases q : mailO b.mails m with
  | none => rw [q] at ok; cases ok
  | some k =>
    rw [q] at ok
    simp only at ok ⊢
    obtain ⟨hlt, he, _⟩ := mailO_some q
    by_cases c : boxOk b = true ∧ b.gone.length < 40
    · rw [if_pos c]
      have := good_take hb hlt c.2
      rw [he] at this
      exact ⟨this, rfl, rfl, rfl, sub_take_drop b.mails k⟩
    · rw [if_neg c] at ok; cases ok
theorem dropMail_ok {s : Store} (h : storeOk s = true) (g m : Int) : storeOk (dropMail s g m).1 = true := by
  unfold dropMail
  rw [if_pos h]
  refine at_ok h _ _ fun i hi => ?_
  split
  · rename_i c
    have G := storeOk_iff.1 h
    obtain ⟨b1, b2, b3⟩ := G.box _ (List.getElem_mem hi)
    obtain ⟨t1, t2, t3, t4, t5⟩ := takeOut_parts b1 c
    generalize (takeOut s.boxes[i] m).1 = b' at *
    have e1 : (s.boxes.set i b').map (·.gid) = s.boxes.map (·.gid) := by
      rw [List.map_set]; apply List.ext_getElem <;> simp [List.getElem_set]; intro j hj h2; subst h2; exact t2
    have e2 : (s.boxes.set i b').map (·.name) = s.boxes.map (·.name) := by
      rw [List.map_set]; apply List.ext_getElem <;> simp [List.getElem_set]; intro j hj h2; subst h2; exact t3
    refine storeOk_iff.2 ⟨G.who, G.time, by simpa using G.len, G.gone, G.goneR, G.goneL, fun b hb => ?_, ?_, ?_, ?_⟩
    · rcases List.mem_or_eq_of_mem_set hb with q | q
      · exact G.box b q
      · subst q
        refine ⟨t1, by rw [t2]; exact b2, ?_⟩
        unfold late at b3 ⊢
        simp only [Bool.or_eq_false_iff, List.any_eq_false] at b3 ⊢
        rw [t4]
        exact ⟨b3.1, fun x hx => b3.2 x (t5.subset hx)⟩
    · have : (s.boxes.map (·.gid)).Pairwise (fun a b : Int => a < b) := List.pairwise_map.2 G.asc
      rw [← e1] at this
      exact List.pairwise_map.1 this
    · have : (s.boxes.map (·.name)).Pairwise (fun a b : List UInt8 => a ≠ b) := List.pairwise_map.2 G.names
      rw [← e2] at this
      exact List.pairwise_map.1 this
    · have e : s.boxes.set i b' = s.boxes.take i ++ b' :: s.boxes.drop (i + 1) := List.set_eq_take_append_cons_drop.trans (by rw [if_pos hi])
      have e' : s.boxes = s.boxes.take i ++ s.boxes[i] :: s.boxes.drop (i + 1) := by rw [← List.drop_eq_getElem_cons hi, List.take_append_drop]
      have hm := G.mails
      rw [e'] at hm
      simp only
      rw [e]
      refine hm.sublist ?_
      simp only [List.flatMap_append, List.flatMap_cons]
      exact List.Sublist.append (List.Sublist.refl _) (List.Sublist.append (t5.map _) (List.Sublist.refl _))
  · exact h
end Mx

namespace Mx
open Go
variable {M : Nat → Option Body}
structure UzS where
  i : Nat
  s : Store
  w : Bool
  v1 : Nat
  v2 : Nat
  ic : Nat
  q : Int
  n : Nat
structure UzC where
  R : List (List T)
  u5 : Nat
  u8 : Nat
  N : Nat
  base : Nat
def uzB (s : UzS) : List T := if s.w = true then [I s.s.who, I s.s.time, .row 15502 s.v1 0 s.s.boxes.length, .row 15503 s.v2 0 s.s.gone.length] else encStore s.s
def uzX (s : UzS) : List (Nat × Ob) := if s.w = true then [(15502, ⟨s.v1, 7, true, false, s.s.boxes.map encBox⟩), (15503, ⟨s.v2, 1, true, false, irow s.s.gone⟩)] else []
def uzO (c : UzC) (s : UzS) : List (Nat × Ob) := curD c.R s.ic s.q :: (5, ⟨c.u5, 4, true, true, [uzB s]⟩) :: (8, ⟨c.u8, 4, true, true, [szero]⟩) :: uzX s
def uzT (c : UzC) (i : Nat) (e : List (Nat × V)) : List (Nat × V) := (0, .c (.ptr 0 0 0 0)) :: (2, .c (I c.N)) :: (3, .c (I c.base)) :: (5, .c (.ptr 5 c.u5 0 0)) :: (8, .c (.ptr 8 c.u8 0 0)) :: (9, .c (I i)) :: e
def uzS (c : UzC) (s : UzS) (e : List (Nat × V)) : St := { t := uzT c s.i e, o := uzO c s, n := s.n }
def uzR (c : UzC) (i : Nat) (s : Store) (w : Bool) (ic : Nat) (q : Int) (e : List (Nat × V)) (y : Nat × Nat × Nat) : St := uzS c ⟨i, s, w, y.1, y.2.1, ic, q, y.2.2⟩ e
/-- ahead of what is done: the box, the mail, the number -/
abbrev uyE (box gid x : Int) : List (Nat × V) := [(10, .c (I box)), (11, .c (I gid)), (13, .c (I x))]
def UzD (M : Nat → Option Body) (c : UzC) (k : Nat) (s : UzS) (box gid x : Int) (s' : Store) (ic' : Nat) (q' : Int) : Prop :=
  ∃ v1' v2' n', exC (run M) k spec_l07Use.br (uzS c s (uyE box gid x)) = some (.normal, uzS c ⟨s.i, s', true, v1', v2', ic', q', n'⟩ [])
structure UzF (s : UzS) : Prop where
  e7 : (s.s.boxes.map encBox).length = s.s.boxes.length
  e8 : (irow s.s.gone).length = s.s.gone.length
theorem uzF (s : UzS) : UzF s := ⟨by simp, irow_length _⟩
set_option maxHeartbeats 4000000 in
theorem uz_put (c : UzC) (k : Nat) (s : UzS) (box gid x : Int) (f ic1 ic2 : Nat) (tx : ByteArray) (q1 q2 : Int) (s' : Store) (ok : Bool) (hb : ¬ box = 0) (hx : ¬ x = 0) (hx6 : x < 6) (hbase : c.base ≤ 1000) (hi : s.i ≤ 1000)
    (h1 : run M 125 [.c (.ptr 0 0 0 0), .c (I 8)] [curD c.R s.ic s.q] = some (.c (I f), [curD c.R ic1 q1]))
    (h2 : run M 174 [.c (.ptr 0 0 0 0)] [curD c.R ic1 q1] = some (.c (.str tx), [curD c.R ic2 q2]))
    (h3 : run M 279 [.a (encStore s.s), .c (I box), .c (I ((c.base : Int) + (s.i : Int))), .c (I f), .c (.str tx)] [] = some (.tup [.a (encStoreO s'), .c (.bool ok)], [])) :
    UzD M c k s box gid x s' ic2 q2 := by
  have e4 : IntKind.i64.wrap ((c.base : Int) + (s.i : Int)) = (c.base : Int) + (s.i : Int) := wrap_i64 (by omega) (by omega)
  obtain ⟨e7, e8⟩ := uzF s
  have e9 : (s'.boxes.map encBox).length = s'.boxes.length := by simp
  have e10 := irow_length s'.gone
  obtain ⟨R, u5, u8, N, base⟩ := c
  obtain ⟨i, st, w, v1, v2, ic, q, n⟩ := s
  simp only at *
  simp only [UzD, uzS, uzT, uzO, uzB, uzX, uyE]
  simp only [encStore, encStoreO, boxes, ints] at h3 ⊢
  have m1 : (st.boxes.map encBox).take st.boxes.length = st.boxes.map encBox := List.take_of_length_le (by omega)
  have m2 : (irow st.gone).take st.gone.length = irow st.gone := List.take_of_length_le (by omega)
  generalize s'.boxes.map encBox = rb' at *
  generalize irow s'.gone = rg' at *
  generalize st.boxes.map encBox = rb at *
  generalize irow st.gone = rg at *
  cases w
  · simp only [Bool.false_eq_true, if_false]
    simp (maxSteps := 1000000) [spec_l07Use.br, List.range_succ, bs_get, setAt, h1, h2, h3, hb, hx, hx6, e4, e7, e8, e9, e10, m1, m2]
  · simp only [if_true]
    simp (maxSteps := 1000000) [spec_l07Use.br, List.range_succ, bs_get, setAt, h1, h2, h3, hb, hx, hx6, e4, e7, e8, e9, e10, m1, m2]
set_option maxHeartbeats 4000000 in
theorem uz_mark (c : UzC) (k : Nat) (s : UzS) (box gid x : Int) (f ic1 : Nat) (q1 : Int) (s' : Store) (ok : Bool) (hb : ¬ box = 0) (hx : ¬ x = 0) (hx6 : ¬ x < 6) (hx9 : x < 9)
    (h1 : run M 125 [.c (.ptr 0 0 0 0), .c (I 8)] [curD c.R s.ic s.q] = some (.c (I f), [curD c.R ic1 q1]))
    (h3 : run M 280 [.a (encStore s.s), .c (I box), .c (I gid), .c (I f)] [] = some (.tup [.a (encStoreO s'), .c (.bool ok)], [])) :
    UzD M c k s box gid x s' ic1 q1 := by
  obtain ⟨e7, e8⟩ := uzF s
  have e9 : (s'.boxes.map encBox).length = s'.boxes.length := by simp
  have e10 := irow_length s'.gone
  obtain ⟨R, u5, u8, N, base⟩ := c
  obtain ⟨i, st, w, v1, v2, ic, q, n⟩ := s
  simp only at *
  simp only [UzD, uzS, uzT, uzO, uzB, uzX, uyE]
  simp only [encStore, encStoreO, boxes, ints] at h3 ⊢
  have m1 : (st.boxes.map encBox).take st.boxes.length = st.boxes.map encBox := List.take_of_length_le (by omega)
  have m2 : (irow st.gone).take st.gone.length = irow st.gone := List.take_of_length_le (by omega)
  generalize s'.boxes.map encBox = rb' at *
  generalize irow s'.gone = rg' at *
  generalize st.boxes.map encBox = rb at *
  generalize irow st.gone = rg at *
  cases w
  · simp only [Bool.false_eq_true, if_false]
    simp (maxSteps := 1000000) [spec_l07Use.br, List.range_succ, bs_get, setAt, h1, h3, hb, hx, hx6, hx9, e7, e8, e9, e10, m1, m2]
  · simp only [if_true]
    simp (maxSteps := 1000000) [spec_l07Use.br, List.range_succ, bs_get, setAt, h1, h3, hb, hx, hx6, hx9, e7, e8, e9, e10, m1, m2]
set_option maxHeartbeats 4000000 in
theorem uz_drop (c : UzC) (k : Nat) (s : UzS) (box gid x : Int) (s' : Store) (ok : Bool) (hb : ¬ box = 0) (hx : x = 9)
    (h3 : run M 281 [.a (encStore s.s), .c (I box), .c (I gid)] [] = some (.tup [.a (encStoreO s'), .c (.bool ok)], [])) :
    UzD M c k s box gid x s' s.ic s.q := by
  subst hx
  obtain ⟨e7, e8⟩ := uzF s
  have e9 : (s'.boxes.map encBox).length = s'.boxes.length := by simp
  have e10 := irow_length s'.gone
  obtain ⟨R, u5, u8, N, base⟩ := c
  obtain ⟨i, st, w, v1, v2, ic, q, n⟩ := s
  simp only at *
  simp only [UzD, uzS, uzT, uzO, uzB, uzX, uyE]
  simp only [encStore, encStoreO, boxes, ints] at h3 ⊢
  have m1 : (st.boxes.map encBox).take st.boxes.length = st.boxes.map encBox := List.take_of_length_le (by omega)
  have m2 : (irow st.gone).take st.gone.length = irow st.gone := List.take_of_length_le (by omega)
  generalize s'.boxes.map encBox = rb' at *
  generalize irow s'.gone = rg' at *
  generalize st.boxes.map encBox = rb at *
  generalize irow st.gone = rg at *
  cases w
  · simp only [Bool.false_eq_true, if_false]
    simp (maxSteps := 1000000) [spec_l07Use.br, List.range_succ, bs_get, setAt, h3, hb, e7, e8, e9, e10, m1, m2]
  · simp only [if_true]
    simp (maxSteps := 1000000) [spec_l07Use.br, List.range_succ, bs_get, setAt, h3, hb, e7, e8, e9, e10, m1, m2]
def nm4 : List (List UInt8) := [[105, 110, 98, 111, 120], [119, 111, 114, 107], [110, 101, 119], [111, 116, 104, 101, 114]]
def nm3 : List (List UInt8) := [[105, 110, 98, 111, 120], [119, 111, 114, 107], [111, 108, 100]]
set_option maxHeartbeats 4000000 in
theorem uz_name (c : UzC) (k : Nat) (s : UzS) (box gid x : Int) (ic1 : Nat) (tx : ByteArray) (q1 : Int) (s' : Store) (ok : Bool) (hb : ¬ box = 0) (hx : x = 10)
    (h1 : run M 185 [.c (.ptr 0 0 0 0), .c (.sl false 1 (nm4.map fun s => [S s]))] [curD c.R s.ic s.q] = some (.c (.str tx), [curD c.R ic1 q1]))
    (h3 : run M 282 [.a (encStore s.s), .c (I box), .c (.str tx)] [] = some (.tup [.a (encStoreO s'), .c (.bool ok)], [])) :
    UzD M c k s box gid x s' ic1 q1 := by
  subst hx
  obtain ⟨e7, e8⟩ := uzF s
  have e9 : (s'.boxes.map encBox).length = s'.boxes.length := by simp
  have e10 := irow_length s'.gone
  simp only [nm4, List.map_cons, List.map_nil, bs] at h1
  obtain ⟨R, u5, u8, N, base⟩ := c
  obtain ⟨i, st, w, v1, v2, ic, q, n⟩ := s
  simp only at *
  simp only [UzD, uzS, uzT, uzO, uzB, uzX, uyE]
  simp only [encStore, encStoreO, boxes, ints] at h3 ⊢
  have m1 : (st.boxes.map encBox).take st.boxes.length = st.boxes.map encBox := List.take_of_length_le (by omega)
  have m2 : (irow st.gone).take st.gone.length = irow st.gone := List.take_of_length_le (by omega)
  generalize s'.boxes.map encBox = rb' at *
  generalize irow s'.gone = rg' at *
  generalize st.boxes.map encBox = rb at *
  generalize irow st.gone = rg at *
  cases w
  · simp only [Bool.false_eq_true, if_false]
    simp (maxSteps := 1000000) [spec_l07Use.br, List.range_succ, bs_get, setAt, h1, h3, hb, e7, e8, e9, e10, m1, m2]
  · simp only [if_true]
    simp (maxSteps := 1000000) [spec_l07Use.br, List.range_succ, bs_get, setAt, h1, h3, hb, e7, e8, e9, e10, m1, m2]
set_option maxHeartbeats 4000000 in
theorem uz_make (c : UzC) (k : Nat) (s : UzS) (box gid x : Int) (ic1 : Nat) (tx : ByteArray) (q1 : Int) (s' : Store) (ok : Bool) (hb : box = 0 ∨ x = 0) (hbase : c.base ≤ 1000) (hi : s.i ≤ 1000)
    (h1 : run M 185 [.c (.ptr 0 0 0 0), .c (.sl false 1 (nm3.map fun s => [S s]))] [curD c.R s.ic s.q] = some (.c (.str tx), [curD c.R ic1 q1]))
    (h3 : run M 278 [.a (encStore s.s), .c (I ((c.base : Int) + (s.i : Int))), .c (.str tx)] [] = some (.tup [.a (encStoreO s'), .c (.bool ok)], [])) :
    UzD M c k s box gid x s' ic1 q1 := by
  have e4 : IntKind.i64.wrap ((c.base : Int) + (s.i : Int)) = (c.base : Int) + (s.i : Int) := wrap_i64 (by omega) (by omega)
  obtain ⟨e7, e8⟩ := uzF s
  have e9 : (s'.boxes.map encBox).length = s'.boxes.length := by simp
  have e10 := irow_length s'.gone
  simp only [nm3, List.map_cons, List.map_nil, bs] at h1
  obtain ⟨R, u5, u8, N, base⟩ := c
  obtain ⟨i, st, w, v1, v2, ic, q, n⟩ := s
  simp only at *
  simp only [UzD, uzS, uzT, uzO, uzB, uzX, uyE]
  simp only [encStore, encStoreO, boxes, ints] at h3 ⊢
  have m1 : (st.boxes.map encBox).take st.boxes.length = st.boxes.map encBox := List.take_of_length_le (by omega)
  have m2 : (irow st.gone).take st.gone.length = irow st.gone := List.take_of_length_le (by omega)
  generalize s'.boxes.map encBox = rb' at *
  generalize irow s'.gone = rg' at *
  generalize st.boxes.map encBox = rb at *
  generalize irow st.gone = rg at *
  by_cases hb0 : box = 0
  · subst hb0
    cases w
    · simp only [Bool.false_eq_true, if_false]
      simp (maxSteps := 1000000) [spec_l07Use.br, List.range_succ, bs_get, setAt, h1, h3, e4, e7, e8, e9, e10, m1, m2]
    · simp only [if_true]
      simp (maxSteps := 1000000) [spec_l07Use.br, List.range_succ, bs_get, setAt, h1, h3, e4, e7, e8, e9, e10, m1, m2]
  · have hx : x = 0 := by omega
    subst hx
    cases w
    · simp only [Bool.false_eq_true, if_false]
      simp (maxSteps := 1000000) [spec_l07Use.br, List.range_succ, bs_get, setAt, h1, h3, hb0, e4, e7, e8, e9, e10, m1, m2]
    · simp only [if_true]
      simp (maxSteps := 1000000) [spec_l07Use.br, List.range_succ, bs_get, setAt, h1, h3, hb0, e4, e7, e8, e9, e10, m1, m2]
set_option maxHeartbeats 4000000 in
theorem uz_lose (c : UzC) (k : Nat) (s : UzS) (box gid x : Int) (ic1 : Nat) (q1 : Int) (s' : Store) (ok : Bool) (hb : ¬ box = 0) (hx : 11 ≤ x)
    (h1 : run M 175 [.c (.ptr 0 0 0 0), .c (I 3)] [curD c.R s.ic s.q] = some (.c (.bool true), [curD c.R ic1 q1]))
    (h3 : run M 283 [.a (encStore s.s), .c (I box)] [] = some (.tup [.a (encStoreO s'), .c (.bool ok)], [])) :
    UzD M c k s box gid x s' ic1 q1 := by
  have x0 : ¬ x = 0 := by omega
  have x6 : ¬ x < 6 := by omega
  have x9 : ¬ x < 9 := by omega
  have y9 : ¬ x = 9 := by omega
  have y10 : ¬ x = 10 := by omega
  obtain ⟨e7, e8⟩ := uzF s
  have e9 : (s'.boxes.map encBox).length = s'.boxes.length := by simp
  have e10 := irow_length s'.gone
  obtain ⟨R, u5, u8, N, base⟩ := c
  obtain ⟨i, st, w, v1, v2, ic, q, n⟩ := s
  simp only at *
  simp only [UzD, uzS, uzT, uzO, uzB, uzX, uyE]
  simp only [encStore, encStoreO, boxes, ints] at h3 ⊢
  have m1 : (st.boxes.map encBox).take st.boxes.length = st.boxes.map encBox := List.take_of_length_le (by omega)
  have m2 : (irow st.gone).take st.gone.length = irow st.gone := List.take_of_length_le (by omega)
  generalize s'.boxes.map encBox = rb' at *
  generalize irow s'.gone = rg' at *
  generalize st.boxes.map encBox = rb at *
  generalize irow st.gone = rg at *
  cases w
  · simp only [Bool.false_eq_true, if_false]
    simp (maxSteps := 1000000) [spec_l07Use.br, List.range_succ, bs_get, setAt, h1, h3, hb, x0, x6, x9, y9, y10, e7, e8, e9, e10, m1, m2]
  · simp only [if_true]
    simp (maxSteps := 1000000) [spec_l07Use.br, List.range_succ, bs_get, setAt, h1, h3, hb, x0, x6, x9, y9, y10, e7, e8, e9, e10, m1, m2]
set_option maxHeartbeats 4000000 in
theorem uz_stay (c : UzC) (k : Nat) (s : UzS) (box gid x : Int) (ic1 : Nat) (q1 : Int) (hb : ¬ box = 0) (hx : 11 ≤ x)
    (h1 : run M 175 [.c (.ptr 0 0 0 0), .c (I 3)] [curD c.R s.ic s.q] = some (.c (.bool false), [curD c.R ic1 q1])) :
    ∃ n', exC (run M) k spec_l07Use.br (uzS c s (uyE box gid x)) = some (.normal, uzS c ⟨s.i, s.s, s.w, s.v1, s.v2, ic1, q1, n'⟩ [(10, .c (I box)), (51, .c (.bool false))]) := by
  have x0 : ¬ x = 0 := by omega
  have x6 : ¬ x < 6 := by omega
  have x9 : ¬ x < 9 := by omega
  have y9 : ¬ x = 9 := by omega
  have y10 : ¬ x = 10 := by omega
  obtain ⟨R, u5, u8, N, base⟩ := c
  obtain ⟨i, st, w, v1, v2, ic, q, n⟩ := s
  simp only at *
  simp only [uzS, uzT, uzO, uzB, uzX, uyE]
  simp only [encStore, boxes, ints]
  generalize st.boxes.map encBox = rb at *
  generalize irow st.gone = rg at *
  cases w
  · simp only [Bool.false_eq_true, if_false]
    simp (maxSteps := 1000000) [spec_l07Use.br, List.range_succ, bs_get, setAt, h1, hb, x0, x6, x9, y9, y10]
  · simp only [if_true]
    simp (maxSteps := 1000000) [spec_l07Use.br, List.range_succ, bs_get, setAt, h1, hb, x0, x6, x9, y9, y10]
end Mx

namespace Mx
open Go
variable {M : Nat → Option Body}
/-- what stands ahead: no box, no mail -/
abbrev uxE : List (Nat × V) := [(10, .c (I 0)), (11, .c (I 0))]
set_option maxHeartbeats 4000000 in
theorem uz_hd0 (c : UzC) (k : Nat) (s : UzS) (x : Int) (ic1 : Nat) (q1 : Int) (hbx : s.s.boxes = [])
    (h1 : run M 125 [.c (.ptr 0 0 0 0), .c (I 12)] [curD c.R s.ic s.q] = some (.c (I x), [curD c.R ic1 q1]))
    (X : Nat → St) (hX : ∀ n, exC (run M) k spec_l07Use.br (uzS c ⟨s.i, s.s, s.w, s.v1, s.v2, ic1, q1, n⟩ (uyE 0 0 x)) = some (.normal, X n)) :
    ∃ n, exC (run M) k spec_l07Use.hd (uzS c s uxE) = some (.normal, X n) := by
  obtain ⟨R, u5, u8, N, base⟩ := c
  obtain ⟨i, st, w, v1, v2, ic, q, n⟩ := s
  simp only at *
  simp only [uzS, uzT, uzO, uzB, uzX, uyE, uxE] at hX ⊢
  simp only [encStore, boxes, ints, hbx, List.map_nil, List.length_nil] at hX ⊢
  generalize irow st.gone = rg at *
  cases w
  · simp only [Bool.false_eq_true, if_false] at hX ⊢
    simp (maxSteps := 1000000) [spec_l07Use.hd, List.range_succ, bs_get, setAt, h1, hX]
    exact ⟨_, rfl⟩
  · simp only [if_true] at hX ⊢
    simp (maxSteps := 1000000) [spec_l07Use.hd, List.range_succ, bs_get, setAt, h1, hX]
    exact ⟨_, rfl⟩
set_option maxHeartbeats 4000000 in
theorem uz_hd1 (c : UzC) (k : Nat) (s : UzS) (x : Int) (j ic0 ic1 : Nat) (q0 q1 : Int) (hj : j < s.s.boxes.length) (hm : s.s.boxes[j].mails = [])
    (h0 : run M 125 [.c (.ptr 0 0 0 0), .c (I s.s.boxes.length)] [curD c.R s.ic s.q] = some (.c (I j), [curD c.R ic0 q0]))
    (h1 : run M 125 [.c (.ptr 0 0 0 0), .c (I 12)] [curD c.R ic0 q0] = some (.c (I x), [curD c.R ic1 q1]))
    (X : Nat → St) (hX : ∀ n, exC (run M) k spec_l07Use.br (uzS c ⟨s.i, s.s, s.w, s.v1, s.v2, ic1, q1, n⟩ (uyE s.s.boxes[j].gid 0 x)) = some (.normal, X n)) :
    ∃ n, exC (run M) k spec_l07Use.hd (uzS c s uxE) = some (.normal, X n) := by
  obtain ⟨e7, e8⟩ := uzF s
  obtain ⟨R, u5, u8, N, base⟩ := c
  obtain ⟨i, st, w, v1, v2, ic, q, n⟩ := s
  simp only at *
  have hj' : j < st.boxes.length := hj
  have a1 : ∀ hh, (st.boxes.map encBox)[j]'hh = encBox st.boxes[j] := by intro hh; simp
  have m1 : (st.boxes.map encBox).take st.boxes.length = st.boxes.map encBox := List.take_of_length_le (by omega)
  have hl : 0 < st.boxes.length := by omega
  simp only [uzS, uzT, uzO, uzB, uzX, uyE, uxE] at hX ⊢
  simp only [encBox, mails, ints, hm, List.map_nil] at a1
  simp only [encStore, boxes, ints] at hX ⊢
  generalize st.boxes[j] = b at *
  generalize st.boxes.map encBox = rb at *
  generalize irow st.gone = rg at *
  generalize irow b.gone = rbg at *
  generalize st.boxes.length = nb at *
  cases w
  · simp only [Bool.false_eq_true, if_false] at hX ⊢
    simp (maxSteps := 1000000) [spec_l07Use.hd, List.range_succ, bs_get, setAt, h0, h1, hX, hl, hj, e7, a1, m1]
    exact ⟨_, rfl⟩
  · simp only [if_true] at hX ⊢
    simp (maxSteps := 1000000) [spec_l07Use.hd, List.range_succ, bs_get, setAt, h0, h1, hX, hl, hj, e7, a1, m1]
    exact ⟨_, rfl⟩
set_option maxHeartbeats 4000000 in
theorem uz_hd2 (c : UzC) (k : Nat) (s : UzS) (x : Int) (j l ic0 ic1 ic2 : Nat) (q0 q1 q2 : Int) (hj : j < s.s.boxes.length) (hl : l < s.s.boxes[j].mails.length)
    (h0 : run M 125 [.c (.ptr 0 0 0 0), .c (I s.s.boxes.length)] [curD c.R s.ic s.q] = some (.c (I j), [curD c.R ic0 q0]))
    (h2 : run M 125 [.c (.ptr 0 0 0 0), .c (I s.s.boxes[j].mails.length)] [curD c.R ic0 q0] = some (.c (I l), [curD c.R ic2 q2]))
    (h1 : run M 125 [.c (.ptr 0 0 0 0), .c (I 12)] [curD c.R ic2 q2] = some (.c (I x), [curD c.R ic1 q1]))
    (X : Nat → St) (hX : ∀ n, exC (run M) k spec_l07Use.br (uzS c ⟨s.i, s.s, s.w, s.v1, s.v2, ic1, q1, n⟩ (uyE s.s.boxes[j].gid (s.s.boxes[j].mails[l]).gid x)) = some (.normal, X n)) :
    ∃ n, exC (run M) k spec_l07Use.hd (uzS c s uxE) = some (.normal, X n) := by
  obtain ⟨e7, e8⟩ := uzF s
  obtain ⟨R, u5, u8, N, base⟩ := c
  obtain ⟨i, st, w, v1, v2, ic, q, n⟩ := s
  simp only at *
  have hj' : j < st.boxes.length := hj
  have hl' : l < st.boxes[j].mails.length := hl
  have a1 : ∀ hh, (st.boxes.map encBox)[j]'hh = encBox st.boxes[j] := by intro hh; simp
  have a2 : ∀ hh : l < (st.boxes[j].mails.map encMail).length, (st.boxes[j].mails.map encMail)[l]'hh = encMail (st.boxes[j].mails[l]'hl') := by intro hh; simp
  have e9 : (st.boxes[j].mails.map encMail).length = st.boxes[j].mails.length := by simp
  have m1 : (st.boxes.map encBox).take st.boxes.length = st.boxes.map encBox := List.take_of_length_le (by omega)
  have m2 : (st.boxes[j].mails.map encMail).take st.boxes[j].mails.length = st.boxes[j].mails.map encMail := List.take_of_length_le (by omega)
  have hl0 : 0 < st.boxes.length := by omega
  have hl1 : 0 < st.boxes[j].mails.length := by omega
  simp only [uzS, uzT, uzO, uzB, uzX, uyE, uxE] at hX ⊢
  simp only [encBox, mails, ints] at a1
  simp only [encMail] at a2
  simp only [encStore, boxes, ints] at hX ⊢
  generalize st.boxes[j].mails[l] = m at *
  generalize st.boxes[j].mails.map encMail = rm at *
  generalize st.boxes[j].mails.length = nm at *
  generalize st.boxes[j] = b at *
  generalize st.boxes.map encBox = rb at *
  generalize irow st.gone = rg at *
  generalize irow b.gone = rbg at *
  generalize st.boxes.length = nb at *
  cases w
  · simp only [Bool.false_eq_true, if_false] at hX ⊢
    simp (maxSteps := 1000000) [spec_l07Use.hd, List.range_succ, bs_get, setAt, h0, h1, h2, hX, hl, hl0, hl1, hj, e7, e9, a1, a2, m1, m2]
    exact ⟨_, rfl⟩
  · simp only [if_true] at hX ⊢
    simp (maxSteps := 1000000) [spec_l07Use.hd, List.range_succ, bs_get, setAt, h0, h1, h2, hX, hl, hl0, hl1, hj, e7, e9, a1, a2, m1, m2]
    exact ⟨_, rfl⟩
/-- behind what is done, where nothing was -/
abbrev uwE (e : Bool) (g : Int) : List (Nat × V) := if e = true then [(10, .c (I g)), (51, .c (.bool false))] else []
set_option maxHeartbeats 4000000 in
theorem uz_l0 (c : UzC) (k : Nat) (s : UzS) (st' : Store) (w' : Bool) (ic' : Nat) (q' : Int) (e : Bool) (g : Int) (hi : s.i < c.N) (hN : c.N ≤ 1000)
    (hX : ∀ n, ∃ y, exC (run M) k spec_l07Use.hd (uzS c { s with n := n } uxE) = some (.normal, uzR c s.i st' w' ic' q' (uwE e g) y)) :
    ∃ y, exC (run M) k spec_l07Use.l0 (uzS c s []) = some (.normal, uzR c (s.i + 1) st' w' ic' q' [] y) := by
  obtain ⟨X, hX⟩ := Classical.skolem.1 hX
  obtain ⟨R, u5, u8, N, base⟩ := c
  obtain ⟨i, st, w, v1, v2, ic, q, n⟩ := s
  simp only at *
  have e5 := wrap1 (i := i) (by omega)
  simp only [uzR, uzS, uzT, uzO, uzB, uzX, uxE, uwE] at hX ⊢
  simp only [encStore, boxes, ints] at hX ⊢
  generalize st.boxes.map encBox = rb at *
  generalize irow st.gone = rg at *
  generalize st'.boxes.map encBox = rb' at *
  generalize irow st'.gone = rg' at *
  cases w <;> cases w' <;> cases e <;> simp only [Bool.false_eq_true, if_false, if_true] at hX ⊢ <;> simp (maxSteps := 1000000) [spec_l07Use.l0, List.range_succ, bs_get, setAt, hX, hi, e5] <;> exact ⟨_, _, _, ⟨⟨rfl, rfl⟩, rfl, rfl⟩, rfl⟩
theorem uz_end (c : UzC) (k : Nat) (s : UzS) (hi : ¬ s.i < c.N) :
    ∃ n', exC (run M) k spec_l07Use.l0 (uzS c s []) = some (.exit 0, uzS c { s with n := n' } [(16, .c (.bool false))]) := by
  obtain ⟨R, u5, u8, N, base⟩ := c
  obtain ⟨i, st, w, v1, v2, ic, q, n⟩ := s
  simp only at *
  simp only [uzS, uzT, uzO, uzB, uzX]
  simp only [encStore, boxes, ints]
  generalize st.boxes.map encBox = rb at *
  generalize irow st.gone = rg at *
  cases w <;> simp only [Bool.false_eq_true, if_false, if_true] <;> simp (maxSteps := 1000000) [spec_l07Use.l0, List.range_succ, bs_get, setAt, hi]
end Mx

namespace Mx
open Go
/-- the numbers that a box knows -/
def KnB (b : Box) (g : Int) : Prop := b.gid = g ∨ g ∈ b.gone ∨ ∃ m ∈ b.mails, m.gid = g
/-- the numbers that a store knows -/
def Kn (s : Store) (g : Int) : Prop := (∃ b ∈ s.boxes, KnB b g) ∨ g ∈ s.gone
theorem boxO_isSome {l : List Box} {g : Int} : (boxO l g).isSome = true ↔ ∃ b ∈ l, b.gid = g := by
  unfold boxO
  rw [← any_first2, List.any_eq_true]
  simp
theorem mailO_isSome {l : List Mail} {g : Int} : (mailO l g).isSome = true ↔ ∃ m ∈ l, m.gid = g := by
  cases q : mailO l g with
  | none => simpa using mailO_none.1 q
  | some k => obtain ⟨h1, h2, _⟩ := mailO_some q; simpa using ⟨_, List.getElem_mem h1, h2⟩
theorem knows_iff {s : Store} {g : Int} : knows s g = true ↔ Kn s g := by
  unfold knows Kn
  simp only [Bool.or_eq_true, boxO_isSome, decide_eq_true_eq, List.any_eq_true, knowsB, mailO_isSome, KnB]
  constructor
  · rintro ((⟨b, h1, h2⟩ | h) | ⟨b, h1, h2 | h2⟩)
    · exact .inl ⟨b, h1, .inl h2⟩
    · exact .inr h
    · exact .inl ⟨b, h1, .inr (.inr h2)⟩
    · exact .inl ⟨b, h1, .inr (.inl h2)⟩
  · rintro (⟨b, h1, h2 | h2 | h2⟩ | h)
    · exact .inl (.inl ⟨b, h1, h2⟩)
    · exact .inr ⟨b, h1, .inr h2⟩
    · exact .inr ⟨b, h1, .inl h2⟩
    · exact .inl (.inr h)
def names5 : List (List UInt8) := [[105, 110, 98, 111, 120], [119, 111, 114, 107], [110, 101, 119], [111, 116, 104, 101, 114], [111, 108, 100]]
/-- a box as it comes to lie in a used store -/
structure UsedB (b : Box) : Prop where
  name : b.name ∈ names5
  kn : ∀ g, KnB b g → 100 ≤ g ∧ g ≤ 999
structure Used (n : Nat) (s : Store) : Prop where
  ok : storeOk s = true
  time : s.time ≤ n
  gone : s.gone.length ≤ n
  box : ∀ b ∈ s.boxes, UsedB b
  kn : ∀ g ∈ s.gone, 100 ≤ g ∧ g ≤ 999
theorem Used.all {n : Nat} {s : Store} (h : Used n s) {g : Int} (k : Kn s g) : 100 ≤ g ∧ g ≤ 999 := by
  rcases k with ⟨b, h1, h2⟩ | k
  · exact (h.box b h1).kn g h2
  · exact h.kn g k
theorem Used.mono {n m : Nat} {s : Store} (h : Used n s) (hm : n ≤ m) : Used m s := ⟨h.ok, by have := h.time; omega, by have := h.gone; omega, h.box, h.kn⟩
theorem used_new {w : Int} (h1 : 1 ≤ w) (h2 : w ≤ 2) : Used 0 ⟨w, 0, [], []⟩ :=
  ⟨storeOk_iff.2 ⟨⟨h1, h2⟩, by simp, by simp, List.Pairwise.nil, by simp, by simp, by simp, List.Pairwise.nil, List.Pairwise.nil, List.nodup_nil⟩, by simp, by simp, by simp, by simp⟩
theorem used_stamped {n : Nat} {s : Store} (h : Used n s) (i : Nat) {b : Box} (hb : UsedB b) : Used (n + 1) (stamped s i b).1 := by
  have hok := stamped_ok h.ok i b
  unfold stamped at hok ⊢
  split
  · rename_i c
    rw [if_pos c] at hok
    refine ⟨hok, by have := h.time; simp only [stampedTo]; omega, by have := h.gone; simp only [stampedTo]; omega, fun x hx => ?_, h.kn⟩
    rcases List.mem_or_eq_of_mem_set hx with q | q
    · exact h.box x q
    · rw [q]; exact hb
  · exact h.mono (by omega)
theorem used_at {n : Nat} {s : Store} (h : Used n s) (g : Int) (f : Nat → Box → Store × Bool) (hf : ∀ i (hi : i < s.boxes.length), s.boxes[i].gid = g → Used (n + 1) (f i s.boxes[i]).1) : Used (n + 1) (at_ s g f).1 := by
  cases c : boxO s.boxes g with
  | none => rw [at_none c]; exact h.mono (by omega)
  | some i =>
    obtain ⟨hi, hb⟩ := boxO_some c
    rw [at_some c hi]
    exact hf i hi (boxIn_some hb).2
theorem usedB_add {b : Box} (h : UsedB b) {m : Int} (hm : 100 ≤ m ∧ m ≤ 999) (f : Int) (x : List UInt8) (t w : Int) : UsedB (addMail b m f x t w).1 := by
  unfold addMail
  split
  · refine ⟨h.name, fun g k => ?_⟩
    rcases k with k | k | ⟨y, hy, k⟩
    · exact h.kn g (.inl k)
    · exact h.kn g (.inr (.inl k))
    · rcases List.mem_append.1 hy with q | q
      · exact h.kn g (.inr (.inr ⟨y, q, k⟩))
      · simp only [List.mem_singleton] at q
        subst q; rw [← k]; exact hm
  · exact h
theorem usedB_flag {b : Box} (h : UsedB b) (m n t w : Int) : UsedB (flagMail b m n t w).1 := by
  unfold flagMail
  split
  · exact h
  · rename_i k hk
    split
    · exact h
    · rename_i y hy
      split
      · refine ⟨h.name, fun g k => ?_⟩
        rcases k with k | k | ⟨z, hz, k⟩
        · exact h.kn g (.inl k)
        · exact h.kn g (.inr (.inl k))
        · rcases List.mem_or_eq_of_mem_set hz with q | q
          · exact h.kn g (.inr (.inr ⟨z, q, k⟩))
          · subst q; exact h.kn g (.inr (.inr ⟨y, List.mem_of_getElem? hy, k⟩))
      · exact h
theorem usedB_take {b : Box} (h : UsedB b) (m : Int) : UsedB (takeOut b m).1 := by
  unfold takeOut
  cases q : mailO b.mails m with
  | none => exact h
  | some k =>
    obtain ⟨h1, h2, _⟩ := mailO_some q
    simp only
    split
    · refine ⟨h.name, fun g z => ?_⟩
      rcases z with z | z | ⟨y, hy, z⟩
      · exact h.kn g (.inl z)
      · rcases gput_mem.1 z with e | e
        · exact h.kn g (.inr (.inr ⟨_, List.getElem_mem h1, by rw [e]; exact h2⟩))
        · exact h.kn g (.inr (.inl e))
      · exact h.kn g (.inr (.inr ⟨y, (sub_take_drop b.mails k).subset hy, z⟩))
    · exact h
theorem used_put {n : Nat} {s : Store} (h : Used n s) (g : Int) {m : Int} (hm : 100 ≤ m ∧ m ≤ 999) (f : Int) (x : List UInt8) : Used (n + 1) (putMail s g m f x).1 := by
  unfold putMail
  split
  · refine used_at h _ _ fun i hi _ => ?_
    split
    · exact used_stamped h _ (usedB_add (h.box _ (List.getElem_mem hi)) hm _ _ _ _)
    · exact h.mono (by omega)
  · exact h.mono (by omega)
theorem used_mark {n : Nat} {s : Store} (h : Used n s) (g m f : Int) : Used (n + 1) (markMail s g m f).1 := by
  unfold markMail
  rw [if_pos h.ok]
  refine used_at h _ _ fun i hi _ => ?_
  split
  · exact used_stamped h _ (usedB_flag (h.box _ (List.getElem_mem hi)) _ _ _ _)
  · exact h.mono (by omega)
theorem used_drop {n : Nat} {s : Store} (h : Used n s) (g m : Int) : Used (n + 1) (dropMail s g m).1 := by
  have hok := dropMail_ok h.ok g m
  unfold dropMail at hok ⊢
  rw [if_pos h.ok] at hok ⊢
  cases c : boxO s.boxes g with
  | none => rw [at_none c]; exact h.mono (by omega)
  | some i =>
    obtain ⟨hi, hb⟩ := boxO_some c
    rw [at_some c hi] at hok ⊢
    split
    · rename_i z
      rw [if_pos z] at hok
      refine ⟨hok, by have := h.time; simp only; omega, by have := h.gone; simp only; omega, fun x hx => ?_, h.kn⟩
      rcases List.mem_or_eq_of_mem_set hx with q | q
      · exact h.box x q
      · rw [q]; exact usedB_take (h.box _ (List.getElem_mem hi)) m
    · exact h.mono (by omega)
theorem used_name {n : Nat} {s : Store} (h : Used n s) (g : Int) {nm : List UInt8} (hn : nm ∈ names5) : Used (n + 1) (renameBox s g nm).1 := by
  unfold renameBox
  split
  · exact used_at h _ _ fun i hi _ => used_stamped h _ ⟨hn, fun g k => (h.box _ (List.getElem_mem hi)).kn g k⟩
  · exact h.mono (by omega)
theorem used_make {n : Nat} {s : Store} (h : Used n s) {g : Int} (hg : 100 ≤ g ∧ g ≤ 999) {nm : List UInt8} (hn : nm ∈ names5) : Used (n + 1) (makeBox s g nm).1 := by
  have hok := makeBox_ok h.ok g nm
  unfold makeBox at hok ⊢
  split
  · rename_i c
    rw [if_pos c] at hok
    split
    · rename_i z
      rw [if_pos z] at hok
      refine ⟨hok, by have := h.time; simp only [makeTo]; omega, by have := h.gone; simp only [makeTo]; omega, fun x hx => ?_, h.kn⟩
      simp only [makeTo, List.mem_append, List.mem_filter, List.mem_singleton] at hx
      rcases hx with (q | q) | q
      · exact h.box x q.1
      · rw [q]
        refine ⟨hn, fun g k => ?_⟩
        rcases k with k | k | ⟨m, hm, k⟩
        · rw [← k]; exact hg
        · simp [newBox] at k
        · simp [newBox] at hm
      · exact h.box x q.1
    · exact h.mono (by omega)
  · exact h.mono (by omega)
theorem used_lose {n : Nat} {s : Store} (h : Used n s) {g : Int} (hg : 100 ≤ g ∧ g ≤ 999) : Used (n + 1) (dropBox s g).1 := by
  have hok := dropBox_ok h.ok (g := g) ⟨by omega, by omega⟩
  unfold dropBox at hok ⊢
  split
  · rename_i c
    rw [if_pos c] at hok
    cases q : boxO s.boxes g with
    | none => rw [at_none q]; exact h.mono (by omega)
    | some i =>
      obtain ⟨hi, hbi⟩ := boxO_some q
      rw [at_some q hi] at hok ⊢
      have := gput_le s.gone g
      refine ⟨hok, by have := h.time; simp only; omega, by have := h.gone; simp only; omega, fun x hx => h.box x ((sub_take_drop s.boxes i).subset hx), fun x hx => ?_⟩
      rcases gput_mem.1 hx with e | e
      · rw [e]; exact hg
      · exact h.kn x e
  · exact h.mono (by omega)
theorem ok_store {s : Store} (h : storeOk s = true) : StoreT s := by
  have G := storeOk_iff.1 h
  have H := storeOk_good h
  exact ⟨⟨by have := G.len; omega, by have := G.goneL; omega, fun b hb => (H.boxes.good b hb).inB, by have := good_gids h; omega⟩, by have := G.time; omega, by have := G.time; omega⟩
/-- a right store; of one that is used from its beginning more is said -/
structure UsedW (p : Bool) (n : Nat) (s : Store) : Prop where
  ok : storeOk s = true
  use : p = true → Used n s
theorem UsedW.mono {p : Bool} {n m : Nat} {s : Store} (h : UsedW p n s) (hm : n ≤ m) : UsedW p m s := ⟨h.ok, fun e => (h.use e).mono hm⟩
theorem usedW_new {w : Int} (h1 : 1 ≤ w) (h2 : w ≤ 2) (p : Bool) : UsedW p 0 ⟨w, 0, [], []⟩ := ⟨(used_new h1 h2).ok, fun _ => used_new h1 h2⟩
theorem UsedW.box {p : Bool} {n : Nat} {s : Store} (h : UsedW p n s) {b : Box} (hb : b ∈ s.boxes) : (1 ≤ b.gid ∧ b.gid ≤ 9999) ∧ (p = true → 100 ≤ b.gid ∧ b.gid ≤ 999) :=
  ⟨((storeOk_iff.1 h.ok).box b hb).1.gid, fun e => ((h.use e).box b hb).kn _ (.inl rfl)⟩
end Mx

namespace Mx
open Go
variable {M : Nat → Option Body}
structure UzK (M : Nat → Option Body) : Prop where
  below : spec_l01Below.k M
  text : spec_l05Text.k M
  once : spec_l01Once.k M
  pick : spec_l01Pick.k M
  make : spec_MakeBox.k M
  put : spec_PutMail.k M
  mark : spec_MarkMail.k M
  drop : spec_DropMail.k M
  name : spec_RenameBox.k M
  lose : spec_DropBox.k M
/-- what is done: one of the seven -/
theorem uz_done (K : UzK M) (c : UzC) (hR : Bytes c.R) (k : Nat) (p : Bool) (m : Nat) (st : Store) (hs : UsedW p m st) (i ic : Nat) (q : Int) (hic : ic ≤ c.R.length) (hb1 : 100 ≤ c.base) (hb2 : c.base + i ≤ 999) (w : Bool) (v1 v2 : Nat) (box gid : Int) (x : Nat)
    (hbox : box = 0 ∨ (1 ≤ box ∧ box ≤ 9999) ∧ (p = true → 100 ≤ box ∧ box ≤ 999)) :
    ∃ (e : Bool) (st' : Store) (w' : Bool) (ic' : Nat) (q' : Int), UsedW p (m + 1) st' ∧ ic' ≤ c.R.length ∧ (box = 0 ∨ w = true → w' = true) ∧
      ∀ n, ∃ y, exC (run M) k spec_l07Use.br (uzS c ⟨i, st, w, v1, v2, ic, q, n⟩ (uyE box gid x)) = some (.normal, uzR c i st' w' ic' q' (uwE e box) y) := by
  have hg : 100 ≤ (c.base : Int) + (i : Int) ∧ (c.base : Int) + (i : Int) ≤ 999 := ⟨by omega, by omega⟩
  have n3 : ∀ s ∈ nm3, s ∈ names5 ∧ s.length ≤ 12 := by decide
  have n4 : ∀ s ∈ nm4, s ∈ names5 ∧ s.length ≤ 12 := by decide
  by_cases c0 : box = 0 ∨ x = 0
  · obtain ⟨nm, ic1, q1, hnm, hc1, h1⟩ := spec_l01Pick.says K.pick hR ic q hic nm3 (by decide) (by decide)
    have h3 := spec_MakeBox.says K.make st (ok_store hs.ok) ((c.base : Int) + (i : Int)) nm (by have := (n3 nm hnm).2; omega)
    refine ⟨false, _, true, ic1, q1, ⟨makeBox_ok hs.ok _ _, fun z => used_make (hs.use z) hg (n3 nm hnm).1⟩, hc1, fun _ => rfl, fun n => ?_⟩
    obtain ⟨v1', v2', n', h⟩ := uz_make c k ⟨i, st, w, v1, v2, ic, q, n⟩ box gid x ic1 _ q1 _ _ (by omega) (by omega) (by simp only; omega) h1 h3
    exact ⟨(v1', v2', n'), h⟩
  have d0 : ¬ box = 0 := fun e => c0 (.inl e)
  have d1 : ¬ (x : Int) = 0 := fun e => c0 (.inr (by omega))
  by_cases c6 : x < 6
  · obtain ⟨f, ic1, q1, hf, hc1, h1⟩ := spec_l01Below.says K.below hR ic q hic 8 (by omega) (by omega)
    simp only [Int.cast_ofNat_Int] at h1
    obtain ⟨tx, ic2, q2, htx, hc2, h2⟩ := spec_l05Text.says K.text hR ic1 q1 hc1
    have h3 := spec_PutMail.says K.put st (ok_store hs.ok) box ((c.base : Int) + (i : Int)) f tx
    refine ⟨false, _, true, ic2, q2, ⟨putMail_ok hs.ok _ _ _ _, fun z => used_put (hs.use z) box hg f tx⟩, hc2, fun _ => rfl, fun n => ?_⟩
    obtain ⟨v1', v2', n', h⟩ := uz_put c k ⟨i, st, w, v1, v2, ic, q, n⟩ box gid x f ic1 ic2 _ q1 q2 _ _ d0 d1 (by omega) (by omega) (by simp only; omega) h1 h2 h3
    exact ⟨(v1', v2', n'), h⟩
  by_cases c9 : x < 9
  · obtain ⟨f, ic1, q1, hf, hc1, h1⟩ := spec_l01Below.says K.below hR ic q hic 8 (by omega) (by omega)
    simp only [Int.cast_ofNat_Int] at h1
    have h3 := spec_MarkMail.says K.mark st (ok_store hs.ok) box gid f
    refine ⟨false, _, true, ic1, q1, ⟨markMail_ok hs.ok _ _ _, fun z => used_mark (hs.use z) box gid f⟩, hc1, fun _ => rfl, fun n => ?_⟩
    obtain ⟨v1', v2', n', h⟩ := uz_mark c k ⟨i, st, w, v1, v2, ic, q, n⟩ box gid x f ic1 q1 _ _ d0 d1 (by omega) (by omega) h1 h3
    exact ⟨(v1', v2', n'), h⟩
  by_cases c10 : x = 9
  · have h3 := spec_DropMail.says K.drop st (ok_store hs.ok) box gid
    refine ⟨false, _, true, ic, q, ⟨dropMail_ok hs.ok _ _, fun z => used_drop (hs.use z) box gid⟩, hic, fun _ => rfl, fun n => ?_⟩
    obtain ⟨v1', v2', n', h⟩ := uz_drop c k ⟨i, st, w, v1, v2, ic, q, n⟩ box gid x _ _ d0 (by omega) h3
    exact ⟨(v1', v2', n'), h⟩
  by_cases c11 : x = 10
  · obtain ⟨nm, ic1, q1, hnm, hc1, h1⟩ := spec_l01Pick.says K.pick hR ic q hic nm4 (by decide) (by decide)
    have h3 := spec_RenameBox.says K.name st (ok_store hs.ok) box nm (by have := (n4 nm hnm).2; omega)
    refine ⟨false, _, true, ic1, q1, ⟨renameBox_ok hs.ok _ _, fun z => used_name (hs.use z) box (n4 nm hnm).1⟩, hc1, fun _ => rfl, fun n => ?_⟩
    obtain ⟨v1', v2', n', h⟩ := uz_name c k ⟨i, st, w, v1, v2, ic, q, n⟩ box gid x ic1 _ q1 _ _ d0 (by omega) h1 h3
    exact ⟨(v1', v2', n'), h⟩
  obtain ⟨z, ic1, q1, hc1, h1⟩ := spec_l01Once.says K.once hR ic q hic 3 (by omega) (by omega)
  simp only [Int.cast_ofNat_Int] at h1
  cases z
  · refine ⟨true, st, w, ic1, q1, hs.mono (by omega), hc1, fun h => h.resolve_left d0, fun n => ?_⟩
    obtain ⟨n', h⟩ := uz_stay c k ⟨i, st, w, v1, v2, ic, q, n⟩ box gid x ic1 q1 d0 (by omega) h1
    exact ⟨(v1, v2, n'), h⟩
  · have h3 := spec_DropBox.says K.lose st (ok_store hs.ok) box
    refine ⟨false, _, true, ic1, q1, ⟨dropBox_ok hs.ok (hbox.resolve_left d0).1, fun z => used_lose (hs.use z) ((hbox.resolve_left d0).2 z)⟩, hc1, fun _ => rfl, fun n => ?_⟩
    obtain ⟨v1', v2', n', h⟩ := uz_lose c k ⟨i, st, w, v1, v2, ic, q, n⟩ box gid x ic1 q1 _ _ d0 (by omega) h1 h3
    exact ⟨(v1', v2', n'), h⟩
structure UzI (c : UzC) (p : Bool) (m : Nat) (s0 : Store) (s : UzS) : Prop where
  i : s.i ≤ c.N
  use : UsedW p (m + s.i) s.s
  ic : s.ic ≤ c.R.length
  w : s0.boxes ≠ [] ∨ (s.i = 0 ∧ s.s = s0) ∨ s.w = true
theorem uz_round (K : UzK M) (c : UzC) (hR : Bytes c.R) (k : Nat) (p : Bool) (m : Nat) (s0 : Store) (hb1 : 100 ≤ c.base) (hb2 : c.base + c.N ≤ 1000) (s : UzS) (hs : UzI c p m s0 s) (hi : s.i < c.N) :
    ∃ s', exC (run M) k spec_l07Use.l0 (uzS c s []) = some (.normal, uzS c s' []) ∧ UzI c p m s0 s' ∧ s'.i = s.i + 1 := by
  have fin : ∀ (box : Int) (e : Bool) (st' : Store) (w' : Bool) (ic' : Nat) (q' : Int), UsedW p (m + s.i + 1) st' → ic' ≤ c.R.length → (s0.boxes ≠ [] ∨ w' = true) →
      (∀ n, ∃ y, exC (run M) k spec_l07Use.hd (uzS c { s with n := n } uxE) = some (.normal, uzR c s.i st' w' ic' q' (uwE e box) y)) →
      ∃ s', exC (run M) k spec_l07Use.l0 (uzS c s []) = some (.normal, uzS c s' []) ∧ UzI c p m s0 s' ∧ s'.i = s.i + 1 := by
    intro box e st' w' ic' q' hu hc hw hX
    obtain ⟨y, hy⟩ := uz_l0 c k s st' w' ic' q' e box hi (by omega) hX
    exact ⟨⟨s.i + 1, st', w', y.1, y.2.1, ic', q', y.2.2⟩, hy, ⟨by simp only; omega, hu, hc, hw.imp_right .inr⟩, rfl⟩
  by_cases hbx : s.s.boxes = []
  · obtain ⟨x, ic1, q1, hx, hc1, h1⟩ := spec_l01Below.says K.below hR s.ic s.q hs.ic 12 (by omega) (by omega)
    simp only [Int.cast_ofNat_Int] at h1
    obtain ⟨e, st', w', ic', q', hu, hc', hw, hd⟩ := uz_done K c hR k p (m + s.i) s.s hs.use s.i ic1 q1 hc1 hb1 (by omega) s.w s.v1 s.v2 0 0 x (.inl rfl)
    obtain ⟨Y, hY⟩ := Classical.skolem.1 hd
    exact fin 0 e st' w' ic' q' hu hc' (.inr (hw (.inl rfl))) fun n => by
      obtain ⟨n1, h⟩ := uz_hd0 c k { s with n := n } x ic1 q1 hbx h1 _ hY
      exact ⟨_, h⟩
  have hne : s0.boxes ≠ [] ∨ s.w = true := by
    rcases hs.w with h | ⟨_, h⟩ | h
    · exact .inl h
    · left; rw [← h]; exact hbx
    · exact .inr h
  have hl : 0 < s.s.boxes.length := List.length_pos_iff.2 hbx
  have G := storeOk_iff.1 hs.use.ok
  obtain ⟨j, ic0, q0, hj, hc0, h0⟩ := spec_l01Below.says K.below hR s.ic s.q hs.ic s.s.boxes.length hl (by have := G.len; omega)
  have hbox := hs.use.box (List.getElem_mem hj)
  by_cases hml : s.s.boxes[j].mails = []
  · obtain ⟨x, ic1, q1, hx, hc1, h1⟩ := spec_l01Below.says K.below hR ic0 q0 hc0 12 (by omega) (by omega)
    simp only [Int.cast_ofNat_Int] at h1
    obtain ⟨e, st', w', ic', q', hu, hc', hw, hd⟩ := uz_done K c hR k p (m + s.i) s.s hs.use s.i ic1 q1 hc1 hb1 (by omega) s.w s.v1 s.v2 s.s.boxes[j].gid 0 x (.inr hbox)
    obtain ⟨Y, hY⟩ := Classical.skolem.1 hd
    exact fin _ e st' w' ic' q' hu hc' (hne.imp_right fun h => hw (.inr h)) fun n => by
      obtain ⟨n1, h⟩ := uz_hd1 c k { s with n := n } x j ic0 ic1 q0 q1 hj hml h0 h1 _ hY
      exact ⟨_, h⟩
  · have hl2 : 0 < s.s.boxes[j].mails.length := List.length_pos_iff.2 hml
    have GB := (G.box _ (List.getElem_mem hj)).1
    obtain ⟨l, ic2, q2, hl, hc2, h2⟩ := spec_l01Below.says K.below hR ic0 q0 hc0 s.s.boxes[j].mails.length hl2 (by have := GB.len; omega)
    obtain ⟨x, ic1, q1, hx, hc1, h1⟩ := spec_l01Below.says K.below hR ic2 q2 hc2 12 (by omega) (by omega)
    simp only [Int.cast_ofNat_Int] at h1
    obtain ⟨e, st', w', ic', q', hu, hc', hw, hd⟩ := uz_done K c hR k p (m + s.i) s.s hs.use s.i ic1 q1 hc1 hb1 (by omega) s.w s.v1 s.v2 s.s.boxes[j].gid (s.s.boxes[j].mails[l]).gid x (.inr hbox)
    obtain ⟨Y, hY⟩ := Classical.skolem.1 hd
    exact fin _ e st' w' ic' q' hu hc' (hne.imp_right fun h => hw (.inr h)) fun n => by
      obtain ⟨n1, h⟩ := uz_hd2 c k { s with n := n } x j l ic0 ic1 ic2 q0 q1 q2 hj hl h0 h2 h1 _ hY
      exact ⟨_, h⟩
theorem uz_loop (K : UzK M) (c : UzC) (hR : Bytes c.R) (k : Nat) (p : Bool) (m : Nat) (s0 : Store) (hb1 : 100 ≤ c.base) (hb2 : c.base + c.N ≤ 1000) (s : UzS) (hs : UzI c p m s0 s) (hk : c.N < k) :
    ∃ s', loopN (exC (run M) k spec_l07Use.l0) k (uzS c s []) = some (.exit 0, uzS c s' [(16, .c (.bool false))]) ∧ UzI c p m s0 s' ∧ s'.i = c.N := by
  obtain ⟨r, hr, s', rfl, hI⟩ := loop_ex (f := exC (run M) k spec_l07Use.l0) (fun s => uzS c s []) (UzI c p m s0) (fun s => c.N - s.i) (fun r => ∃ s', r = (.exit 0, uzS c s' [(16, .c (.bool false))]) ∧ UzI c p m s0 s' ∧ s'.i = c.N)
    (fun s hs => by
      by_cases hi : s.i < c.N
      · left
        obtain ⟨s', h1, h2, h3⟩ := uz_round K c hR k p m s0 hb1 hb2 s hs hi
        exact ⟨s', h1, h2, by omega⟩
      · right
        obtain ⟨n', h⟩ := uz_end (M := M) c k s hi
        have := hs.i
        exact ⟨_, h, by simp, _, rfl, ⟨hs.i, hs.use, hs.ic, hs.w⟩, by simp only; omega⟩) k s hs (by omega)
  exact ⟨s', hr, hI⟩
abbrev encStoreW (w : Bool) (s : Store) : List T := [I s.who, I s.time, .sl w 7 (s.boxes.map encBox), .sl w 1 (irow s.gone)]
set_option maxHeartbeats 1000000 in
theorem spec_l07Use.says (h : spec_l07Use.k M) {R : List (List T)} (hR : Bytes R) (i : Nat) (q : Int) (hi : i ≤ R.length) (p : Bool) (m : Nat) (s : Store) (hs : UsedW p m s) (N base : Nat) (h1 : 100 ≤ base) (h2 : base + N ≤ 1000) :
    ∃ (s' : Store) (w : Bool) (i' : Nat) (q' : Int), UsedW p (m + N) s' ∧ (s.boxes = [] → 0 < N → w = true) ∧ i' ≤ R.length ∧
      run M 244 [.c (.ptr 0 0 0 0), .a (encStore s), .c (I N), .c (I base)] [curD R i q] = some (.a (encStoreW w s'), [curD R i' q']) := by
  obtain ⟨h0, kb, kt, ko, kp, km, kpu, kma, kdm, kn, kdb⟩ := h
  obtain ⟨⟨i', s', w, v1, v2, ic, q', n⟩, hr, hI, hi'⟩ := uz_loop ⟨kb, kt, ko, kp, km, kpu, kma, kdm, kn, kdb⟩ ⟨R, 2000000, 2000016, N, base⟩ hR (N + 1) p m s h1 h2 ⟨0, s, false, 0, 0, i, q, 2000048⟩ ⟨Nat.zero_le _, hs, hi, .inr (.inl ⟨rfl, rfl⟩)⟩ (by simp)
  obtain ⟨_, hu, hc, hw⟩ := hI
  simp only at hi' hu hc hw
  subst hi'
  refine ⟨s', w, ic, q', hu, fun e hN => ?_, hc, run_code (b := spec_l07Use.m) h0 ⟨i' + 1, ?_⟩⟩
  · rcases hw with h | ⟨h, _⟩ | h
    · exact (h e).elim
    · omega
    · exact h
  have e0 : ((0 : Nat) : Int) = 0 := rfl
  have e7 : (s'.boxes.map encBox).length = s'.boxes.length := by simp
  have e8 := irow_length s'.gone
  have m1 : (s'.boxes.map encBox).take s'.boxes.length = s'.boxes.map encBox := List.take_of_length_le (by omega)
  have m2 : (irow s'.gone).take s'.gone.length = irow s'.gone := List.take_of_length_le (by omega)
  simp only [uzS, uzT, uzO, uzB, uzX, e0] at hr
  simp only [encStore, encStoreW, boxes, ints] at hr ⊢
  generalize s'.boxes.map encBox = rb' at *
  generalize irow s'.gone = rg' at *
  generalize s.boxes.map encBox = rb at *
  generalize irow s.gone = rg at *
  cases w
  · simp only [Bool.false_eq_true, if_false] at hr
    simp (maxSteps := 1000000) [exB, spec_l07Use.m, spec_l07Use.b, List.range_succ, bs_get, setAt, hr, e7, e8, m1, m2]
  · simp only [Bool.false_eq_true, if_false, if_true] at hr
    simp (maxSteps := 1000000) [exB, spec_l07Use.m, spec_l07Use.b, List.range_succ, bs_get, setAt, hr, e7, e8, m1, m2]
end Mx

namespace Mx
open Go
variable {M : Nat → Option Body}
theorem spec_StoreNew.says (h : spec_StoreNew.k M) (w : Int) : run M 113 [.c (I w)] [] = some (.a [I w, I 0, .sl true 7 [], .sl true 1 []], []) := by
  refine run_code (b := spec_StoreNew.m) h ⟨0, ?_⟩
  simp (maxSteps := 1000000) [exB, spec_StoreNew.m, spec_StoreNew.b, List.range_succ, bs_get, setAt]
set_option maxHeartbeats 1000000 in
theorem spec_l07Store.says (h : spec_l07Store.k M) {R : List (List T)} (hR : Bytes R) (i : Nat) (q : Int) (hi : i ≤ R.length) :
    ∃ (s : Store) (i' : Nat) (q' : Int), Used 13 s ∧ i' ≤ R.length ∧ run M 188 [.c (.ptr 0 0 0 0)] [curD R i q] = some (.a (encStoreO s), [curD R i' q']) := by
  obtain ⟨h0, kn, kb, ku⟩ := h
  obtain ⟨x, i1, q1, hx, hc1, h1⟩ := spec_l01Below.says kb hR i q hi 12 (by omega) (by omega)
  obtain ⟨y, i2, q2, hy, hc2, h2⟩ := spec_l01Below.says kb hR i1 q1 hc1 2 (by omega) (by omega)
  simp only [Int.cast_ofNat_Int] at h1 h2
  have h3 := spec_StoreNew.says kn ((1 + y : Nat) : Int)
  obtain ⟨s, w, i3, q3, hu, hw, hc3, h4⟩ := spec_l07Use.says ku hR i2 q2 hc2 true 0 ⟨((1 + y : Nat) : Int), 0, [], []⟩ (usedW_new (by omega) (by omega) true) (2 + x) 100 (by omega) (by omega)
  have hw := hw rfl (by omega)
  subst hw
  refine ⟨s, i3, q3, (hu.use rfl).mono (by omega), hc3, run_code (b := spec_l07Store.m) h0 ⟨0, ?_⟩⟩
  have e1 : IntKind.i64.wrap (2 + (x : Int)) = ((2 + x : Nat) : Int) := wrap_i64 (by omega) (by omega)
  have e2 : IntKind.i64.wrap (1 + (y : Int)) = ((1 + y : Nat) : Int) := wrap_i64 (by omega) (by omega)
  simp only [encStore, encStoreW, encStoreO, boxes, ints, List.map_nil, irow_nil, Int.cast_ofNat_Int] at h4 ⊢
  generalize ((1 + y : Nat) : Int) = y1 at *
  generalize ((2 + x : Nat) : Int) = x1 at *
  have e7 : (s.boxes.map encBox).length = s.boxes.length := by simp
  have e8 := irow_length s.gone
  generalize s.boxes.map encBox = rb' at *
  generalize irow s.gone = rg' at *
  simp (maxSteps := 1000000) [exB, spec_l07Store.m, spec_l07Store.b, List.range_succ, bs_get, setAt, h1, h2, h3, h4, e1, e2, e7, e8, List.take_of_length_le]
end Mx

namespace Mx
open Go
variable {M : Nat → Option Body}
theorem boxIn_none {l : List Box} {g : Int} : boxIn l g = none ↔ ∀ m ∈ l, m.gid ≠ g := by
  unfold boxIn; rw [List.find?_eq_none]; simp
end Mx

namespace Mx
open Go
def gb (l : List Box) (g : Int) : List Int := match boxIn l g with | some x => x.gone | none => []
/-- the boxes that two lists come to, ahead of names and of mails that are there twice -/
def raw (a b : List Box) (G : List Int) : List Box := ((joinGone (gidsB a) (gidsB b)).filter fun g => !decide (g ∈ G)).map (joinB a b)
theorem ren_fold_at : ∀ (l acc : List Box) (i : Nat) (h : i < l.length), ∃ nm, (l.foldl renStep acc)[acc.length + i]? = some { l[i] with name := nm }
  | x :: l, acc, i, h => by
    rw [List.foldl_cons]
    have hs : renStep acc x = acc ++ [renOne acc x] := rfl
    cases i with
    | zero =>
      have hp : ∀ (l acc : List Box) (k : Nat), k < acc.length → (l.foldl renStep acc)[k]? = acc[k]? := by
        intro l
        induction l with
        | nil => intro acc k _; rfl
        | cons y l ih =>
          intro acc k hk
          rw [List.foldl_cons, ih (renStep acc y) k (by rw [renStep_eq]; simp; omega), renStep_eq, List.getElem?_append_left hk]
      rw [hp l _ _ (by rw [hs]; simp), hs]
      refine ⟨(renOne acc x).name, ?_⟩
      simp only [Nat.add_zero, List.getElem?_append_right (Nat.le_refl _), Nat.sub_self, List.getElem?_cons_zero, List.getElem_cons_zero]
      unfold renOne; split <;> rfl
    | succ i =>
      have := ren_fold_at l (renStep acc x) i (by simpa using h)
      rw [hs] at this
      simpa [hs, Nat.add_assoc, Nat.add_comm 1] using this
theorem ren_at (l : List Box) (i : Nat) (h : i < l.length) : ∃ nm, (ren l)[i]'(by rw [ren_len]; exact h) = { l[i] with name := nm } := by
  obtain ⟨nm, e⟩ := ren_fold_at l [] i h
  refine ⟨nm, ?_⟩
  simp only [List.length_nil, Nat.zero_add] at e
  have e2 : (ren l)[i]? = some { l[i] with name := nm } := e
  rw [List.getElem?_eq_getElem (by rw [ren_len]; exact h)] at e2
  exact Option.some.inj e2
theorem seenI_mem {L : List Box} {i : Nat} {m : Int} : m ∈ seenI L i ↔ ∃ k, ∃ h : k < L.length, k < i ∧ m ∈ gids L[k].mails := by
  unfold seenI
  rw [List.mem_flatMap]
  constructor
  · rintro ⟨b, hb, hm⟩
    obtain ⟨k, hk, rfl⟩ := List.getElem_of_mem hb
    simp only [List.length_take] at hk
    rw [List.getElem_take] at hm
    exact ⟨k, by omega, by omega, hm⟩
  · rintro ⟨k, hk, hki, hm⟩
    refine ⟨L[k], ?_, hm⟩
    have : k < (L.take i).length := by simp; omega
    have e : (L.take i)[k] = L[k] := by rw [List.getElem_take]
    rw [← e]; exact List.getElem_mem this
theorem ded_gids {L : List Box} {i : Nat} (h : i < L.length) {m : Int} : m ∈ gids ((ded L)[i]'(by simpa [ded] using h)).mails ↔ m ∈ gids L[i].mails ∧ ¬ m ∈ seenI L i := by
  simp only [ded, List.getElem_mapIdx, dedOne, gids, List.mem_map, List.mem_filter, Bool.not_eq_true', decide_eq_false_iff_not]
  constructor
  · rintro ⟨y, ⟨h1, h2⟩, rfl⟩; exact ⟨⟨y, h1, rfl⟩, h2⟩
  · rintro ⟨⟨y, h1, rfl⟩, h2⟩; exact ⟨y, ⟨h1, h2⟩, rfl⟩
/-- a joined store's boxes, one by one -/
structure Come (a b : List Box) (G : List Int) (L : List Box) : Prop where
  len : L.length = (raw a b G).length
  at_ : ∀ i (h : i < L.length), ∃ hr : i < (raw a b G).length, L[i].gid = (raw a b G)[i].gid ∧ L[i].gone = (raw a b G)[i].gone ∧
    ∀ m, m ∈ gids L[i].mails ↔ m ∈ gids (raw a b G)[i].mails ∧ ¬ m ∈ seenI (raw a b G) i
  nd : (∀ x ∈ raw a b G, (gids x.mails).Nodup) → ∀ i (h : i < L.length), (gids L[i].mails).Nodup
theorem come (a b : List Box) (G : List Int) : Come a b G (ded (joinBoxesS a b G)) := by
  have hl : (ded (joinBoxesS a b G)).length = (raw a b G).length := by simp only [ded, List.length_mapIdx]; exact ren_len _
  have hS : ∀ i (h : i < (raw a b G).length), ∃ nm, (joinBoxesS a b G)[i]'(by rw [show (joinBoxesS a b G).length = _ from ren_len _]; exact h) = { (raw a b G)[i] with name := nm } := fun i h => ren_at (raw a b G) i h
  have hlS : (joinBoxesS a b G).length = (raw a b G).length := ren_len _
  have hseen : ∀ i m, m ∈ seenI (joinBoxesS a b G) i ↔ m ∈ seenI (raw a b G) i := by
    intro i m
    rw [seenI_mem, seenI_mem]
    constructor
    · rintro ⟨k, h1, h2, h3⟩
      obtain ⟨nm, e⟩ := hS k (by omega)
      rw [e] at h3
      exact ⟨k, by omega, h2, h3⟩
    · rintro ⟨k, h1, h2, h3⟩
      obtain ⟨nm, e⟩ := hS k h1
      exact ⟨k, by omega, h2, by rw [e]; exact h3⟩
  refine ⟨hl, fun i h => ?_, fun hn i h => ?_⟩
  · have hr : i < (raw a b G).length := by omega
    obtain ⟨nm, e⟩ := hS i hr
    refine ⟨hr, ?_, ?_, fun m => ?_⟩
    · simp only [ded, List.getElem_mapIdx, dedOne, e]
    · simp only [ded, List.getElem_mapIdx, dedOne, e]
    · rw [ded_gids (by omega), hseen, e]
  · have hr : i < (raw a b G).length := by omega
    obtain ⟨nm, e⟩ := hS i hr
    have := hn _ (List.getElem_mem hr)
    simp only [ded, List.getElem_mapIdx, dedOne, e, gids] at this ⊢
    exact this.sublist (List.Sublist.map _ List.filter_sublist)
end Mx

namespace Mx
open Go
variable {M : Nat → Option Body}
theorem impl_BoxAt_1.says (h : impl_BoxAt_1.k M) (b : Box) (g : Int) : run M 199 [.a (encBox b), .c (.vp [I g] 0)] [] = some (.c (.bool (decide (b.gid = g))), []) := by
  refine run_code (b := impl_BoxAt_1.m) h ⟨0, ?_⟩
  simp (maxSteps := 1000000) [exB, impl_BoxAt_1.m, impl_BoxAt_1.b, List.range_succ, bs_get, setAt, encBox]
theorem impl_BoxAt.says (h : impl_BoxAt.k M) (s : Store) (g : Int) (hl : s.boxes.length ≤ 1048576) : run M 95 [.a (encStore s), .c (I g)] [] = some (.c (I (intO (boxO s.boxes g))), []) := by
  have h1 := slices_IndexFunc_impl_Box_impl_Box.gen h.2.2 (fun b => impl_BoxAt_1.says h.2.1 b g) s.boxes hl
  refine run_code (b := impl_BoxAt.m) h.1 ⟨0, ?_⟩
  unfold boxO
  simp only [encStore, boxes, ints] at h1 ⊢
  generalize s.boxes.map encBox = r at *
  generalize irow s.gone = rg at *
  simp (maxSteps := 1000000) [exB, impl_BoxAt.m, impl_BoxAt.b, List.range_succ, bs_get, setAt, h1]
end Mx

namespace Mx
open Go
def keepR (kt ko : List Nat) (n : Nat) : Option (List (Nat × V) × List (Nat × Ob)) → Option (Out × St)
  | none => none
  | some r => some (.normal, { t := keep kt r.1, o := keep ko r.2, n := n })
theorem keepR_some (kt ko : List Nat) (n : Nat) (t : List (Nat × V)) (o : List (Nat × Ob)) : keepR kt ko n (some (t, o)) = some (.normal, { t := keep kt t, o := keep ko o, n := n }) := rfl
theorem keepR_none (kt ko : List Nat) (n : Nat) : keepR kt ko n none = none := rfl
theorem exC_reg (cf : CallF) (k : Nat) (s : St) (ops : List Mop) (kt ko : List Nat) : exC cf k (.reg ops kt ko) s = keepR kt ko (s.n + 16 * ops.length) (steps cf s.n 0 ops s.t s.o) := by
  simp only [exC]; cases steps cf s.n 0 ops s.t s.o <;> rfl
theorem exC_regd (cf : CallF) (k : Nat) (s : St) (ops : List Mop) (anc : List (List Nat)) (kt ko : List Nat) : exC cf k (.regd ops anc kt ko) s = keepR kt ko (s.n + 16 * ops.length) (stepsD cf s.n 0 ops anc s.t s.o []) := by
  simp only [exC]; cases stepsD cf s.n 0 ops anc s.t s.o [] <;> rfl
theorem exC_skip (cf : CallF) (k : Nat) (s : St) : exC cf k .skip s = some (.normal, s) := rfl
theorem exC_seq (cf : CallF) (k : Nat) (s : St) (a b : C) : exC cf k (.seq a b) s = match exC cf k a s with | some (.normal, s') => exC cf k b s' | r => r := rfl
theorem exC_cond (cf : CallF) (k : Nat) (s : St) (c : Nat) (a b : C) : exC cf k (.cond (.t c) a b) s = match lookB s.t (.t c) with | some true => exC cf k a s | some false => exC cf k b s | none => none := rfl
theorem exC_block (cf : CallF) (k : Nat) (s : St) (id : Nat) (a : C) : exC cf k (.block id a) s = match exC cf k a s with | some (.exit id', s') => some (if id' = id then (.normal, s') else (.exit id', s')) | r => r := rfl
theorem exC_loop (cf : CallF) (k : Nat) (s : St) (a : C) : exC cf k (.loop a) s = loopN (exC cf k a) k s := rfl
theorem exC_exit (cf : CallF) (k : Nat) (s : St) (id : Nat) : exC cf k (.exit id) s = some (.exit id, s) := rfl
theorem exC_ret (cf : CallF) (k : Nat) (s : St) : exC cf k .ret s = some (.ret, s) := rfl
theorem exC_shut (cf : CallF) (k : Nat) (s : St) (ids : List Nat) (a : C) : exC cf k (.shut ids a) s = exC cf k a { s with o := sealOb ids s.o } := rfl
theorem lr_has (n i : Nat) : (lr n).contains i = decide (i < n) := by
  simp only [lr, List.contains_eq_mem, List.mem_range]
theorem lr_has2 (n i : Nat) (l : List Nat) : (lr n ++ l).contains i = (decide (i < n) || l.contains i) := by
  simp only [lr, List.contains_eq_mem, List.mem_append, List.mem_range, Bool.decide_or]
def idsB : Option Ob → List Nat
  | some b => if b.bx then b.rows.flatMap fun r => r.flatMap idsT else []
  | none => []
def idsN (o : List (Nat × Ob)) : List Nat → List Nat
  | [] => []
  | id :: r => idsB (get o id) ++ idsN o r
def idsKL (o : List (Nat × Ob)) : List T → List Nat
  | [] => []
  | t :: ts => (idsT t ++ idsN o (idsT t)) ++ idsKL o ts
def idsG (o : List (Nat × Ob)) : Option V → List Nat
  | some (.c t) => idsT t ++ idsN o (idsT t)
  | some (.a ts) => idsKL o ts
  | _ => []
def touchL (t : List (Nat × V)) (o : List (Nat × Ob)) : List Nat → List Nat
  | [] => []
  | x :: xs => idsG o (get t x) ++ touchL t o xs
theorem idsN_eq (o : List (Nat × Ob)) : ∀ l, l.flatMap (idsO o) = idsN o l
  | [] => rfl
  | x :: l => by
    rw [List.flatMap_cons, idsN_eq o l, idsN]
    congr 1
theorem idsKL_eq (o : List (Nat × Ob)) : ∀ ts : List T, (ts.flatMap fun t => idsT t ++ (idsT t).flatMap (idsO o)) = idsKL o ts
  | [] => rfl
  | t :: ts => by rw [List.flatMap_cons, idsKL_eq o ts, idsKL, idsN_eq]
theorem touchL_eq (t : List (Nat × V)) (o : List (Nat × Ob)) : ∀ l : List Nat, (l.flatMap fun x => match get t x with | some v => idsV o v | none => []) = touchL t o l
  | [] => rfl
  | x :: l => by
    rw [List.flatMap_cons, touchL_eq t o l, touchL]
    congr 1
    cases h : get t x with
    | none => rfl
    | some v =>
      cases v with
      | c t => simp only [idsV, idsG, idsN_eq]
      | a ts => simp only [idsV, idsG, idsKL_eq]
      | _ => rfl
theorem touch_eq (t : List (Nat × V)) (o : List (Nat × Ob)) (m : MO) : touch t o m = touchL t o m.eyes := touchL_eq t o _
attribute [simp] idsB idsN idsKL idsG touchL
def stepK (t : List (Nat × V)) (o : List (Nat × Ob)) (d : Option Nat) : Done → Option (List (Nat × V) × List (Nat × Ob))
  | none => none
  | some r => some (setT t d r.1, r.2 ++ o)
theorem stepK_some (t : List (Nat × V)) (o : List (Nat × Ob)) (d : Option Nat) (v : V) (u : List (Nat × Ob)) : stepK t o d (some (v, u)) = some (setT t d v, u ++ o) := rfl
theorem stepK_none (t : List (Nat × V)) (o : List (Nat × Ob)) (d : Option Nat) : stepK t o d none = none := rfl
theorem step_eq (cf : CallF) (n i : Nat) (m : Mop) (t : List (Nat × V)) (o : List (Nat × Ob)) : step cf n i m t o = match wanted t m.guard with
    | some true => stepK t o m.dst (act cf (n + 16 * i) (m.dst.getD 0) t o m.op)
    | some false => some (setT t m.dst .undef, o)
    | none => none := by
  unfold step
  cases wanted t m.guard with
  | none => rfl
  | some b => cases b with
    | false => rfl
    | true => simp only []; cases act cf (n + 16 * i) (m.dst.getD 0) t o m.op <;> rfl
def stepH (t : List (Nat × V)) (d : Option Nat) : Done → Option (List (Nat × V))
  | none => none
  | some r => some (setT t d r.1)
theorem stepH_some (t : List (Nat × V)) (d : Option Nat) (r : V × List (Nat × Ob)) : stepH t d (some r) = some (setT t d r.1) := rfl
theorem stepH_none (t : List (Nat × V)) (d : Option Nat) : stepH t d none = none := rfl
theorem stepE_eq (cf : CallF) (n i : Nat) (m : Mop) (t : List (Nat × V)) (o : List (Nat × Ob)) : stepE cf n i m t o = match wanted t m.guard with
    | some true => stepH t m.dst (actE cf (n + 16 * i) (m.dst.getD 0) t o m.op)
    | some false => some (setT t m.dst .undef)
    | none => none := by
  unfold stepE
  cases wanted t m.guard with
  | none => rfl
  | some b => cases b with
    | false => rfl
    | true => simp only []; cases actE cf (n + 16 * i) (m.dst.getD 0) t o m.op <;> rfl
def numbered {α : Type} : Nat → List α → List (Nat × α)
  | _, [] => []
  | i, x :: xs => (i, x) :: numbered (i + 1) xs
theorem zip_from {α : Type} : ∀ (l : List α) (a n : Nat), l.length ≤ n → (List.range' a n).zip l = numbered a l
  | [], a, n, _ => by simp [numbered]
  | x :: xs, a, 0, h => by simp at h
  | x :: xs, a, n + 1, h => by
    simp only [List.length_cons] at h
    rw [List.range'_succ, List.zip_cons_cons, numbered, zip_from xs (a + 1) n (by omega)]
theorem zip_range {α : Type} (n : Nat) (l : List α) (h : l.length ≤ n) : (List.range n).zip l = numbered 0 l := by
  rw [List.range_eq_range', zip_from l 0 n h]
attribute [simp] numbered zip_range
def verO : Option Ob → Nat
  | none => 0
  | some b => b.ver
def lendK (o : List (Nat × Ob)) : List (Nat × Nat × Ob) → List (Nat × Nat × Nat)
  | [] => []
  | l :: r => (l.1, l.2.1, verO (get o l.2.1)) :: lendK o r
theorem lendK_eq (o : List (Nat × Ob)) : ∀ ls : List (Nat × Nat × Ob), (ls.map fun l => (l.1, l.2.1, (get o l.2.1).elim 0 (·.ver))) = lendK o ls
  | [] => rfl
  | l :: r => by
    rw [List.map_cons, lendK_eq o r, lendK]
    congr 2
    cases get o l.2.1 <;> rfl
theorem doCall_eq (cf : CallF) (n : Nat) (o : List (Nat × Ob)) (f : Nat) (vals : List V) (lend : List Nat) (thaw : List (Nat × Nat)) : doCall cf n o f vals lend thaw =
  match args o lend 0 vals with
  | none => none
  | some (as, ls, b) =>
    if vals.length ≤ 1000 ∧ (ls.map (·.2.1)).all (fun id => !b.contains id) ∧ (ls.map (·.2.1)).Nodup then
      match cf f as (ls.map fun l => (l.1, l.2.2)) with
      | none => none
      | some (res, after) =>
        match lentBack n o after ls, back n (lendK o ls) thaw res with
        | some ups, some (v, ups') => if b.isEmpty ∨ (res.flat ∧ ups.all fun u => u.2.rows.all (·.all T.scalar)) then some (v, ups ++ ups') else none
        | _, _ => none
    else none := by
  unfold doCall
  cases args o lend 0 vals with
  | none => rfl
  | some r => obtain ⟨as, ls, b⟩ := r; simp only [lendK_eq]; rfl
attribute [simp] verO lendK
attribute [simp] keepR_some keepR_none exC_reg exC_regd exC_skip exC_seq exC_cond exC_block exC_loop exC_exit exC_ret exC_shut lr_has lr_has2 touch_eq stepK_some stepK_none step_eq stepH_some stepH_none stepE_eq doCall_eq
end Mx

namespace Mx
open Go
attribute [-simp] exC step stepE touch idsV idsO doCall
variable {M : Nat → Option Body}
def cbS (l : List Box) (i : Nat) (x : Nat × Nat) : St := { t := [(3, .c (.row 6 x.1 0 i)), (7, .c (boxes l)), (8, .c (I l.length)), (9, .c (I i))], o := [(6, ⟨x.1, 7, true, false, (l.take i).map encBox⟩)], n := x.2 }
def cbE (l : List Box) (x : Nat × Nat) : St := { t := [(3, .c (.row 6 x.1 0 l.length)), (7, .c (boxes l)), (8, .c (I l.length)), (9, .c (I l.length)), (10, .c (.bool false))], o := [(6, ⟨x.1, 7, true, false, (l.take l.length).map encBox⟩)], n := x.2 }
set_option maxHeartbeats 1000000 in
theorem impl_copyBoxes.says (h : impl_copyBoxes.k M) (l : List Box) (hl : l.length ≤ 1048576) (hb : ∀ b ∈ l, BoxIn b) : run M 270 [.c (boxes l)] [] = some (.c (.sl true 7 (l.map encBox)), []) := by
  obtain ⟨h0, k1⟩ := h
  refine run_code (b := impl_copyBoxes.m) h0 ⟨l.length + 1, ?_⟩
  have er : (l.map encBox).length = l.length := by simp
  obtain ⟨g, hr⟩ := count_loop (f := exC (run M) (l.length + 1) impl_copyBoxes.l0) l.length (cbS l) 0 (cbE l)
    (fun i hi x => by
      obtain ⟨v, n⟩ := x
      have h2 := impl_copyBox.says k1 l[i] (hb _ (List.getElem_mem hi))
      have e5 := wrap1 (i := i) (by omega)
      have e6 : i + 1 ≤ 4294967296 := by omega
      have e7 : ((l.take i).map encBox).length = i := by simp; omega
      have e8 : ((l.take (i + 1)).map encBox) = (l.take i).map encBox ++ [encBox l[i]] := by rw [take_snoc _ _ hi, List.map_append]; rfl
      have a1 : ∀ hh, (l.map encBox)[i]'hh = encBox l[i] := by intro hh; simp
      simp only [Prod.exists, cbS, e8, boxes]
      simp only [encBox, encBoxO, mails, ints] at h2 a1 ⊢
      generalize (l.take i).map encBox = rr at *
      generalize l.map encBox = rb at *
      generalize l[i].mails.map encMail = rm at *
      generalize irow l[i].gone = rg at *
      simp (maxSteps := 1000000) [impl_copyBoxes.l0, bs_get, List.take_of_length_le, setAt, str_add, hi, h2, e5, e6, e7, er, a1])
    (fun x => by
      obtain ⟨v, n⟩ := x
      simp only [Prod.exists, cbS, cbE, boxes]
      generalize (l.take l.length).map encBox = rr at *
      generalize l.map encBox = rb at *
      simp (maxSteps := 1000000) [impl_copyBoxes.l0, bs_get, List.take_of_length_le, setAt, str_add, er])
  have hr0 := hr (2000016, 2000096)
  generalize g (2000016, 2000096) = y at *
  obtain ⟨v, n⟩ := y
  have ez : ((0 : Nat) : Int) = 0 := rfl
  simp only [cbS, cbE, ez, List.take_zero, List.map_nil, List.take_length, boxes] at hr0
  simp only [boxes]
  generalize l.map encBox = rb at *
  simp (maxSteps := 1000000) [exB, impl_copyBoxes.m, impl_copyBoxes.b, bs_get, List.take_of_length_le, setAt, str_add, hr0, er]
theorem impl_copyStore.says (h : impl_copyStore.k M) (s : Store) (hs : StoreIn s) : run M 220 [.a (encStore s)] [] = some (.a (encStoreO s), []) := by
  obtain ⟨h0, k1, k2⟩ := h
  have h1 := impl_copyInts.says k1 s.gone hs.g
  have h2 := impl_copyBoxes.says k2 s.boxes hs.b hs.i
  have er : (s.boxes.map encBox).length = s.boxes.length := by simp
  have eg := irow_length s.gone
  refine run_code (b := impl_copyStore.m) h0 ⟨0, ?_⟩
  simp only [encStore, encStoreO, boxes, ints] at *
  generalize s.boxes.map encBox = rb at *
  generalize irow s.gone = rs at *
  simp (maxSteps := 1000000) [exB, impl_copyStore.m, impl_copyStore.b, bs_get, List.take_of_length_le, setAt, str_add, h1, h2, er, eg]
theorem impl_NextStamp.says (h : impl_NextStamp.k M) (s : Store) (hs : -1000000000 ≤ s.time ∧ s.time ≤ 1000000000) : run M 431 [.a (encStore s)] [] = some (.a [I (s.time + 1), I s.who], []) := by
  refine run_code (b := impl_NextStamp.m) h ⟨0, ?_⟩
  have e5 : IntKind.i64.wrap (s.time + 1) = s.time + 1 := wrap_i64 (by omega) (by omega)
  simp only [encStore, boxes, ints]
  simp (maxSteps := 1000000) [exB, impl_NextStamp.m, impl_NextStamp.b, bs_get, List.take_of_length_le, setAt, str_add, e5]
theorem impl_orElse.says (h : impl_orElse.k M) (out s : Store) (ho : StoreIn out) (hs : StoreIn s) :
    run M 441 [.a (encStore out), .a (encStore s)] [] = some (.tup [.a (encStore (if storeOk out = true then out else s)), .c (.bool (storeOk out))], []) := by
  obtain ⟨h0, ko, kc⟩ := h
  have h1 := impl_StoreOk.says ko out ho
  have h2 := impl_copyStore.says kc s hs
  have er : (s.boxes.map encBox).length = s.boxes.length := by simp
  have eg := irow_length s.gone
  refine run_code (b := impl_orElse.m) h0 ⟨0, ?_⟩
  cases c : storeOk out with
  | true =>
    rw [c] at h1
    rw [if_pos rfl]
    simp only [encStore, encStoreO, boxes, ints] at *
    generalize s.boxes.map encBox = rb at *
    generalize irow s.gone = rs at *
    generalize out.boxes.map encBox = ob at *
    generalize irow out.gone = os at *
    simp (maxSteps := 1000000) [exB, impl_orElse.m, impl_orElse.b, bs_get, List.take_of_length_le, setAt, str_add, h1, er, eg]
  | false =>
    rw [c] at h1
    rw [if_neg (by simp)]
    simp only [encStore, encStoreO, boxes, ints] at *
    generalize s.boxes.map encBox = rb at *
    generalize irow s.gone = rs at *
    generalize out.boxes.map encBox = ob at *
    generalize irow out.gone = os at *
    simp (maxSteps := 1000000) [exB, impl_orElse.m, impl_orElse.b, bs_get, List.take_of_length_le, setAt, str_add, h1, h2, er, eg]
end Mx

namespace Mx
open Go
attribute [-simp] exC step stepE touch idsV idsO doCall
variable {M : Nat → Option Body}
def knwB (g : Int) (b : Box) : Bool := decide (b.gid = g) || knowsB b g
def knS (s : Store) (g : Int) (i : Nat) (x : Nat) : St := { t := [(1, .c (I g)), (2, .c (.ptr 2 2000000 0 0)), (8, .c (boxes s.boxes)), (9, .c (I s.boxes.length)), (10, .c (I i))], o := [(2, ⟨2000000, 4, true, true, [encStore s]⟩)], n := x }
def knE (s : Store) (g : Int) (x : Nat) : St := { t := [(1, .c (I g)), (2, .c (.ptr 2 2000000 0 0)), (8, .c (boxes s.boxes)), (9, .c (I s.boxes.length)), (10, .c (I s.boxes.length)), (11, .c (.bool false))], o := [(2, ⟨2000000, 4, true, true, [encStore s]⟩)], n := x }
theorem boxO_any (l : List Box) (g : Int) : (boxO l g).isSome = l.any fun b => decide (b.gid = g) := by
  unfold boxO
  rw [any_first2]
set_option maxHeartbeats 2000000 in
theorem impl_Knows.says (h : impl_Knows.k M) (s : Store) (g : Int) (hs : StoreIn s) : run M 413 [.a (encStore s), .c (I g)] [] = some (.c (.bool (knows s g)), []) := by
  obtain ⟨h0, ka, ki⟩ := h
  have hbl := hs.b
  have hgl := hs.g
  have h2 := slices_Contains_int_int.says ki s.gone g (by omega)
  refine run_code (b := impl_Knows.m) h0 ⟨s.boxes.length + 1, ?_⟩
  have er : (s.boxes.map encBox).length = s.boxes.length := by simp
  obtain ⟨g', hr⟩ := early_loop (f := exC (run M) (s.boxes.length + 1) impl_Knows.l0) s.boxes.length (pAt (knwB g) s.boxes) (knS s g) 4 (.bool true) 0 (knE s g)
    (fun i hi x c => by
      rw [pAt_at _ _ _ hi] at c
      have hb := hs.i _ (List.getElem_mem hi)
      have h3 := impl_MailAt.says ka s.boxes[i] g hb.m
      have h4 := slices_Contains_int_int.says ki s.boxes[i].gone g (by have := hb.g; omega)
      have e5 := wrap1 (i := i) (by omega)
      have a1 : ∀ hh, (s.boxes.map encBox)[i]'hh = encBox s.boxes[i] := by intro hh; simp
      unfold knwB knowsB at c
      simp only [Bool.or_eq_false_iff, decide_eq_false_iff_not] at c
      obtain ⟨c0, c1, c2⟩ := c
      have c2' : decide (g ∈ s.boxes[i].gone) = false := decide_eq_false c2
      rw [c2'] at h4
      have c3 : ¬ (0 : Int) ≤ intO (mailO s.boxes[i].mails g) := by
        have := intO_nonneg (mailO s.boxes[i].mails g)
        rw [c1] at this; simpa using this
      simp only [knS, encStore, boxes, ints]
      simp only [encBox, mails, ints] at h3 h4 a1
      generalize intO (mailO s.boxes[i].mails g) = z at *
      generalize s.boxes.map encBox = rb at *
      generalize s.boxes[i].mails.map encMail = rm at *
      generalize irow s.boxes[i].gone = rg at *
      simp (maxSteps := 1000000) [impl_Knows.l0, bs_get, List.take_of_length_le, setAt, str_add, hi, c0, h3, h4, c3, e5, er, a1])
    (fun i hi x c => by
      rw [pAt_at _ _ _ hi] at c
      have hb := hs.i _ (List.getElem_mem hi)
      have h3 := impl_MailAt.says ka s.boxes[i] g hb.m
      have h4 := slices_Contains_int_int.says ki s.boxes[i].gone g (by have := hb.g; omega)
      have a1 : ∀ hh, (s.boxes.map encBox)[i]'hh = encBox s.boxes[i] := by intro hh; simp
      unfold knwB knowsB at c
      have c3 := intO_nonneg (mailO s.boxes[i].mails g)
      simp only [knS, encStore, boxes, ints]
      simp only [encBox, mails, ints] at h3 h4 a1
      generalize intO (mailO s.boxes[i].mails g) = z at *
      generalize (mailO s.boxes[i].mails g).isSome = w at *
      generalize decide (g ∈ s.boxes[i].gone) = w2 at *
      generalize s.boxes.map encBox = rb at *
      generalize s.boxes[i].mails.map encMail = rm at *
      generalize irow s.boxes[i].gone = rg at *
      by_cases c0 : s.boxes[i].gid = g
      · simp (maxSteps := 1000000) [impl_Knows.l0, bs_get, List.take_of_length_le, setAt, str_add, hi, c0, er, a1]
      rw [decide_eq_false c0] at c
      cases w
      · simp only [decide_eq_false_iff_not] at c3
        simp only [Bool.false_or] at c
        subst c
        simp (maxSteps := 1000000) [impl_Knows.l0, bs_get, List.take_of_length_le, setAt, str_add, hi, c0, h3, h4, c3, er, a1]
      · simp only [decide_eq_true_eq] at c3
        simp (maxSteps := 1000000) [impl_Knows.l0, bs_get, List.take_of_length_le, setAt, str_add, hi, c0, h3, c3, er, a1])
    (fun x => by
      simp only [knS, knE, encStore, boxes, ints]
      generalize s.boxes.map encBox = rb at *
      simp (maxSteps := 1000000) [impl_Knows.l0, bs_get, List.take_of_length_le, setAt, str_add, er])
  have hany : knows s g = ((firstN (pAt (knwB g) s.boxes) s.boxes.length).isSome || decide (g ∈ s.gone)) := by
    unfold knows
    rw [boxO_any, ← any_first2]
    have : s.boxes.any (knwB g) = ((s.boxes.any fun b => decide (b.gid = g)) || s.boxes.any fun b => knowsB b g) := by
      induction s.boxes with
      | nil => rfl
      | cons x l ih =>
        simp only [List.any_cons, ih, knwB]
        cases decide (x.gid = g) <;> cases knowsB x g <;> simp
    rw [this]
    generalize (s.boxes.any fun b => decide (b.gid = g)) = p
    generalize (s.boxes.any fun b => knowsB b g) = q
    cases p <;> cases q <;> cases decide (g ∈ s.gone) <;> rfl
  rw [hany]
  generalize decide (g ∈ s.gone) = w2 at *
  have ez : ((0 : Nat) : Int) = 0 := rfl
  cases hq : firstN (pAt (knwB g) s.boxes) s.boxes.length with
  | none =>
    simp only [knS, knE, hq, fin1, ez] at hr
    simp only [encStore, boxes, ints] at *
    simp (maxSteps := 1000000) [exB, impl_Knows.m, impl_Knows.b, bs_get, List.take_of_length_le, setAt, str_add, h2, hr]
  | some q =>
    simp only [knS, hq, fin1, ez] at hr
    simp only [encStore, boxes, ints] at *
    simp (maxSteps := 1000000) [exB, impl_Knows.m, impl_Knows.b, bs_get, List.take_of_length_le, setAt, str_add, h2, hr]
end Mx

namespace Mx
open Go
attribute [-simp] exC step stepE touch idsV idsO doCall
variable {M : Nat → Option Body}
theorem orElse_stamped (h : impl_orElse.k M) (s : Store) (i : Nat) (b : Box) (ho : StoreIn (stampedTo s i b)) (hs : StoreIn s) :
    run M 441 [.a [I s.who, I (s.time + 1), .sl false 7 ((s.boxes.map encBox).set i (encBox b)), ints s.gone], .a (encStore s)] [] = some (.tup [.a (encStore (stamped s i b).1), .c (.bool (stamped s i b).2)], []) := by
  have h1 := impl_orElse.says h (stampedTo s i b) s ho hs
  have e : encStore (stampedTo s i b) = [I s.who, I (s.time + 1), .sl false 7 ((s.boxes.map encBox).set i (encBox b)), ints s.gone] := by simp only [encStore, stampedTo, boxes, List.map_set]
  rw [e] at h1
  rw [h1]
  unfold stamped
  cases storeOk (stampedTo s i b) <;> rfl
set_option maxHeartbeats 4000000 in
theorem impl_PutMail.says (h : impl_PutMail.k M) (s : Store) (hs : StoreT s) (g m f : Int) (x : List UInt8) :
    run M 410 [.a (encStore s), .c (I g), .c (I m), .c (I f), .c (S x)] [] = some (.tup [.a (encStore (putMail s g m f x).1), .c (.bool (putMail s g m f x).2)], []) := by
  obtain ⟨h0, ka, kb, ko, kc, kk, kn, kst⟩ := h
  have ht := hs.time
  have e5 : IntKind.i64.wrap (s.time + 1) = s.time + 1 := wrap_i64 (by omega) (by omega)
  have h1 := impl_BoxAt.says kb s g hs.in_.b
  have h2 := impl_StoreOk.says ko s hs.in_
  have h3 := impl_Knows.says kk s m hs.in_
  have h4 := impl_copyStore.says kc s hs.in_
  have h5 := impl_NextStamp.says kn s hs.time
  have er : (s.boxes.map encBox).length = s.boxes.length := by simp
  have eg := irow_length s.gone
  refine run_code (b := impl_PutMail.m) h0 ⟨0, ?_⟩
  unfold putMail
  cases c1 : storeOk s with
  | false =>
    rw [c1] at h2
    simp only [Bool.false_eq_true, false_and, if_false]
    simp only [encStore, encStoreO, boxes, ints] at *
    generalize s.boxes.map encBox = rb at *
    generalize irow s.gone = rs at *
    simp (maxSteps := 1000000) [exB, impl_PutMail.m, impl_PutMail.b, bs_get, List.take_of_length_le, setAt, str_add, h1, h2, h4, er, eg]
  | true =>
    rw [c1] at h2
    cases c2 : knows s m with
    | true =>
      rw [c2] at h3
      simp only [Bool.true_eq_false, and_false, if_false]
      simp only [encStore, encStoreO, boxes, ints] at *
      generalize s.boxes.map encBox = rb at *
      generalize irow s.gone = rs at *
      simp (maxSteps := 1000000) [exB, impl_PutMail.m, impl_PutMail.b, bs_get, List.take_of_length_le, setAt, str_add, h1, h2, h3, h4, er, eg]
    | false =>
      rw [c2] at h3
      rw [if_pos ⟨rfl, rfl⟩]
      cases c3 : boxO s.boxes g with
      | none =>
        rw [c3] at h1
        rw [at_none c3]
        simp only [encStore, encStoreO, boxes, ints, intO] at *
        generalize s.boxes.map encBox = rb at *
        generalize irow s.gone = rs at *
        simp (maxSteps := 1000000) [exB, impl_PutMail.m, impl_PutMail.b, bs_get, List.take_of_length_le, setAt, str_add, h1, h2, h3, h4, er, eg]
      | some i =>
        rw [c3] at h1
        obtain ⟨hi, _⟩ := boxO_some c3
        rw [at_some c3 hi]
        have hG := (storeOk_good c1).boxes.good _ (List.getElem_mem hi)
        have h6 := impl_AddMail.says ka s.boxes[i] hG.inB m f x (s.time + 1) s.who
        have hin := addMail_in hG.inB m f x (s.time + 1) s.who
        have h7 := orElse_stamped kst s i (addMail s.boxes[i] m f x (s.time + 1) s.who).1 (stampedTo_in hs.in_ hi hin (by have := good_gids c1; have := addMail_small hG m f x (s.time + 1) s.who; omega)) hs.in_
        have a1 : ∀ hh, (s.boxes.map encBox)[i]'hh = encBox s.boxes[i] := by intro hh; simp
        have ni : ¬ (i : Int) < 0 := by omega
        generalize addMail s.boxes[i] m f x (s.time + 1) s.who = A at *
        obtain ⟨b', ok⟩ := A
        generalize stamped s i b' = B at *
        obtain ⟨s', ok'⟩ := B
        have er2 : (s'.boxes.map encBox).length = s'.boxes.length := by simp
        have eg2 := irow_length s'.gone
        simp only [encStore, encStoreO, boxes, ints, intO] at h1 h2 h3 h4 h5 h7 ⊢
        simp only [encBox, encBoxO, mails, ints] at h6 h7 a1
        generalize hrb : s.boxes.map encBox = rb at *
        generalize hrs : irow s.gone = rs at *
        generalize s.boxes[i].mails.map encMail = r1 at *
        generalize irow s.boxes[i].gone = r2 at *
        generalize b'.mails.map encMail = r3 at *
        generalize irow b'.gone = r4 at *
        cases ok
        · simp only [Bool.false_eq_true, if_false]
          simp (maxSteps := 1000000) [exB, impl_PutMail.m, impl_PutMail.b, bs_get, List.take_of_length_le, setAt, str_add, hi, ni, h1, h2, h3, h4, h5, h6, er, eg, a1]
          exact ⟨hrb.symm, hrs.symm⟩
        · simp only [if_true]
          generalize s'.boxes.map encBox = rb' at *
          generalize irow s'.gone = rs' at *
          simp (maxSteps := 1000000) [exB, impl_PutMail.m, impl_PutMail.b, bs_get, List.take_of_length_le, setAt, str_add, hi, ni, h1, h2, h3, h4, h5, h6, h7, e5, er, eg, er2, eg2, a1]
set_option maxHeartbeats 4000000 in
theorem impl_RenameBox.says (h : impl_RenameBox.k M) (s : Store) (hs : StoreT s) (g : Int) (nm : List UInt8) (hn : nm.length ≤ 1048576) :
    run M 411 [.a (encStore s), .c (I g), .c (S nm)] [] = some (.tup [.a (encStore (renameBox s g nm).1), .c (.bool (renameBox s g nm).2)], []) := by
  obtain ⟨h0, kb, ko, kc, kn, kst, koe⟩ := h
  have ht := hs.time
  have h1 := impl_BoxAt.says kb s g hs.in_.b
  have h2 := impl_StoreOk.says ko s hs.in_
  have h3 := impl_BoxNamed.says kn s nm hs.in_.b
  have h4 := impl_copyStore.says kc s hs.in_
  have h5 := impl_NextStamp.says kst s hs.time
  have er : (s.boxes.map encBox).length = s.boxes.length := by simp
  have eg := irow_length s.gone
  have e5 : IntKind.i64.wrap (s.time + 1) = s.time + 1 := wrap_i64 (by omega) (by omega)
  refine run_code (b := impl_RenameBox.m) h0 ⟨0, ?_⟩
  unfold renameBox
  cases c1 : storeOk s with
  | false =>
    rw [c1] at h2
    simp only [Bool.false_eq_true, false_and, if_false]
    simp only [encStore, encStoreO, boxes, ints] at *
    generalize s.boxes.map encBox = rb at *
    generalize irow s.gone = rs at *
    simp (maxSteps := 1000000) [exB, impl_RenameBox.m, impl_RenameBox.b, bs_get, List.take_of_length_le, setAt, str_add, h1, h2, h4, er, eg]
  | true =>
    rw [c1] at h2
    cases c3 : boxO s.boxes g with
    | none =>
      rw [c3] at h1
      have e : (if true = true ∧ (named s.boxes nm).isSome = false then at_ s g fun i b => stamped s i (renamedB s nm b) else (s, false)) = (s, false) := by
        rw [at_none c3]; split <;> rfl
      rw [e]
      simp only [encStore, encStoreO, boxes, ints, intO] at *
      generalize s.boxes.map encBox = rb at *
      generalize irow s.gone = rs at *
      simp (maxSteps := 1000000) [exB, impl_RenameBox.m, impl_RenameBox.b, bs_get, List.take_of_length_le, setAt, str_add, h1, h2, h4, er, eg]
    | some i =>
      rw [c3] at h1
      obtain ⟨hi, _⟩ := boxO_some c3
      have ni : ¬ (i : Int) < 0 := by omega
      have c0 := intO_nonneg (named s.boxes nm)
      cases c2 : (named s.boxes nm).isSome with
      | true =>
        rw [c2] at c0
        simp only [decide_eq_true_eq] at c0
        simp only [Bool.true_eq_false, and_false, if_false]
        generalize intO (named s.boxes nm) = z at *
        simp only [encStore, encStoreO, boxes, ints, intO] at *
        generalize s.boxes.map encBox = rb at *
        generalize irow s.gone = rs at *
        simp (maxSteps := 1000000) [exB, impl_RenameBox.m, impl_RenameBox.b, bs_get, List.take_of_length_le, setAt, str_add, ni, c0, h1, h2, h3, h4, er, eg]
      | false =>
        rw [c2] at c0
        simp only [decide_eq_false_iff_not] at c0
        rw [if_pos ⟨rfl, rfl⟩, at_some c3 hi]
        have hG := (storeOk_good c1).boxes.good _ (List.getElem_mem hi)
        have hin : BoxIn (renamedB s nm s.boxes[i]) := ⟨hG.inB.m, hG.inB.g, hn, hG.inB.f⟩
        have h6 := orElse_stamped koe s i (renamedB s nm s.boxes[i]) (stampedTo_in hs.in_ hi hin (by have := good_gids c1; have := hG.len; simp only [renamedB]; omega)) hs.in_
        have a1 : ∀ hh, (s.boxes.map encBox)[i]'hh = encBox s.boxes[i] := by intro hh; simp
        generalize stamped s i (renamedB s nm s.boxes[i]) = B at *
        obtain ⟨s', ok'⟩ := B
        generalize intO (named s.boxes nm) = z at *
        simp only [encStore, encStoreO, boxes, ints, intO] at h1 h2 h3 h4 h5 h6 ⊢
        simp only [encBox, mails, ints, renamedB] at h6 a1 ⊢
        generalize s'.boxes.map encBox = rb' at *
        generalize irow s'.gone = rs' at *
        generalize s.boxes.map encBox = rb at *
        generalize irow s.gone = rs at *
        generalize s.boxes[i].mails.map encMail = r1 at *
        generalize irow s.boxes[i].gone = r2 at *
        simp (maxSteps := 1000000) [exB, impl_RenameBox.m, impl_RenameBox.b, bs_get, List.take_of_length_le, setAt, str_add, hi, ni, c0, h1, h2, h3, h4, h5, h6, e5, er, eg, a1]
end Mx

namespace Mx
open Go
attribute [-simp] exC step stepE touch idsV idsO doCall
variable {M : Nat → Option Body}
set_option maxHeartbeats 4000000 in
theorem slices_Delete_boxes (h : slices_Delete_impl_Box_impl_Box.k M) (p : List (List T)) (x : List T) (q : List (List T)) (hl : p.length + (q.length + 1) ≤ 1048576) :
    run M 442 [.c (.row 0 0 0 (p.length + (q.length + 1))), .c (I p.length), .c (I ((p.length : Int) + 1))] [(0, ⟨0, 7, true, false, p ++ x :: q⟩)] =
      some (.c (.row 0 0 0 (p.length + q.length)), [(0, ⟨0, 7, true, false, p ++ q ++ [bzero]⟩)]) := by
  refine run_code (b := slices_Delete_impl_Box_impl_Box.m) h ⟨0, ?_⟩
  obtain ⟨q', y, hy, hq'⟩ := last_of x q
  have g1 : (0 : Int) ≤ (p.length : Int) + 1 := by omega
  have g2 : ¬ (p.length : Int) = (p.length : Int) + 1 := by omega
  have g3 : (p ++ x :: q).take p.length = p := by simp
  have g4 : (p ++ x :: q).drop (p.length + 1) = q := by simp
  have g5 : (p ++ x :: q).drop (p.length + q.length) = [y] := by
    rw [hy, ← hq', List.drop_append]; simp
  have g6 : p.length + (q.length + 1) - (p.length + 1) = q.length := by omega
  have g7 : (p ++ x :: q).length = p.length + (q.length + 1) := by simp
  have g8 : p.length + (q.length + 1) - (p.length + q.length) = 1 := by omega
  have g9 : p.length + q.length ≤ p.length + (q.length + 1) := by omega
  have g10 : p.length + q.length ≤ 4294967296 := by omega
  have g11 : ¬ p.length + q.length = p.length + (q.length + 1) := by omega
  have g12 : (p ++ q ++ [y]).length = p.length + (q.length + 1) := by simp
  have g13 : (p ++ q ++ [y]).take (p.length + q.length) = p ++ q := by rw [← List.length_append, List.take_left]
  have g19 : (1 : Int) ≤ (q.length : Int) + 1 := by omega
  have g20 : 1 ≤ q.length + 1 := by omega
  have g14 : (p ++ q ++ [y]).drop (p.length + (q.length + 1)) = [] := List.drop_eq_nil_of_le (by rw [g12]; omega)
  have g15 : p.length + 1 ≤ p.length + (q.length + 1) := by omega
  have g16 : p.length + q.length + 1 = p.length + (q.length + 1) := by omega
  have g17 : (0 : Int) ≤ (p.length : Int) + (q.length : Int) := by omega
  have g18 : (0 : Int) ≤ (p.length : Int) + ((q.length : Int) + 1) := by omega
  have g21 : p.length + 1 + q.length ≤ p.length + (q.length + 1) := by omega
  have g22 : 1 + q.length ≤ q.length + 1 := by omega
  generalize hR : p ++ x :: q = R at *
  simp only [List.append_assoc] at g12 g13 g14
  by_cases hq0 : q = []
  · subst hq0
    by_cases hz : p.length = 0
    · have hp : p = [] := List.eq_nil_of_length_eq_zero hz
      subst hp
      simp at g1 g2 g3 g4 g5 g6 g7 g8 g9 g10 g11 g12 g13 g14 g15 g16 g17 g18
      simp (maxSteps := 1000000) (disch := (first | omega | (simp; done) | (simp; omega))) [exB, slices_Delete_impl_Box_impl_Box.m, slices_Delete_impl_Box_impl_Box.b, bs_get, List.take_of_length_le, setAt, str_add, g1, g2, g3, g4, g5, g6, g7, g8, g9, g10, g11, g12, g13, g14, g15, g16, g17, g18, g19, g20]
    · simp at g1 g2 g3 g4 g5 g6 g7 g8 g9 g10 g11 g12 g13 g14 g15 g16 g17 g18
      simp (maxSteps := 1000000) (disch := (first | omega | (simp; done) | (simp; omega))) [exB, slices_Delete_impl_Box_impl_Box.m, slices_Delete_impl_Box_impl_Box.b, bs_get, List.take_of_length_le, setAt, str_add, g1, g2, g3, g4, g5, g6, g7, g8, g9, g10, g11, g12, g13, g14, g15, g16, g17, g18, g19, g20, hz]
  · have g23 : ((p.length : Int) + (q.length : Int)).toNat = p.length + q.length := by omega
    have g24 : ((p.length : Int) + ((q.length : Int) + 1)).toNat = p.length + (q.length + 1) := by omega
    have g25 : max ((p.length : Int) + (q.length : Int)) 0 ≤ (p.length : Int) + ((q.length : Int) + 1) := by omega
    by_cases hz : p.length = 0
    · have hp : p = [] := List.eq_nil_of_length_eq_zero hz
      subst hp
      simp at g1 g2 g3 g4 g5 g6 g7 g8 g9 g10 g11 g12 g13 g14 g15 g16 g17 g18
      simp (maxSteps := 1000000) (disch := (first | omega | (simp; done) | (simp; omega))) [exB, slices_Delete_impl_Box_impl_Box.m, slices_Delete_impl_Box_impl_Box.b, bs_get, List.take_of_length_le, setAt, str_add, g1, g2, g3, g4, g5, g6, g7, g8, g9, g10, g11, g12, g13, g14, g15, g16, g17, g18, g19, g20, g22, hq0]
    · simp (maxSteps := 1000000) (disch := (first | omega | (simp; done) | (simp; omega))) [exB, slices_Delete_impl_Box_impl_Box.m, slices_Delete_impl_Box_impl_Box.b, bs_get, List.take_of_length_le, setAt, str_add, g1, g2, g3, g4, g5, g6, g7, g8, g9, g10, g11, g12, g13, g14, g15, g16, g17, g18, g19, g20, g21, g23, g24, g25, hz, hq0]
theorem slices_Delete_box (h : slices_Delete_impl_Box_impl_Box.k M) (r : List (List T)) (k : Nat) (hk : k < r.length) (hl : r.length ≤ 1048576) :
    run M 442 [.c (.row 0 0 0 r.length), .c (I k), .c (I ((k : Int) + 1))] [(0, ⟨0, 7, true, false, r⟩)] =
      some (.c (.row 0 0 0 (r.length - 1)), [(0, ⟨0, 7, true, false, r.take k ++ r.drop (k + 1) ++ [bzero]⟩)]) := by
  have e : r.take k ++ r[k] :: r.drop (k + 1) = r := by simp
  have := slices_Delete_boxes h (r.take k) r[k] (r.drop (k + 1)) (by simp; omega)
  rw [e] at this
  have e1 : (r.take k).length = k := by simp; omega
  have e2 : (r.drop (k + 1)).length = r.length - (k + 1) := by simp
  rw [e1, e2] at this
  have e3 : k + (r.length - (k + 1) + 1) = r.length := by omega
  have e4 : k + (r.length - (k + 1)) = r.length - 1 := by omega
  rw [e3, e4] at this
  exact this
set_option maxHeartbeats 4000000 in
theorem impl_DropBox.says (h : impl_DropBox.k M) (s : Store) (hs : StoreT s) (g : Int) :
    run M 412 [.a (encStore s), .c (I g)] [] = some (.tup [.a (encStore (dropBox s g).1), .c (.bool (dropBox s g).2)], []) := by
  obtain ⟨h0, kb, ko, kp, kc, kd⟩ := h
  have h1 := impl_BoxAt.says kb s g hs.in_.b
  have h2 := impl_StoreOk.says ko s hs.in_
  have h4 := impl_copyStore.says kc s hs.in_
  have h5 := impl_added.says kp s.gone g hs.in_.g
  have er : (s.boxes.map encBox).length = s.boxes.length := by simp
  have eg := irow_length s.gone
  have hbl := hs.in_.b
  refine run_code (b := impl_DropBox.m) h0 ⟨0, ?_⟩
  unfold dropBox
  cases c1 : storeOk s with
  | false =>
    rw [c1] at h2
    simp only [Bool.false_eq_true, false_and, if_false]
    simp only [encStore, encStoreO, boxes, ints] at *
    generalize s.boxes.map encBox = rb at *
    generalize irow s.gone = rs at *
    simp (maxSteps := 1000000) [exB, impl_DropBox.m, impl_DropBox.b, bs_get, List.take_of_length_le, setAt, str_add, h1, h2, h4, er, eg]
  | true =>
    rw [c1] at h2
    cases c3 : boxO s.boxes g with
    | none =>
      rw [c3] at h1
      have e : (if true = true ∧ s.gone.length < 20 then at_ s g fun i _ => ({ s with boxes := s.boxes.take i ++ s.boxes.drop (i + 1), gone := gput s.gone g }, true) else (s, false)) = (s, false) := by
        rw [at_none c3]; split <;> rfl
      rw [e]
      simp only [encStore, encStoreO, boxes, ints, intO] at *
      generalize s.boxes.map encBox = rb at *
      generalize irow s.gone = rs at *
      simp (maxSteps := 1000000) [exB, impl_DropBox.m, impl_DropBox.b, bs_get, List.take_of_length_le, setAt, str_add, h1, h2, h4, er, eg]
    | some i =>
      rw [c3] at h1
      obtain ⟨hi, _⟩ := boxO_some c3
      have ni : ¬ (i : Int) < 0 := by omega
      by_cases c2 : s.gone.length < 20
      · have n2 : ¬ s.gone.length = 20 := by omega
        have n3 : ¬ (s.gone.length : Int) = 20 := by omega
        rw [if_pos ⟨rfl, c2⟩, at_some c3 hi]
        rw [added_eq (storeOk_iff.1 c1).gone] at h5
        have h6 := slices_Delete_box kd (s.boxes.map encBox) i (by rw [er]; exact hi) (by rw [er]; exact hbl)
        rw [er] at h6
        have e9 := wrap1 (i := i) (by omega)
        have e10 : (s.boxes.take i ++ s.boxes.drop (i + 1)).map encBox = (s.boxes.map encBox).take i ++ (s.boxes.map encBox).drop (i + 1) := by simp [List.map_take, List.map_drop]
        have e11 : ((s.boxes.map encBox).take i ++ ((s.boxes.map encBox).drop (i + 1) ++ [bzero])).take (s.boxes.length - 1) = (s.boxes.map encBox).take i ++ (s.boxes.map encBox).drop (i + 1) := by
          rw [← List.append_assoc]; exact List.take_left' (by simp; omega)
        have e12 := irow_length (gput s.gone g)
        have e13 : s.boxes.length ≤ min i s.boxes.length + (s.boxes.length - (i + 1) + 1) + 1 := by omega
        simp only [encStore, encStoreO, boxes, ints, intO, e10] at h1 h2 h4 h5 h6 ⊢
        generalize irow (gput s.gone g) = rp at *
        generalize s.boxes.map encBox = rb at *
        generalize irow s.gone = rs at *
        simp (maxSteps := 1000000) [exB, impl_DropBox.m, impl_DropBox.b, bs_get, List.take_of_length_le, setAt, str_add, hi, ni, n2, n3, h1, h2, h4, h5, h6, e9, e11, e12, e13, er, eg]
      · have c2' : (s.gone.length : Int) = 20 := by have := (storeOk_iff.1 c1).goneL; omega
        have c2'' : s.gone.length = 20 := by have := (storeOk_iff.1 c1).goneL; omega
        simp only [c2, and_false, if_false]
        simp only [encStore, encStoreO, boxes, ints, intO] at *
        generalize s.boxes.map encBox = rb at *
        generalize irow s.gone = rs at *
        simp (maxSteps := 1000000) [exB, impl_DropBox.m, impl_DropBox.b, bs_get, List.take_of_length_le, setAt, str_add, ni, c2', c2'', h1, h2, h4, er, eg]
end Mx

namespace Mx
open Go
attribute [-simp] exC step stepE touch idsV idsO doCall
variable {M : Nat → Option Body}
theorem tw_at (p : Box → Bool) : ∀ l : List Box, (∀ i (h : i < l.length), i < (l.takeWhile p).length → p l[i] = true) ∧ (∀ h : (l.takeWhile p).length < l.length, p l[(l.takeWhile p).length] = false)
  | [] => ⟨fun i h => by simp at h, fun h => by simp at h⟩
  | x :: l => by
    obtain ⟨h1, h2⟩ := tw_at p l
    by_cases c : p x = true
    · simp only [List.takeWhile_cons, c, if_true, List.length_cons]
      refine ⟨fun i h hi => ?_, fun h => ?_⟩
      · cases i with
        | zero => simpa using c
        | succ i => simpa using h1 i (by simpa using h) (by omega)
      · simpa using h2 (by omega)
    · have c' : p x = false := by simpa using c
      simp only [List.takeWhile_cons, c', Bool.false_eq_true, if_false, List.length_nil]
      exact ⟨fun i h hi => by omega, fun _ => by simpa using c'⟩
theorem tw_len (p : Box → Bool) (l : List Box) : (l.takeWhile p).length ≤ l.length := by
  have := congrArg List.length (List.takeWhile_append_dropWhile (p := p) (l := l))
  simp only [List.length_append] at this; omega
theorem tw_take (p : Box → Bool) (l : List Box) : l.take (l.takeWhile p).length = l.takeWhile p := by
  have := List.takeWhile_append_dropWhile (p := p) (l := l)
  exact (congrArg (List.take _) this.symm).trans (List.take_left' rfl)
theorem tw_drop (p : Box → Bool) (l : List Box) : l.drop (l.takeWhile p).length = l.dropWhile p := by
  have := List.takeWhile_append_dropWhile (p := p) (l := l)
  exact (congrArg (List.drop _) this.symm).trans (List.drop_left' rfl)
theorem tw_filter (g : Int) : ∀ l : List Box, (l.Pairwise fun x y => x.gid < y.gid) → (∀ b ∈ l, b.gid ≠ g) →
    l.takeWhile (fun b => decide (b.gid < g)) = l.filter (fun b => decide (b.gid < g)) ∧ l.dropWhile (fun b => decide (b.gid < g)) = l.filter (fun b => decide (g < b.gid))
  | [], _, _ => ⟨rfl, rfl⟩
  | x :: l, ha, hn => by
    rw [List.pairwise_cons] at ha
    obtain ⟨h1, h2⟩ := tw_filter g l ha.2 fun b hb => hn b (List.mem_cons_of_mem _ hb)
    have hx := hn x (List.mem_cons_self ..)
    by_cases c : x.gid < g
    · have c' : ¬ g < x.gid := by omega
      simp only [List.takeWhile_cons, List.dropWhile_cons, List.filter_cons, c, c', decide_true, decide_false, if_true, Bool.false_eq_true, if_false, h1, h2, and_self]
    · have c' : g < x.gid := by omega
      simp only [List.takeWhile_cons, List.dropWhile_cons, List.filter_cons, c, c', decide_true, decide_false, if_true, Bool.false_eq_true, if_false]
      have f1 : l.filter (fun b => decide (b.gid < g)) = [] := List.filter_eq_nil_iff.2 fun b hb => by have := ha.1 b hb; simp; omega
      have f2 : l.filter (fun b => decide (g < b.gid)) = l := List.filter_eq_self.2 fun b hb => by have := ha.1 b hb; simp; omega
      rw [f1, f2]; exact ⟨rfl, rfl⟩
structure KbC where
  s : Store
  g : Int
  nm : List UInt8
  u3 : Nat
  u6 : Nat
  u8 : Nat
  w2 : Nat
  w3 : Nat
def kbO (c : KbC) : List (Nat × Ob) := [(3, ⟨c.u3, 4, true, true, [encStore c.s]⟩), (6, ⟨c.u6, 4, true, true, [szero]⟩), (8, ⟨c.u8, 4, true, true, [[I c.s.who, I c.s.time, .row 11102 c.w2 0 c.s.boxes.length, .row 11103 c.w3 0 c.s.gone.length]]⟩), (11102, ⟨c.w2, 7, true, false, c.s.boxes.map encBox⟩), (11103, ⟨c.w3, 1, true, false, irow c.s.gone⟩)]
def kbS (c : KbC) (i : Nat) (n : Nat) : St := { t := [(1, .c (I c.g)), (2, .c (S c.nm)), (3, .c (.ptr 3 c.u3 0 0)), (6, .c (.ptr 6 c.u6 0 0)), (8, .c (.ptr 8 c.u8 0 0)), (9, .c (I i))], o := kbO c, n := n }
def kbE (c : KbC) (i : Nat) (n : Nat) : St := { t := [(1, .c (I c.g)), (2, .c (S c.nm)), (3, .c (.ptr 3 c.u3 0 0)), (6, .c (.ptr 6 c.u6 0 0)), (8, .c (.ptr 8 c.u8 0 0)), (9, .c (I i)), (41, .c (.bool false))], o := kbO c, n := n }
theorem kb_loop (k : Nat) (c : KbC) (hl : c.s.boxes.length ≤ 1048576) :
    ∃ f : Nat → Nat, ∀ n, loopN (exC (run M) k impl_MakeBox.l0) ((c.s.boxes.takeWhile fun b => decide (b.gid < c.g)).length + 1) (kbS c 0 n) = some (.exit 0, kbE c (c.s.boxes.takeWhile fun b => decide (b.gid < c.g)).length (f n)) := by
  have er : (c.s.boxes.map encBox).length = c.s.boxes.length := by simp
  have htl := tw_len (fun b : Box => decide (b.gid < c.g)) c.s.boxes
  obtain ⟨t1, t2⟩ := tw_at (fun b : Box => decide (b.gid < c.g)) c.s.boxes
  generalize (c.s.boxes.takeWhile fun b => decide (b.gid < c.g)).length = at' at *
  exact count_loop (f := exC (run M) k impl_MakeBox.l0) at' (kbS c) 0 (kbE c at')
    (fun i hi n => by
      have hi2 : i < c.s.boxes.length := by omega
      have q := t1 i hi2 hi
      simp only [decide_eq_true_eq] at q
      have e5 := wrap1 (i := i) (by omega)
      have a1 : ∀ hh, (c.s.boxes.map encBox)[i]'hh = encBox c.s.boxes[i] := by intro hh; simp
      simp only [kbS, kbO, encStore, boxes, ints]
      simp only [encBox, mails, ints] at a1
      generalize c.s.boxes.map encBox = rb at *
      generalize irow c.s.gone = rs at *
      generalize c.s.boxes[i].mails.map encMail = r1 at *
      generalize irow c.s.boxes[i].gone = r2 at *
      simp (maxSteps := 1000000) [impl_MakeBox.l0, bs_get, List.take_of_length_le, setAt, str_add, hi2, q, e5, er, a1])
    (fun n => by
      simp only [kbS, kbE, kbO, encStore, boxes, ints]
      by_cases c9 : at' < c.s.boxes.length
      · have q := t2 c9
        simp only [decide_eq_false_iff_not] at q
        have a1 : ∀ hh, (c.s.boxes.map encBox)[at']'hh = encBox c.s.boxes[at'] := by intro hh; simp
        simp only [encBox, mails, ints] at a1
        generalize c.s.boxes.map encBox = rb at *
        generalize irow c.s.gone = rs at *
        generalize c.s.boxes[at'].mails.map encMail = r1 at *
        generalize irow c.s.boxes[at'].gone = r2 at *
        simp (maxSteps := 1000000) [impl_MakeBox.l0, bs_get, List.take_of_length_le, setAt, str_add, c9, q, er, a1]
      · generalize c.s.boxes.map encBox = rb at *
        generalize irow c.s.gone = rs at *
        simp (maxSteps := 1000000) [impl_MakeBox.l0, bs_get, List.take_of_length_le, setAt, str_add, c9, er])
theorem knows_gid {s : Store} {g : Int} (h : knows s g = false) : ∀ b ∈ s.boxes, b.gid ≠ g := by
  intro b hb e
  unfold knows at h
  rw [boxO_any] at h
  simp only [Bool.or_eq_false_iff, List.any_eq_false, decide_eq_true_eq] at h
  exact h.1.1 b hb e
theorem ins_row (h : M 440 = some (.ext insG)) (r : List (List T)) (x : List T) (i : Nat) (hi : i ≤ r.length) (hl : r.length ≤ 1048576) :
    run M 440 [.c (.row 0 0 0 r.length), .c (I i), .c (.row 2 2 0 1)] [(0, ⟨0, 7, true, false, r⟩), (2, ⟨2, 7, true, false, [x]⟩)] = some (.c (.sl true 7 (r.take i ++ [x] ++ r.drop i)), [(2, ⟨2, 7, true, false, [x]⟩)]) := by
  refine run_ext h ?_
  have h1 : (0 : Int) ≤ (i : Int) := by omega
  have h2 : (i : Int) ≤ (r.length : Int) := by omega
  simp only [insG, Int.toNat_natCast, List.length_singleton, Nat.le_refl, h1, h2, hl, and_self, if_true, List.take_length]
set_option maxHeartbeats 4000000 in
theorem impl_MakeBox.says (h : impl_MakeBox.k M) (s : Store) (hs : StoreT s) (g : Int) (nm : List UInt8) (hn : nm.length ≤ 1048576) :
    run M 409 [.a (encStore s), .c (I g), .c (S nm)] [] = some (.tup [.a (encStore (makeBox s g nm).1), .c (.bool (makeBox s g nm).2)], []) := by
  obtain ⟨h0, ko, kc, kn, kk, kst, ki, koe⟩ := h
  have ht := hs.time
  have hbl := hs.in_.b
  have h2 := impl_StoreOk.says ko s hs.in_
  have h3 := impl_BoxNamed.says kn s nm hs.in_.b
  have h7 := impl_Knows.says kk s g hs.in_
  have h4 := impl_copyStore.says kc s hs.in_
  have h5 := impl_NextStamp.says kst s hs.time
  have er : (s.boxes.map encBox).length = s.boxes.length := by simp
  have eg := irow_length s.gone
  have e5 : IntKind.i64.wrap (s.time + 1) = s.time + 1 := wrap_i64 (by omega) (by omega)
  have c0 := intO_nonneg (named s.boxes nm)
  refine run_code (b := impl_MakeBox.m) h0 ⟨(s.boxes.takeWhile fun b => decide (b.gid < g)).length + 1, ?_⟩
  unfold makeBox
  cases c1 : storeOk s with
  | false =>
    rw [c1] at h2
    simp only [Bool.false_eq_true, false_and, if_false]
    simp only [encStore, encStoreO, boxes, ints] at *
    generalize s.boxes.map encBox = rb at *
    generalize irow s.gone = rs at *
    simp (maxSteps := 1000000) [exB, impl_MakeBox.m, impl_MakeBox.b, bs_get, List.take_of_length_le, setAt, str_add, h2, h4, er, eg]
  | true =>
    rw [c1] at h2
    cases c2 : knows s g with
    | true =>
      rw [c2] at h7
      simp only [Bool.true_eq_false, false_and, and_false, if_false]
      simp only [encStore, encStoreO, boxes, ints] at *
      generalize s.boxes.map encBox = rb at *
      generalize irow s.gone = rs at *
      simp (maxSteps := 1000000) [exB, impl_MakeBox.m, impl_MakeBox.b, bs_get, List.take_of_length_le, setAt, str_add, h2, h4, h7, er, eg]
    | false =>
      rw [c2] at h7
      cases c3 : (named s.boxes nm).isSome with
      | true =>
        rw [c3] at c0
        simp only [decide_eq_true_eq] at c0
        simp only [Bool.true_eq_false, and_false, if_false]
        generalize intO (named s.boxes nm) = z at *
        simp only [encStore, encStoreO, boxes, ints] at *
        generalize s.boxes.map encBox = rb at *
        generalize irow s.gone = rs at *
        simp (maxSteps := 1000000) [exB, impl_MakeBox.m, impl_MakeBox.b, bs_get, List.take_of_length_le, setAt, str_add, c0, h2, h3, h4, h7, er, eg]
      | false =>
        rw [c3] at c0
        simp only [decide_eq_false_iff_not] at c0
        rw [if_pos ⟨rfl, rfl, rfl⟩]
        have h6 := impl_orElse.says koe (makeTo s g nm) s (makeTo_in c1 g nm hn) hs.in_
        obtain ⟨f, r1⟩ := kb_loop (M := M) ((s.boxes.takeWhile fun b => decide (b.gid < g)).length + 1) ⟨s, g, nm, 2000000, 2000016, 2000080, 2000066, 2000067⟩ hbl
        have hat := tw_len (fun b : Box => decide (b.gid < g)) s.boxes
        have h8 := ins_row ki (s.boxes.map encBox) (encBox (newBox s g nm)) (s.boxes.takeWhile fun b => decide (b.gid < g)).length (by rw [er]; exact hat) (by rw [er]; exact hbl)
        have em : (makeTo s g nm).boxes.map encBox = (s.boxes.map encBox).take (s.boxes.takeWhile fun b => decide (b.gid < g)).length ++ [encBox (newBox s g nm)] ++ (s.boxes.map encBox).drop (s.boxes.takeWhile fun b => decide (b.gid < g)).length := by
          obtain ⟨f1, f2⟩ := tw_filter g s.boxes (storeOk_iff.1 c1).asc (knows_gid c2)
          rw [← List.map_take, ← List.map_drop, tw_take, tw_drop, f1, f2]
          simp [makeTo]
        rw [← em, er] at h8
        have el : ((makeTo s g nm).boxes.map encBox).length = s.boxes.length + 1 := by rw [em]; simp; omega
        have ez : ((0 : Nat) : Int) = 0 := rfl
        have ew : (makeTo s g nm).who = s.who := rfl
        have et : (makeTo s g nm).time = s.time + 1 := rfl
        have egn : (makeTo s g nm).gone = s.gone := rfl
        have en : encBox (newBox s g nm) = [I g, S nm, I (s.time + 1), I s.who, I 1, .sl false 4 [], .sl false 1 []] := by simp [newBox, encBox, irow]
        have hres : (if storeOk (makeTo s g nm) = true then (makeTo s g nm, true) else (s, false)) = ((if storeOk (makeTo s g nm) = true then makeTo s g nm else s), storeOk (makeTo s g nm)) := by
          cases storeOk (makeTo s g nm) <;> rfl
        rw [hres]
        generalize hX : (if storeOk (makeTo s g nm) = true then makeTo s g nm else s) = X at *
        generalize storeOk (makeTo s g nm) = wX at *
        have hr0 := r1 2000352
        clear em hX
        simp only [kbS, kbE, kbO, ez] at hr0
        simp only [encStore, encStoreO, boxes, ints, ew, et, egn, en] at h2 h3 h4 h5 h6 h7 h8 hr0 ⊢
        generalize (makeTo s g nm).boxes.map encBox = rm at *
        generalize X.boxes.map encBox = rx at *
        generalize irow X.gone = gx at *
        generalize intO (named s.boxes nm) = z at *
        generalize s.boxes.map encBox = rb at *
        generalize irow s.gone = rs at *
        generalize (s.boxes.takeWhile fun b => decide (b.gid < g)).length = at' at *
        simp (maxSteps := 1000000) [exB, impl_MakeBox.m, impl_MakeBox.b, bs_get, List.take_of_length_le, setAt, str_add, c0, h2, h3, h4, h5, h6, h7, h8, hr0, e5, er, eg, el]
end Mx

namespace Mx
open Go
variable {M : Nat → Option Body}
theorem boxO_at {l : List Box} (hn : (gidsB l).Nodup) (i : Nat) (h : i < l.length) : boxO l l[i].gid = some i := by
  cases q : boxO l l[i].gid with
  | none => exact (boxIn_none.1 (boxO_none q) _ (List.getElem_mem h) rfl).elim
  | some k =>
    obtain ⟨hk, e⟩ := boxO_some q
    have := (boxIn_some e).2
    have hg : (gidsB l)[k]'(by simpa [gidsB] using hk) = (gidsB l)[i]'(by simpa [gidsB] using h) := by simpa [gidsB] using this
    rw [(List.getElem_inj hn).1 hg]
end Mx

namespace Mx
open Go
def fresh : List UInt8 := [102, 114, 101, 115, 104]
def inbox : List UInt8 := [105, 110, 98, 111, 120]
theorem fresh_not : ∀ nm ∈ names5, nm ≠ fresh := by decide
theorem named_any (l : List Box) (nm : List UInt8) : (named l nm).isSome = l.any fun b => decide (b.name = nm) := by
  unfold named; rw [List.findIdx?_isSome]
theorem named_fresh {n : Nat} {s : Store} (h : Used n s) : (named s.boxes fresh).isSome = false := by
  rw [named_any, List.any_eq_false]
  intro b hb
  have := fresh_not _ (h.box b hb).name
  simpa using this
theorem late_up {b : Box} {t : Int} (h : late b t = false) : late b (t + 1) = false := by
  unfold late lateM at h ⊢
  simp only [Bool.or_eq_false_iff, decide_eq_false_iff_not, List.any_eq_false, decide_eq_true_eq, List.any_eq_true, not_exists, not_and] at h ⊢
  refine ⟨by have := h.1; omega, fun m hm r hr => ?_⟩
  have := h.2 m hm r hr
  omega
theorem stamp_in {t w : Int} (ht : 0 ≤ t ∧ t ≤ 100000) (hw : 0 ≤ w ∧ w ≤ 2) : stampOk t w = true := by
  simp only [stampOk, inR, Bool.and_eq_true, decide_eq_true_eq]; omega
theorem set_gids {s : Store} {i : Nat} (hi : i < s.boxes.length) {b : Box} (hm : b.mails = s.boxes[i].mails) : (s.boxes.set i b).flatMap gidsOf = s.boxes.flatMap gidsOf := by
  have e : (s.boxes.set i b).map gidsOf = s.boxes.map gidsOf := by
    rw [List.map_set]; apply List.ext_getElem <;> simp [List.getElem_set]; intro j hj h2; subst h2; simp only [gidsOf, hm]
  rw [List.flatMap_def, List.flatMap_def, e]
theorem stampedTo_good {s : Store} (h : storeOk s = true) (ht : s.time + 1 ≤ 100000) {i : Nat} (hi : i < s.boxes.length) {b : Box} (hb : Good b) (hg : b.gid = s.boxes[i].gid) (hl : late b (s.time + 1) = false)
    (hn : ∀ j (hj : j < s.boxes.length), j ≠ i → s.boxes[j].name ≠ b.name) (hm : b.mails = s.boxes[i].mails) : storeOk (stampedTo s i b) = true := by
  have G := storeOk_iff.1 h
  have e1 : (s.boxes.set i b).map (·.gid) = s.boxes.map (·.gid) := by
    rw [List.map_set]; apply List.ext_getElem <;> simp [List.getElem_set]; intro j hj h2; subst h2; exact hg
  refine storeOk_iff.2 ⟨G.who, ⟨by have := G.time; simp only [stampedTo]; omega, ht⟩, by simpa [stampedTo] using G.len, G.gone, G.goneR, G.goneL, fun x hx => ?_, ?_, ?_, ?_⟩
  · rcases List.mem_or_eq_of_mem_set hx with q | q
    · obtain ⟨b1, b2, b3⟩ := G.box x q
      exact ⟨b1, b2, late_up b3⟩
    · subst q
      exact ⟨hb, by rw [hg]; exact (G.box _ (List.getElem_mem hi)).2.1, hl⟩
  · have : (s.boxes.map (·.gid)).Pairwise (fun a b : Int => a < b) := List.pairwise_map.2 G.asc
    rw [← e1] at this
    exact List.pairwise_map.1 this
  · refine List.pairwise_iff_getElem.2 fun p q hp hq hpq => ?_
    have hp' : p < s.boxes.length := by simpa [stampedTo] using hp
    have hq' : q < s.boxes.length := by simpa [stampedTo] using hq
    have := List.pairwise_iff_getElem.1 G.names p q hp' hq' hpq
    simp only [stampedTo, List.getElem_set]
    by_cases c1 : i = p
    · have c2 : ¬ i = q := by omega
      simp only [c1, if_true]
      rw [if_neg (by omega)]
      exact fun z => hn q hq' (by omega) z.symm
    · by_cases c2 : i = q
      · simp only [c2, if_true]
        rw [if_neg (by omega)]
        exact hn p hp' (by omega)
      · rw [if_neg c1, if_neg c2]; exact this
  · show ((s.boxes.set i b).flatMap gidsOf).Nodup
    rw [set_gids hi hm]; exact G.mails
theorem used_boxO {n : Nat} {s : Store} (h : Used n s) {i : Nat} (hi : i < s.boxes.length) : boxO s.boxes s.boxes[i].gid = some i := by
  refine boxO_at ?_ i hi
  have := (storeOk_iff.1 h.ok).asc
  exact (List.pairwise_map.2 (this.imp fun q => by omega))
theorem nameOk_fresh : nameOk fresh = true := by decide
theorem nameOk_inbox : nameOk inbox = true := by decide
theorem rename_fresh {s : Store} (h : Used 13 s) {i : Nat} (hi : i < s.boxes.length) :
    renameBox s s.boxes[i].gid fresh = (stampedTo s i (renamedB s fresh s.boxes[i]), true) ∧ storeOk (stampedTo s i (renamedB s fresh s.boxes[i])) = true := by
  have G := storeOk_iff.1 h.ok
  have ht := h.time
  have hw := G.who
  have g := (G.box _ (List.getElem_mem hi)).1
  have gl := (G.box _ (List.getElem_mem hi)).2.2
  have hok : storeOk (stampedTo s i (renamedB s fresh s.boxes[i])) = true := by
    refine stampedTo_good h.ok (by omega) hi ⟨g.gid, nameOk_fresh, stamp_in ⟨by have := G.time; simp only [renamedB]; omega, by simp only [renamedB]; omega⟩ ⟨by simp only [renamedB]; omega, by simp only [renamedB]; omega⟩, g.next, g.len, g.gone, g.goneR, g.goneL, g.mail, g.uids, g.gids⟩ rfl ?_ ?_ rfl
    · have := late_up gl
      unfold late at this ⊢
      simp only [Bool.or_eq_false_iff, decide_eq_false_iff_not] at this ⊢
      exact ⟨Int.lt_irrefl _, this.2⟩
    · intro j hj _
      exact fresh_not _ (h.box _ (List.getElem_mem hj)).name
  refine ⟨?_, hok⟩
  unfold renameBox
  rw [if_pos ⟨h.ok, named_fresh h⟩, at_some (used_boxO h hi) hi]
  unfold stamped
  rw [if_pos hok]
theorem drop_done {s : Store} (h : Used 13 s) {i : Nat} (hi : i < s.boxes.length) :
    dropBox s s.boxes[i].gid = ({ s with boxes := s.boxes.take i ++ s.boxes.drop (i + 1), gone := gput s.gone s.boxes[i].gid }, true) := by
  unfold dropBox
  rw [if_pos ⟨h.ok, by have := h.gone; omega⟩, at_some (used_boxO h hi) hi]
theorem used_gid {n : Nat} {s : Store} (h : Used n s) {i : Nat} (hi : i < s.boxes.length) : 100 ≤ s.boxes[i].gid ∧ s.boxes[i].gid ≤ 999 := (h.box _ (List.getElem_mem hi)).kn _ (.inl rfl)
theorem put_new {s : Store} (h : Used 13 s) {i : Nat} (hi : i < s.boxes.length) (f : Int) (x : List UInt8) :
    putMail s s.boxes[i].gid 9000 f x = (s, false) ∨ ∃ b : Box, putMail s s.boxes[i].gid 9000 f x = (stampedTo s i b, true) ∧ storeOk (stampedTo s i b) = true ∧ knows (stampedTo s i b) 9000 = true := by
  unfold putMail
  split
  rotate_left
  · exact .inl rfl
  rw [at_some (used_boxO h hi) hi]
  split
  rotate_left
  · exact .inl rfl
  rename_i c
  unfold stamped
  split
  rotate_left
  · exact .inl rfl
  rename_i c2
  refine .inr ⟨_, rfl, c2, knows_iff.2 (.inl ⟨(addMail s.boxes[i] 9000 f x (s.time + 1) s.who).1, ?_, .inr (.inr ?_)⟩)⟩
  · simp only [stampedTo]
    exact List.mem_set hi _
  · unfold addMail at c ⊢
    split at c
    · rename_i z
      rw [if_pos z]
      exact ⟨_, List.mem_append_right _ (List.mem_singleton.2 rfl), rfl⟩
    · cases c
theorem knows_new {s : Store} (h : Used 13 s) : knows s 9000 = false := by
  cases c : knows s 9000 with
  | false => rfl
  | true => have := h.all (knows_iff.1 c); omega
theorem make_first {s : Store} (h : Used 13 s) (he : s.boxes = []) : makeBox s 5 inbox = (makeTo s 5 inbox, true) ∧ storeOk (makeTo s 5 inbox) = true ∧ (makeTo s 5 inbox).boxes.length = 1 := by
  have G := storeOk_iff.1 h.ok
  have ht := h.time
  have hw := G.who
  have hk : knows s 5 = false := by
    cases c : knows s 5 with
    | false => rfl
    | true => have := h.all (knows_iff.1 c); omega
  have hn : (named s.boxes inbox).isSome = false := by rw [he]; rfl
  have hb : (makeTo s 5 inbox).boxes = [newBox s 5 inbox] := by simp [makeTo, he]
  have hg : ¬ (5 : Int) ∈ s.gone := fun z => by have := h.kn 5 z; omega
  have hok : storeOk (makeTo s 5 inbox) = true := by
    refine storeOk_iff.2 ⟨G.who, ⟨by have := G.time; simp only [makeTo]; omega, by simp only [makeTo]; omega⟩, by rw [hb]; simp, G.gone, G.goneR, G.goneL, ?_, by rw [hb]; exact List.pairwise_singleton .., by rw [hb]; exact List.pairwise_singleton .., by rw [hb]; simp [gidsOf, newBox]⟩
    rw [hb]
    intro b hbm
    rw [List.mem_singleton.1 hbm]
    refine ⟨⟨by simp [newBox], nameOk_inbox, stamp_in ⟨by have := G.time; simp only [newBox]; omega, by simp only [newBox]; omega⟩ ⟨by simp only [newBox]; omega, by simp only [newBox]; omega⟩, by simp [newBox], by simp [newBox], List.Pairwise.nil, by simp [newBox], by simp [newBox], by simp [newBox], List.Pairwise.nil, List.Pairwise.nil⟩, hg, ?_⟩
    simp [late, newBox, makeTo]
  refine ⟨?_, hok, by rw [hb]; rfl⟩
  unfold makeBox
  rw [if_pos ⟨h.ok, hk, hn⟩, if_pos hok]
theorem drop_at {s : Store} (h : Used 13 s) {i k : Nat} (hi : i < s.boxes.length) (hk : k < s.boxes.length) : (boxO (s.boxes.take i ++ s.boxes.drop (i + 1)) s.boxes[k].gid).isSome = decide (k ≠ i) := by
  have hasc := (storeOk_iff.1 h.ok).asc
  have inj : ∀ p q (hp : p < s.boxes.length) (hq : q < s.boxes.length), s.boxes[p].gid = s.boxes[q].gid → p = q := by
    intro p q hp hq e
    rcases Nat.lt_trichotomy p q with z | z | z
    · have := List.pairwise_iff_getElem.1 hasc p q hp hq z; omega
    · exact z
    · have := List.pairwise_iff_getElem.1 hasc q p hq hp z; omega
  by_cases c : k = i
  · subst c
    rw [decide_eq_false (by simp)]
    cases q : (boxO (s.boxes.take k ++ s.boxes.drop (k + 1)) s.boxes[k].gid).isSome with
    | false => rfl
    | true =>
      obtain ⟨b, hb, e⟩ := boxO_isSome.1 q
      rcases List.mem_append.1 hb with z | z
      · obtain ⟨j, hj, rfl⟩ := List.getElem_of_mem z
        simp only [List.length_take] at hj
        rw [List.getElem_take] at e
        have := inj j k (by omega) hk e; omega
      · obtain ⟨j, hj, rfl⟩ := List.getElem_of_mem z
        simp only [List.length_drop] at hj
        rw [List.getElem_drop] at e
        have := inj (k + 1 + j) k (by omega) hk e; omega
  · rw [decide_eq_true c]
    refine boxO_isSome.2 ⟨s.boxes[k], ?_, rfl⟩
    rcases Nat.lt_or_ge k i with z | z
    · exact List.mem_append_left _ (List.mem_take_iff_getElem.2 ⟨k, by omega, rfl⟩)
    · refine List.mem_append_right _ (List.mem_drop_iff_getElem.2 ⟨k - (i + 1), by omega, ?_⟩)
      congr 1; omega
theorem named_there {n : Nat} {s : Store} (h : Used n s) {i : Nat} (hi : i < s.boxes.length) {b : Box} (hb : b.name = fresh) : named (s.boxes.set i b) fresh = some i := by
  unfold named
  rw [List.findIdx?_eq_some_iff_getElem]
  refine ⟨by simpa using hi, by simpa using hb, fun j hj => ?_⟩
  have hj2 : j < s.boxes.length := by omega
  rw [List.getElem_set_ne (by omega)]
  have := fresh_not _ (h.box _ (List.getElem_mem hj2)).name
  simpa using this
theorem make_again {s : Store} {g : Int} (hg : g ∈ s.gone) (nm : List UInt8) : makeBox s g nm = (s, false) := by
  have : knows s g = true := knows_iff.2 (.inr hg)
  unfold makeBox
  rw [if_neg (by rw [this]; simp)]
end Mx

namespace Mx
open Go
attribute [-simp] exC step stepE touch idsV idsO doCall
variable {M : Nat → Option Body}
theorem spec_DrawStore.says (h : spec_DrawStore.k M) {R : List (List T)} (hR : Bytes R) :
    ∃ s : Store, Used 13 s ∧ run M 408 [.c (.sl false 1 R)] [] = some (.a (encStore s), []) := by
  obtain ⟨h0, k1, k2⟩ := h
  obtain ⟨q0, h1⟩ := spec_l01New.says k1 hR
  obtain ⟨s, i', q', ho, hi', h2⟩ := spec_l07Store.says k2 hR 0 q0 (Nat.zero_le _)
  have e0 : ((0 : Nat) : Int) = 0 := rfl
  simp only [curD, e0] at h2
  refine ⟨s, ho, run_code (b := spec_DrawStore.m) h0 ⟨0, ?_⟩⟩
  simp only [encStore, encStoreO, boxes, ints] at h2 ⊢
  generalize s.boxes.map encBox = ra at *
  generalize irow s.gone = ga at *
  simp (maxSteps := 1000000) [exB, spec_DrawStore.m, spec_DrawStore.b, bs_get, List.take_of_length_le, setAt, str_add, h1, h2]
structure LwC where
  s : Store
  a : Store
  b : Store
  c : Store
  g : Int
  i : Nat
  ok : Bool
  u3 : Nat
  u9 : Nat
  u11 : Nat
  u13 : Nat
def lwO (c : LwC) : List (Nat × Ob) := [(3, ⟨c.u3, 4, true, true, [encStore c.s]⟩), (9, ⟨c.u9, 4, true, true, [encStore c.a]⟩), (11, ⟨c.u11, 4, true, true, [encStore c.b]⟩), (13, ⟨c.u13, 4, true, true, [encStore c.c]⟩)]
def lwS (c : LwC) (k : Nat) (n : Nat) : St := { t := [(3, .c (.ptr 3 c.u3 0 0)), (7, .c (I c.i)), (8, .c (I c.g)), (9, .c (.ptr 9 c.u9 0 0)), (10, .c (.bool c.ok)), (11, .c (.ptr 11 c.u11 0 0)), (13, .c (.ptr 13 c.u13 0 0)), (15, .c (I k))], o := lwO c, n := n }
def lwE (c : LwC) (n : Nat) : St := { t := [(3, .c (.ptr 3 c.u3 0 0)), (7, .c (I c.i)), (8, .c (I c.g)), (9, .c (.ptr 9 c.u9 0 0)), (10, .c (.bool c.ok)), (11, .c (.ptr 11 c.u11 0 0)), (13, .c (.ptr 13 c.u13 0 0)), (15, .c (I c.s.boxes.length)), (118, .c (.bool false))], o := lwO c, n := n }
theorem lw_loop (kb : impl_BoxAt.k M) (ks : laws_sameBox.k M) (K : Nat) (c : LwC) (hl : c.s.boxes.length ≤ 1048576) (hin : ∀ b ∈ c.s.boxes, BoxIn b) (hcl : c.c.boxes.length ≤ 1048576)
    (ha : c.a.boxes.length = c.s.boxes.length ∧ ∀ k (h : k < c.s.boxes.length) (h2 : k < c.a.boxes.length), k ≠ c.i → c.a.boxes[k] = c.s.boxes[k])
    (hb : c.b.boxes.length = c.s.boxes.length ∧ ∀ k (h : k < c.s.boxes.length) (h2 : k < c.b.boxes.length), k ≠ c.i → c.b.boxes[k] = c.s.boxes[k])
    (hc : ∀ k (h : k < c.s.boxes.length), (boxO c.c.boxes c.s.boxes[k].gid).isSome = decide (k ≠ c.i)) :
    ∃ f : Nat → Nat, ∀ n, loopN (exC (run M) K laws_FnStores.l0) (c.s.boxes.length + 1) (lwS c 0 n) = some (.exit 0, lwE c (f n)) := by
  have er : (c.s.boxes.map encBox).length = c.s.boxes.length := by simp
  have ea : (c.a.boxes.map encBox).length = c.s.boxes.length := by rw [List.length_map]; exact ha.1
  have eb : (c.b.boxes.map encBox).length = c.s.boxes.length := by rw [List.length_map]; exact hb.1
  exact count_loop (f := exC (run M) K laws_FnStores.l0) c.s.boxes.length (lwS c) 0 (lwE c)
    (fun k hk n => by
      have h1 := impl_BoxAt.says kb c.c c.s.boxes[k].gid hcl
      have h2 := laws_sameBox.self ks c.s.boxes[k] (hin _ (List.getElem_mem hk))
      have e5 := wrap1 (i := k) (by omega)
      have a1 : ∀ hh, (c.s.boxes.map encBox)[k]'hh = encBox c.s.boxes[k] := by intro hh; simp
      have c0 := intO_nonneg (boxO c.c.boxes c.s.boxes[k].gid)
      rw [hc k hk] at c0
      by_cases q : k = c.i
      · have hd : decide (k ≠ c.i) = false := decide_eq_false (by simp [q])
        rw [hd] at c0
        simp only [decide_eq_false_iff_not] at c0
        subst q
        simp only [lwS, lwO, encStore, boxes, ints] at h1 ⊢
        simp only [encBox, mails, ints] at h2 a1
        generalize intO (boxO c.c.boxes c.s.boxes[c.i].gid) = z at *
        generalize c.s.boxes.map encBox = rb at *
        generalize irow c.s.gone = rs at *
        generalize c.a.boxes.map encBox = rb2 at *
        generalize irow c.a.gone = rs2 at *
        generalize c.b.boxes.map encBox = rb3 at *
        generalize irow c.b.gone = rs3 at *
        generalize c.c.boxes.map encBox = rb4 at *
        generalize irow c.c.gone = rs4 at *
        generalize c.s.boxes[c.i].mails.map encMail = r1 at *
        generalize irow c.s.boxes[c.i].gone = r2 at *
        simp (maxSteps := 1000000) [laws_FnStores.l0, bs_get, List.take_of_length_le, setAt, str_add, hk, c0, h1, e5, er, a1]
      · have hd : decide (k ≠ c.i) = true := decide_eq_true q
        rw [hd] at c0
        simp only [decide_eq_true_eq] at c0
        have c0' : ¬ intO (boxO c.c.boxes c.s.boxes[k].gid) < 0 := by omega
        have q' : ¬ (k : Int) = (c.i : Int) := by omega
        have a2 : ∀ hh : k < (c.a.boxes.map encBox).length, (c.a.boxes.map encBox)[k]'hh = encBox c.s.boxes[k] := by
          intro hh; rw [List.getElem_map, ha.2 k hk (by simpa using hh) q]
        have a3 : ∀ hh : k < (c.b.boxes.map encBox).length, (c.b.boxes.map encBox)[k]'hh = encBox c.s.boxes[k] := by
          intro hh; rw [List.getElem_map, hb.2 k hk (by simpa using hh) q]
        simp only [lwS, lwO, encStore, boxes, ints] at h1 ⊢
        simp only [encBox, mails, ints] at h2 a1 a2 a3
        generalize intO (boxO c.c.boxes c.s.boxes[k].gid) = z at *
        generalize c.s.boxes.map encBox = rb at *
        generalize irow c.s.gone = rs at *
        generalize c.a.boxes.map encBox = rb2 at *
        generalize irow c.a.gone = rs2 at *
        generalize c.b.boxes.map encBox = rb3 at *
        generalize irow c.b.gone = rs3 at *
        generalize c.c.boxes.map encBox = rb4 at *
        generalize irow c.c.gone = rs4 at *
        generalize c.s.boxes[k].mails.map encMail = r1 at *
        generalize irow c.s.boxes[k].gone = r2 at *
        simp (maxSteps := 1000000) [laws_FnStores.l0, bs_get, List.take_of_length_le, setAt, str_add, hk, q, q', c0, c0', h1, h2, e5, er, ea, eb, a1, a2, a3])
    (fun n => by
      simp only [lwS, lwE, lwO, encStore, boxes, ints]
      generalize c.s.boxes.map encBox = rb at *
      simp (maxSteps := 1000000) [laws_FnStores.l0, bs_get, List.take_of_length_le, setAt, str_add, er])
end Mx

namespace Mx
open Go
attribute [-simp] exC step stepE touch idsV idsO doCall
variable {M : Nat → Option Body}
def otherN : List UInt8 := [111, 116, 104, 101, 114]
def newN : List UInt8 := [110, 101, 119]
theorem set_same {l : List Box} {i : Nat} (b : Box) : (l.set i b).length = l.length ∧ ∀ k (h : k < l.length) (h2 : k < (l.set i b).length), k ≠ i → (l.set i b)[k] = l[k] :=
  ⟨List.length_set .., fun k h h2 hk => List.getElem_set_ne (fun e => hk e.symm) ..⟩
theorem put_part {s : Store} (h : Used 13 s) {i : Nat} (hi : i < s.boxes.length) (f : Int) : ∃ (a : Store) (ok : Bool), putMail s s.boxes[i].gid 9000 f newN = (a, ok) ∧ storeOk a = true ∧
    (a.boxes.length = s.boxes.length ∧ ∀ k (h : k < s.boxes.length) (h2 : k < a.boxes.length), k ≠ i → a.boxes[k] = s.boxes[k]) ∧ (ok = true → a.time = s.time + 1 ∧ knows a 9000 = true) := by
  rcases put_new h hi f newN with q | ⟨b, q, q2, q3⟩
  · exact ⟨s, false, q, h.ok, ⟨rfl, fun _ _ _ _ => rfl⟩, fun e => by cases e⟩
  · exact ⟨_, true, q, q2, set_same b, fun _ => ⟨rfl, q3⟩⟩
set_option maxHeartbeats 8000000 in
set_option maxRecDepth 100000 in
theorem laws_FnStores.says (h : laws_FnStores.k M) (R : List (List T)) (hl : R.length ≤ 9223372036854775807) (hr : ∀ (i : Nat) (r : List T), R[i]? = some r → ∃ n : Int, r = [.int .u8 n]) :
    run M 394 [.c (.sl false 1 R)] [] = some (.c (.bool true), []) := by
  obtain ⟨h0, kbig, kdp, ksb, kba, kok, kbn, kds, kmb, kpm, krb, kdb, kk⟩ := h
  have hbig := laws_big.says kbig R hl
  by_cases cb : 1048576 < R.length
  · rw [decide_eq_true cb] at hbig
    refine run_code (b := laws_FnStores.m) h0 ⟨0, ?_⟩
    simp (maxSteps := 1000000) [exB, laws_FnStores.m, laws_FnStores.b, bs_get, List.take_of_length_le, setAt, str_add, hbig]
  rw [decide_eq_false cb] at hbig
  have hR : Bytes R := ⟨by omega, hr⟩
  obtain ⟨s, hU, h1⟩ := spec_DrawStore.says kds hR
  obtain ⟨rows, hrl, hrx, h2⟩ := spec_DrawPlaces.says kdp hR
  have hS := ok_store hU.ok
  have htm := hU.time
  have htm0 := (storeOk_iff.1 hU.ok).time
  have e9 : IntKind.i64.wrap (s.time + 1) = s.time + 1 := wrap_i64 (by omega) (by omega)
  have er : (s.boxes.map encBox).length = s.boxes.length := by simp
  by_cases he : s.boxes = []
  · obtain ⟨m1, m2, m3⟩ := make_first hU he
    have h3 := impl_MakeBox.says kmb s hS 5 inbox (by decide)
    rw [m1] at h3
    have h4 := impl_StoreOk.says kok (makeTo s 5 inbox) (ok_store m2).in_
    rw [m2] at h4
    have el : s.boxes.length = 0 := by rw [he]; rfl
    have em : ((makeTo s 5 inbox).boxes.map encBox).length = 1 := by simp [m3]
    have et : (makeTo s 5 inbox).time = s.time + 1 := rfl
    have ew : (makeTo s 5 inbox).who = s.who := rfl
    refine run_code (b := laws_FnStores.m) h0 ⟨0, ?_⟩
    simp only [encStore, boxes, ints, et, ew] at h1 h3 h4
    clear m1 m2
    simp only [inbox] at *
    generalize (makeTo s 5 [105, 110, 98, 111, 120]).boxes.map encBox = ra at *
    generalize irow (makeTo s 5 [105, 110, 98, 111, 120]).gone = ga at *
    have el2 : (s.boxes.map encBox).length = 0 := by rw [er]; exact el
    generalize s.boxes.map encBox = rb at *
    generalize irow s.gone = rg at *
    simp (maxSteps := 1000000) [exB, laws_FnStores.m, laws_FnStores.b, bs_get, List.take_of_length_le, setAt, str_add, hbig, h1, h2, h3, h4, el2, em, e9]
  · have hpos : 0 < s.boxes.length := List.length_pos_iff.2 he
    obtain ⟨x0, hx0, r0⟩ := hrx rows[0] (List.getElem_mem _)
    obtain ⟨x1, hx1, r1⟩ := hrx rows[1] (List.getElem_mem _)
    obtain ⟨i, hi, ei⟩ := tmod_small x0 s.boxes.length hpos
    obtain ⟨y, hy, ey⟩ := tmod_small x1 8 (by omega)
    simp only [Int.cast_ofNat_Int] at ey
    have p0 : ∀ hh : 0 < rows.length, rows[0]'hh = [I x0] := fun _ => r0
    have p1 : ∀ hh : 1 < rows.length, rows[1]'hh = [I x1] := fun _ => r1
    have hg := used_gid hU hi
    obtain ⟨a, ok, q1, oa, sa, ta⟩ := put_part hU hi (y : Int)
    obtain ⟨q2, ob⟩ := rename_fresh hU hi
    have q3 := drop_done hU hi
    have oc := dropBox_ok hU.ok (g := s.boxes[i].gid) ⟨by omega, by omega⟩
    rw [q3] at oc
    have hnb : named (stampedTo s i (renamedB s fresh s.boxes[i])).boxes fresh = some i := named_there hU hi rfl
    have sb : (stampedTo s i (renamedB s fresh s.boxes[i])).boxes.length = s.boxes.length ∧ ∀ k (h : k < s.boxes.length) (h2 : k < (stampedTo s i (renamedB s fresh s.boxes[i])).boxes.length), k ≠ i → (stampedTo s i (renamedB s fresh s.boxes[i])).boxes[k] = s.boxes[k] := set_same _
    have tb : (stampedTo s i (renamedB s fresh s.boxes[i])).time = s.time + 1 := rfl
    have h3 := impl_PutMail.says kpm s hS s.boxes[i].gid 9000 y newN
    have h4 := impl_RenameBox.says krb s hS s.boxes[i].gid fresh (by decide)
    have h5 := impl_DropBox.says kdb s hS s.boxes[i].gid
    rw [q1] at h3
    rw [q2] at h4
    rw [q3] at h5
    have hgc : s.boxes[i].gid ∈ gput s.gone s.boxes[i].gid := gput_mem.2 (.inl rfl)
    have hcx : ∀ k (h : k < s.boxes.length), (boxO (s.boxes.take i ++ s.boxes.drop (i + 1)) s.boxes[k].gid).isSome = decide (k ≠ i) := fun k hk => drop_at hU hi hk
    obtain ⟨c, hc⟩ : ∃ c : Store, c = { s with boxes := s.boxes.take i ++ s.boxes.drop (i + 1), gone := gput s.gone s.boxes[i].gid } := ⟨_, rfl⟩
    rw [← hc] at h5 oc
    have hgc' : s.boxes[i].gid ∈ c.gone := by rw [hc]; exact hgc
    have hcx' : ∀ k (h : k < s.boxes.length), (boxO c.boxes s.boxes[k].gid).isSome = decide (k ≠ i) := by rw [hc]; exact hcx
    have h6 := impl_MakeBox.says kmb c (ok_store oc) s.boxes[i].gid otherN (by decide)
    rw [make_again hgc'] at h6
    generalize stampedTo s i (renamedB s fresh s.boxes[i]) = b at *
    have h7 := impl_StoreOk.says kok a (ok_store oa).in_
    have h8 := impl_StoreOk.says kok b (ok_store ob).in_
    have h9 := impl_StoreOk.says kok c (ok_store oc).in_
    rw [oa] at h7
    rw [ob] at h8
    rw [oc] at h9
    have h10 := impl_BoxNamed.says kbn b fresh (ok_store ob).in_.b
    rw [hnb] at h10
    have h11 := impl_Knows.says kk c s.boxes[i].gid (ok_store oc).in_
    rw [knows_iff.2 (.inr hgc')] at h11
    have h12 := impl_Knows.says kk a 9000 (ok_store oa).in_
    have h13 := impl_Knows.says kk s 9000 hS.in_
    rw [knows_new hU] at h13
    obtain ⟨f, hf⟩ := lw_loop (M := M) kba ksb (s.boxes.length + 1) ⟨s, a, b, c, s.boxes[i].gid, i, ok, 2000080, 2000624, 2000768, 2000912⟩ hS.in_.b hS.in_.i (ok_store oc).in_.b sa sb hcx'
    have a1 : ∀ hh, (s.boxes.map encBox)[i]'hh = encBox s.boxes[i] := by intro hh; simp
    have n0 : ¬ s.boxes.length = 0 := by omega
    have n1 : ¬ (s.boxes.length : Int) = 0 := by omega
    refine run_code (b := laws_FnStores.m) h0 ⟨s.boxes.length + 1, ?_⟩
    simp only [lwS, lwE, lwO] at hf
    simp only [encStore, boxes, ints, tb, fresh, otherN, newN, intO] at h1 h3 h4 h5 h6 h7 h8 h9 h10 h11 h12 h13 hf
    simp only [encBox, mails, ints] at a1
    have e0 : ((0 : Nat) : Int) = 0 := rfl
    simp only [e0] at hf
    clear hcx hcx' hgc hgc' hc sa sb hnb q1 q2 q3 oa ob oc
    generalize s.boxes.map encBox = v1 at *
    generalize irow s.gone = w1 at *
    generalize a.boxes.map encBox = v2 at *
    generalize irow a.gone = w2 at *
    generalize b.boxes.map encBox = v3 at *
    generalize irow b.gone = w3 at *
    generalize c.boxes.map encBox = v4 at *
    generalize irow c.gone = w4 at *
    generalize s.boxes[i].mails.map encMail = r1' at *
    generalize irow s.boxes[i].gone = r2' at *
    generalize s.boxes[i].gid = g at *
    cases ok
    · simp (maxSteps := 1000000) [exB, laws_FnStores.m, laws_FnStores.b, bs_get, List.take_of_length_le, setAt, str_add, hbig, h1, h2, h3, h4, h5, h6, h7, h8, h9, h10, h11, h12, h13, hf, er, e9, n0, n1, p0, p1, ei, ey, hrl, hi, a1]
    · obtain ⟨t1, t2⟩ := ta rfl
      rw [t2] at h12
      rw [t1] at h3 h7 h12 hf
      simp (maxSteps := 1000000) [exB, laws_FnStores.m, laws_FnStores.b, bs_get, List.take_of_length_le, setAt, str_add, hbig, h1, h2, h3, h4, h5, h6, h7, h8, h9, h10, h11, h12, h13, hf, er, e9, n0, n1, p0, p1, ei, ey, hrl, hi, a1]
theorem laws_FnStores.row (h : laws_FnStores.k M) {as : List V} (ha : HasVs [.cell (.sl [.int .u8])] as) : run M 394 as [] = some (.c (.bool true), []) := by
  cases ha with | cons h0 ha =>
  cases ha
  cases h0 with | cell h0 =>
  cases h0 with | sl _ rows hl h1 h2 =>
  refine laws_FnStores.says h rows (Nat.le_trans hl (by decide)) fun i r hr => ?_
  have hlen := h1 i r hr
  match r, hlen with
  | [a], _ =>
    obtain ⟨n, rfl⟩ := has_int (h2 i 0 [a] (.int .u8) a hr rfl rfl)
    exact ⟨n, rfl⟩
end Mx
